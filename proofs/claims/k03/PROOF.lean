import PyProof.Rows.All
import Wide.All
import OpenK.AllK
import Wide.FinOn
import HandS.ForMost
import HandS.ForExc
import HandS.Wide
import HandS.Zip
import HandS.TupAny
import PyProof.Rows.IntBool
import HandS.TupMul
import KE.KDictKeyed
import KE.KDictCopyH
import KE.SortData
import KE.DataMinMax
import KE.DatumOrd
import HandS.HeadHook2
import HandS.ExcInitHot
import HandS.ExcField
import HandS.IsInst
import KE.KExcIs
import HandS.Deep
import HandS.Style
import HandS.SortInts
import HandS.Conv
import HandS.RaiseMore
import HandS.SetFor
import HandS.Strs
import HandS.TryOnly
import KE.DataFind
import KE.GoesEnum
import KE.DataMinKey
import KE.KDictWalk
import KE.KDictSum
import HandS.ExcValue
import HandS.SetBool
import HandS.TupSets
import KE.KDictZip
import KE.DataCmp
import HandS.WideBits
import PyProof.SumAny
import HandS.DictComp
import HandS.Flow
import HandS.Ends
import KE.KStateDown
import HandS.More
import HandS.WordsExc
import HandS.Defaults
import HandS.Head0
import HandS.Head1
import HandS.Head2
import HandS.HeadEnd
import HandS.HeadHook1
import PySem.Challenge.RW_tasterow_k03_rankings_numbered
set_option Elab.async false
set_option linter.all false
set_option maxRecDepth 100000
set_option maxHeartbeats 4000000
namespace T
open PySem PySem.Spec PyProof.Rows L2
inductive Ky where
  | k (k : Key) | t (ks : List Key)
  deriving DecidableEq
inductive D where
  | non | bl (b : Bool) | int (i : Int) | str (x : Str)
  | lst (xs : List D) | tup (xs : List D) | dct (ks : List Ky) (vs : List D) | ref (a : Addr) | scr (ns : List Int)
  deriving Inhabited
/-- what a mutable cell holds -/
inductive Ce where
  | lst (xs : List D) | dct (ks : List Ky) (vs : List D)
  /-- a dict whose keys are tuples of whole numbers: its entries; ep: how often it was written to (any number) -/
  | dt (es : List (D × D)) (ep : Nat)
abbrev MH := Addr → Option Ce
def MH.set (M : MH) (a : Addr) (c : Ce) : MH := fun b => if b = a then some c else M b
/-- M is a part of M' -/
def MH.Le (M M' : MH) : Prop := ∀ a c, M a = some c → M' a = some c
abbrev En := List (Option D)
/-- an exception: its class, its field -/
structure Xc where
  cls : Str
  arg : Option (Str × D)
/-- is x's class one of c's? every class here stands right below TasteError, that below ValueError -/
def subX (x c : Str) : Bool := decide (c = x) || (decide (c = ("TasteError" : Str)) || decide (c = ("ValueError" : Str)))
mutual
def D.toP : D → PyData
  | .non => .none
  | .bl b => .bool b
  | .int i => .int i
  | .str x => .str x
  | .lst xs => .list (toPs xs)
  | .tup xs => .tuple (toPs xs)
  | .dct [] [] => .dict []
  | .dct _ _ => .none
  | .ref _ => .none
  | .scr _ => .none
def toPs : List D → List PyData
  | [] => []
  | x :: r => x.toP :: toPs r
end
mutual
/-- no reference, no dict within -/
def D.pure : D → Bool
  | .non | .bl _ | .int _ => true
  | .str x => PyData.strOk x
  | .lst xs | .tup xs => pures xs
  | .dct _ _ | .ref _ | .scr _ => false
def pures : List D → Bool
  | [] => true
  | x :: r => x.pure && pures r
end
mutual
/-- no reference, no dict but the empty one within -/
def D.shw : D → Bool
  | .non | .bl _ | .int _ => true
  | .str x => PyData.strOk x
  | .lst xs | .tup xs => shws xs
  | .dct [] [] => true
  | .dct _ _ | .ref _ | .scr _ => false
def shws : List D → Bool
  | [] => true
  | x :: r => x.shw && shws r
end
mutual
def D.depth : D → Nat
  | .lst xs | .tup xs => depths xs + 1
  | .dct _ _ => 1
  | _ => 0
def depths : List D → Nat
  | [] => 0
  | x :: r => max x.depth (depths r)
end
/-- a key's numbers -/
def numsN : List D → Option (List Int)
  | [] => some []
  | .int i :: r => (numsN r).map (i :: ·)
  | .bl b :: r => (numsN r).map (b2i b :: ·)
  | _ :: _ => none
def keyN : D → Option (List Int)
  | .tup xs => numsN xs
  | _ => none
/-- what stands at a key -/
def dtGet (es : List (D × D)) (k : List Int) : Option D := (es.find? fun e => decide (keyN e.1 = some k)).map (·.2)
def dtPut (es : List (D × D)) (kd : D) (k : List Int) (v : D) : List (D × D) := if (dtGet es k).isSome then es.map (fun e => if keyN e.1 = some k then (e.1, v) else e) else es ++ [(kd, v)]
/-- == on data -/
def D.eqv (x y : D) : Bool := PyData.eqv x.toP y.toP
/-- the value that stands at d -/
def vw (M : MH) (d : D) : D := match d with
  | .ref a => (match M a with
    | some (.lst xs) => .lst xs
    | some (.dct ks vs) => .dct ks vs
    | some (.dt _ _) => .ref a
    | none => .ref a)
  | d => d
inductive Op where | add | sub | mul | fdiv | fdn | mod | pow
  deriving DecidableEq
inductive Cp where | eq | ne | lt | le | gt | ge | inn | nin | is | isn
  deriving DecidableEq
inductive Ty where | int | bool | str | tuple | list | dict
  deriving DecidableEq
/-- built-in functions and types that are called -/
inductive Bi where
  | len | abs | all | any | sum | min1 | max1 | min2 | max2 | sorted | tuple | list | int | str | repr | divmod | lenset | listrange | tuprange | sortedset
  deriving DecidableEq
inductive Mt where
  | append | pop0 | pop | extend | index | count | setd
  deriving DecidableEq
/-- forms of their own, over parts -/
inductive Px where
  | eqn (ne tup : Bool) | dct0 (t : Bool) | cat | din (neg : Bool) | dget | sortT | sortD | minT | minD | maxlen
  /-- {a: i, b: j}.get(w, d); len(set(list(zip(x, y)))); len(set(x)), x a list of pairs of truth values; tuple < tuple -/
  | kget (a : Str) (i : Int) (b : Str) (j d : Int) | lsz | lsp | ltT
  /-- sorted(set(x)), x a list of tuples; x in SIZES; SIZES[x] -/
  | ssT | sin (neg : Bool) | sget
  /-- sorted(d.values()), whole numbers; len(d); divmod(i, j); tuple(range(i, j)); sum(x, ()), x of tuples -/
  | sortV | lenD | dvm | tup2 | sumT
  deriving DecidableEq
mutual
/-- a target -/
inductive Tg where
  | nm (i : Nat)
  | tp (gs : Tgs)
inductive Tgs where
  | nil
  | cons (g : Tg) (r : Tgs)
end
mutual
inductive Ex where
  | var (i : Nat) | glb (k : Nat) | non | bl (b : Bool) | int (i : Int) | str (x : Str)
  | bin (o : Op) (a b : Ex) | mulC (a b : Ex) | neg (a : Ex) | not (a : Ex) | and (a b : Ex) | or (a b : Ex) | ite (c a b : Ex)
  | cmp (o : Cp) (a b : Ex) | cmp2 (o1 : Cp) (a b : Ex) (o2 : Cp) (c : Ex) | cmp3 (o1 : Cp) (a b : Ex) (o2 : Cp) (c : Ex) (o3 : Cp) (d : Ex)
  | tup (es : Es) | lst (m : Bool) (es : Es) | px (m : Bool) (p : Px) (es : Es)
  | call (f : Nat) (es : Es) | bi (m : Bool) (b : Bi) (es : Es) | isi (e : Ex) (ts : List Ty) | mth (m : Mt) (r : Ex) (es : Es)
  | idx (a i : Ex) | sl (a : Ex) (lo hi : Eo) | rev (a : Ex)
  /-- isinstance of the exception that is handled; its field -/
  | isE (e : Ex) (tu : Bool) (cs : List Str) | fldE (e : Ex) (f : Str)
  | lc (m : Bool) (e : Ex) (g : Tg) (it : It) (c : Eo)
  | dc (k v : Ex) (g : Tg) (it : It) (c : Eo)
  | lc2 (m : Bool) (e : Ex) (g : Tg) (it : It) (c : Eo) (g2 : Tg) (it2 : It) (c2 : Eo)
inductive Es where
  | nil
  | cons (e : Ex) (r : Es)
inductive Eo where
  | non
  | som (e : Ex)
inductive It where
  | ex (e : Ex) | dvs (e : Ex) | dks (e : Ex) | dis (e : Ex) | rng (e : Ex) | rng2 (a b : Ex) | enu (e : Ex) | zip (a b : Ex)
end
mutual
inductive Sm where
  | par2 (i j : Nat) (a b : Ex) | par3 (i j l : Nat) (a b c : Ex)
  | asg (g : Tg) (e : Ex) | swp (a i b j e : Ex) | asgO (g : Tg) (a b : Ex) | sto (a i e : Ex) | exp (e : Ex) | ret (e : Ex) | ret0 | pass | never
  | iff (c : Ex) (t e : Ss) | whl (c : Ex) (b : Ss) | for (g : Tg) (it : It) (b : Ss)
  /-- raise c(e), f its field; raise c(); try b, except c as slot i: h -/
  | rai (c f : Str) (e : Ex) | rai0 (c : Str) | tryE (b : Ss) (c : Str) (i : Nat) (h : Ss)
inductive Ss where
  | nil
  | cons (s : Sm) (r : Ss)
end
def isB (x : D) (k : Bool → Prop) : Prop := match x with
  | .bl b => k b
  | _ => False
def MulOk (i j : Int) : Prop := (-(2 ^ 64) < i ∧ i < 2 ^ 64) ∨ (-(2 ^ 64) < j ∧ j < 2 ^ 64)
def opD (o : Op) (x y : D) (k : D → Prop) : Prop := match o, x, y with
  | .add, .int i, .int j => k (.int (i + j))
  | .sub, .int i, .int j => k (.int (i - j))
  | .add, .bl i, .int j => k (.int (b2i i + j))
  | .sub, .bl i, .int j => k (.int (b2i i - j))
  | .mul, .int i, .int j => MulOk i j ∧ k (.int (i * j))
  | .fdiv, .int i, .int j => (0 < j ∧ j < 2 ^ 64) ∧ k (.int (i / j))
  | .fdn, .int i, .int j => (j ≠ 0 ∧ -(2 ^ 64) < j ∧ j < 2 ^ 64) ∧ k (.int (Int.fdiv i j))
  | .mod, .int i, .int j => 0 < j ∧ k (.int (i % j))
  | .pow, .int i, .int j => CPow i j ∧ k (.int (i ^ j.toNat))
  | .add, .lst xs, .lst ys => xs.length + ys.length ≤ sizeLine ∧ k (.lst (xs ++ ys))
  | .add, .tup xs, .tup ys => xs.length + ys.length ≤ sizeLine ∧ k (.tup (xs ++ ys))
  | .mul, .tup xs, .int n => (xs ≠ [] ∧ 2 ≤ n ∧ n ≤ 1000 ∧ xs.length ≤ 1000) ∧ k (.tup (List.replicate n.toNat xs).flatten)
  | .mul, .lst xs, .int n => (0 ≤ n ∧ n < 2 ^ 60 ∧ xs.length * n.toNat ≤ sizeLine) ∧ k (.lst (List.replicate n.toNat xs).flatten)
  | _, _, _ => False
/-- a list repeated -/
def repD (x y : D) (k : List D → Prop) : Prop := match x, y with
  | .lst xs, .int n => (0 ≤ n ∧ n < 2 ^ 60 ∧ xs.length * n.toNat ≤ sizeLine) ∧ k (List.replicate n.toNat xs).flatten
  | _, _ => False
/-- data that may be compared by == -/
def cmpble (x : D) : Prop := x.pure = true ∧ x.depth ≤ 60
/-- texts are compared as they are -/
def eqS (x y : D) (k : Bool → Prop) (g : Prop) : Prop := match x, y with
  | .str a, .str b => k (decide (a = b))
  | _, _ => g
def cmpD (o : Cp) (x y : D) (k : Bool → Prop) : Prop := match o with
  | .eq => eqS x y k ((cmpble x ∧ cmpble y) ∧ k (x.eqv y))
  | .ne => eqS x y (fun b => k (!b)) ((cmpble x ∧ cmpble y) ∧ k (!x.eqv y))
  | .lt => (match x, y with | .int i, .int j => k (decide (i < j)) | _, _ => False)
  | .le => (match x, y with | .int i, .int j => k (decide (i ≤ j)) | _, _ => False)
  | .gt => (match x, y with | .int i, .int j => k (decide (j < i)) | _, _ => False)
  | .ge => (match x, y with | .int i, .int j => k (decide (j ≤ i)) | _, _ => False)
  | .inn => (match y with | .lst ys => (cmpble x ∧ cmpble (.lst ys)) ∧ k (ys.any fun z => D.eqv z x) | .tup ys => (cmpble x ∧ cmpble (.tup ys)) ∧ k (ys.any fun z => D.eqv z x) | _ => False)
  | .nin => (match y with | .lst ys => (cmpble x ∧ cmpble (.lst ys)) ∧ k (!ys.any fun z => D.eqv z x) | .tup ys => (cmpble x ∧ cmpble (.tup ys)) ∧ k (!ys.any fun z => D.eqv z x) | _ => False)
  | .is => (match x, y with | .bl a, .bl b => k (decide (a = b)) | x, .non => k (match x with | .non => true | _ => false) | _, _ => False)
  | .isn => (match x, y with | .bl a, .bl b => k (!decide (a = b)) | x, .non => k (match x with | .non => false | _ => true) | _, _ => False)
def ixD (x y : D) (k : D → Prop) : Prop := match x, y with
  | .lst xs, .int i => (match ixN xs.length i with | some j => (match xs[j]? with | some d => k d | none => False) | none => False)
  | .tup xs, .int i => (match ixN xs.length i with | some j => (match xs[j]? with | some d => k d | none => False) | none => False)
  | _, _ => False
def cut {α : Type} (xs : List α) (lo hi : Option Int) : List α := List.take (HT.sIx xs.length xs.length hi - HT.sIx xs.length 0 lo) (List.drop (HT.sIx xs.length 0 lo) xs)
def optI (o : Option D) (k : Option Int → Prop) : Prop := match o with
  | none => k none
  | some (.int i) => k (some i)
  | _ => False
def slD (x : D) (lo hi : Option Int) (k : D → Prop) : Prop := match x with
  | .lst xs => k (.lst (cut xs lo hi))
  | .tup xs => k (.tup (cut xs lo hi))
  | _ => False
def revD (x : D) (k : D → Prop) : Prop := match x with
  | .lst xs => k (.lst xs.reverse)
  | .tup xs => k (.tup xs.reverse)
  | _ => False
def D.isTup : D → Bool
  | .tup _ => true
  | _ => false
/-- the items of what is walked, and what must stand while it is -/
def itsD (M : MH) (x : D) (k : List D → (MH → Prop) → Prop) : Prop := match x with
  | .lst xs => k xs (fun _ => True)
  | .tup xs => k xs (fun _ => True)
  | .scr ns => k (ns.map .int) (fun _ => True)
  | .ref a => (match M a with
    | some (.lst xs) => k xs (fun M' => M' a = some (.lst xs))
    | _ => False)
  | _ => False
def isTy (x : D) : Ty → Bool
  | .int => (match x with | .int _ => true | .bl _ => true | _ => false)
  | .bool => (match x with | .bl _ => true | _ => false)
  | .str => (match x with | .str _ => true | _ => false)
  | .tuple => (match x with | .tup _ => true | _ => false)
  | .list => (match x with | .lst _ => true | _ => false)
  | .dict => (match x with | .dct _ _ => true | _ => false)
def D.isRef : D → Bool
  | .ref _ => true
  | _ => false
def isOk (x : D) (ts : List Ty) : Prop := x.isRef = false ∧ (∀ ns, x ≠ .scr ns) ∧ ts.length ≤ sizeLine
def ints? : List D → Option (List Int)
  | [] => some []
  | .int i :: r => (ints? r).map (i :: ·)
  | _ :: _ => none
/-- tuples of whole numbers -/
def rows? : List D → Option (List (List Int))
  | [] => some []
  | .tup xs :: r => (match ints? xs, rows? r with | some is, some rs => some (is :: rs) | _, _ => none)
  | _ :: _ => none
/-- tuples -/
def tups? : List D → Option (List (List D))
  | [] => some []
  | .tup xs :: r => (tups? r).map (xs :: ·)
  | _ :: _ => none
/-- pairs of truth values -/
def prs? : List D → Option (List (Bool × Bool))
  | [] => some []
  | .tup [.bl a, .bl b] :: r => (prs? r).map ((a, b) :: ·)
  | _ :: _ => none
/-- the length of a sequence -/
def D.sz : D → Nat
  | .lst xs => xs.length
  | .tup xs => xs.length
  | _ => 0
def D.isSeq : D → Bool
  | .lst _ => true
  | .tup _ => true
  | _ => false
def bls? : List D → Option (List Bool)
  | [] => some []
  | .bl i :: r => (bls? r).map (i :: ·)
  | _ :: _ => none
/-- a new list: a cell, or data -/
def mkL (m : Bool) (ds : List D) (M : MH) (Q : D → MH → Prop) : Prop := if m = true then ∀ a, M a = none → Q (.ref a) (M.set a (.lst ds)) else Q (.lst ds) M
def seqD (x : D) (k : List D → Prop) : Prop := match x with
  | .lst xs => k xs
  | .tup xs => k xs
  | _ => False
/-- data whose repr the rules know -/
def reprOk (d : D) : Prop := d.shw = true ∧ d.toP.showable = true ∧ d.toP.depth ≤ 62 ∧ d.toP.shown.length ≤ sizeLine
def biD (m : Bool) (b : Bi) (ds : List D) (M : MH) (Q : D → MH → Prop) : Prop := match b, ds with
  | .len, [x] => (match vw M x with | .lst xs => Q (.int xs.length) M | .tup xs => Q (.int xs.length) M | _ => False)
  | .abs, [.int i] => Q (.int (if i < 0 then -i else i)) M
  | .all, [x] => (match vw M x with | .lst xs => (match bls? xs with | some bs => Q (.bl (bs.all id)) M | none => False) | _ => False)
  | .any, [x] => (match vw M x with | .lst xs => (match bls? xs with | some bs => Q (.bl (bs.any id)) M | none => False) | _ => False)
  | .tuple, [x] => seqD (vw M x) fun xs => Q (.tup xs) M
  | .list, [x] => seqD (vw M x) fun xs => mkL m xs M Q
  | .listrange, [.int i, .int j] => (-(2 ^ 61) ≤ i ∧ i < 2 ^ 61 ∧ -(2 ^ 61) ≤ j ∧ j < 2 ^ 61 ∧ j - i ≤ sizeLine) ∧ mkL m ((List.range (j - i).toNat).map fun k : Nat => .int (i + (k : Int))) M Q
  | .listrange, [.int n] => (-(2 ^ 62) ≤ n ∧ n ≤ sizeLine) ∧ mkL m ((List.range n.toNat).map fun i : Nat => .int i) M Q
  | .sorted, [x] => (match vw M x with | .lst xs => (match ints? xs with | some is => mkL m ((is.mergeSort).map .int) M Q | none => False) | .tup xs => (match ints? xs with | some is => mkL m ((is.mergeSort).map .int) M Q | none => False) | _ => False)
  | .tuprange, [.int n] => (-(2 ^ 62) ≤ n ∧ n ≤ sizeLine) ∧ Q (.tup ((List.range n.toNat).map fun i : Nat => .int i)) M
  | .lenset, [x] => seqD (vw M x) fun xs => (match ints? xs with | some is => is.length < 4000 ∧ ∀ ns : List Int, ns.Nodup → (∀ k, k ∈ ns ↔ k ∈ is) → Q (.int ns.length) M | none => False)
  | .sum, [x] => (match vw M x with | .lst xs => (match ints? xs with | some is => Q (.int is.sum) M | none => False) | _ => False)
  | .min1, [x] => (match vw M x with | .lst xs => (match ints? xs with | some is => 0 < is.length ∧ ∀ m ∈ is, (∀ y ∈ is, m ≤ y) → Q (.int m) M | none => False) | _ => False)
  | .max1, [x] => (match vw M x with | .lst xs => (match ints? xs with | some is => 0 < is.length ∧ ∀ m ∈ is, (∀ y ∈ is, y ≤ m) → Q (.int m) M | none => False) | _ => False)
  | .min2, [.int i, .int j] => Q (.int (if j < i then j else i)) M
  | .max2, [.int i, .int j] => Q (.int (if j > i then j else i)) M
  | .sortedset, [x] => seqD (vw M x) fun xs => (match ints? xs with | some is => is.length < 64 ∧ ∀ ns : List Int, ns.Pairwise (· < ·) → (∀ k, k ∈ ns ↔ k ∈ is) → mkL m (ns.map .int) M Q | none => False)
  | .int, [.bl b] => Q (.int (if b then 1 else 0)) M
  | .int, [.int i] => Q (.int i) M
  | .str, [.int i] => i.natAbs.log2 < 1920 ∧ Q (.str (toString i)) M
  | .str, [.str x] => Q (.str x) M
  | .str, [.bl b] => Q (.str (if b then "True" else "False")) M
  | .repr, [x] => reprOk (vw M x) ∧ Q (.str (vw M x).toP.shown) M
  | _, _ => False
/-- a dict cell and a key -/
def dtOn (M : MH) (d k : D) (f : Addr → List (D × D) → List Int → Prop) : Prop := match d, keyN k with
  | .ref a, some ks => (match M a with
    | some (.dt es _) => f a es ks
    | _ => False)
  | _, _ => False
/-- a dict cell that is walked -/
def dtW (M : MH) (x : D) (f : Addr → List (D × D) → Nat → Prop) : Prop := match x with
  | .ref a => (match M a with
    | some (.dt es ep) => es.length ≤ sizeLine ∧ f a es ep
    | _ => False)
  | _ => False
def pxD (m : Bool) (p : Px) (ds : List D) (M : MH) (Q : D → MH → Prop) : Prop := match p, ds with
  | .eqn ne false, [x] => (match vw M x with | .lst xs => Q (.bl (xs.isEmpty != ne)) M | _ => False)
  | .eqn ne true, [x] => (match vw M x with | .tup xs => Q (.bl (xs.isEmpty != ne)) M | _ => False)
  | .cat, [x, y] => (match vw M x, vw M y with | .lst xs, .lst ys => xs.length + ys.length ≤ sizeLine ∧ mkL m (xs ++ ys) M Q | _, _ => False)
  | .dct0 false, [] => if m = true then ∀ a, M a = none → Q (.ref a) (M.set a (.dct [] [])) else Q (.dct [] []) M
  | .dct0 true, [] => ∀ a, M a = none → Q (.ref a) (M.set a (.dt [] 0))
  | .sortT, [x] => (match vw M x with
    | .lst xs => (match rows? xs with | some rs => (∀ r ∈ rs, r ≠ []) ∧ mkL m ((rs.mergeSort fun a b => decide (a ≤ b)).map fun r => .tup (r.map .int)) M Q | none => False)
    | .ref a => (match M a with | some (.dt es _) => (match rows? (es.map fun e => e.1) with | some rs => (∀ r ∈ rs, r ≠ []) ∧ mkL m ((rs.mergeSort fun a b => decide (a ≤ b)).map fun r => .tup (r.map .int)) M Q | none => False) | _ => False)
    | _ => False)
  | .sortD, [x] => (match vw M x with | .lst xs => (pures xs = true ∧ depths xs ≤ 60 ∧ PySem.W.AllAlike (xs.map D.toP) ∧ PySem.W.Sortable (xs.map D.toP)) ∧ mkL m (xs.mergeSort (PySem.W.dataLe false D.toP)) M Q | _ => False)
  | .minD, [x] => (match vw M x with | .lst xs => (pures xs = true ∧ depths xs ≤ 60 ∧ PySem.W.AlikeAll (xs.map D.toP) ∧ xs ≠ []) ∧ ∀ d ∈ xs, (∀ e ∈ xs, PySem.W.dataLt e.toP d.toP = false) → Q d M | _ => False)
  | .minT, [.tup xs, .tup ys] => (match ints? xs, ints? ys with | some a, some b => Q (.tup (if b < a then ys else xs)) M | _, _ => False)
  | .maxlen, [x] => (match vw M x with | .lst xs => (0 < xs.length ∧ xs.all D.isSeq = true) ∧ ∀ d ∈ xs, (∀ e ∈ xs, e.sz ≤ d.sz) → Q d M | _ => False)
  | .sortV, [x] => dtW M x fun _ es _ => (match ints? (es.map fun e => e.2) with | some is => mkL m ((is.mergeSort).map .int) M Q | none => False)
  | .lenD, [x] => dtW M x fun _ es _ => Q (.int es.length) M
  | .dvm, [.int i, .int j] => (0 < j ∧ j < 2 ^ 64) ∧ Q (.tup [.int (i / j), .int (i % j)]) M
  | .tup2, [.int i, .int j] => (-(2 ^ 61) ≤ i ∧ i < 2 ^ 61 ∧ -(2 ^ 61) ≤ j ∧ j < 2 ^ 61 ∧ j - i ≤ sizeLine) ∧ Q (.tup ((List.range (j - i).toNat).map fun k : Nat => .int (i + (k : Int)))) M
  | .sumT, [x, .tup []] => seqD (vw M x) fun xs => (match tups? xs with | some tss => tss.flatten.length ≤ sizeLine ∧ Q (.tup tss.flatten) M | none => False)
  | .din neg, [k, d] => dtOn M d k fun _ es ks => Q (.bl ((dtGet es ks).isSome != neg)) M
  | .dget, [d, k] => dtOn M d k fun _ es ks => (match dtGet es ks with | some v => Q v M | none => False)
  | .kget a i b j d, [.str w] => Q (.int (if w = a then i else if w = b then j else d)) M
  | .lsz, [x, y] => (match vw M x, vw M y with
    | .lst xs, .lst ys => (match bls? xs, bls? ys with
      | some as, some bs => (as.length = 4 ∧ bs.length = 4) ∧ ∀ ns : List (Bool × Bool), ns.Nodup → (∀ k, k ∈ ns ↔ k ∈ as.zip bs) → Q (.int (ns.length : Nat)) M
      | _, _ => False)
    | _, _ => False)
  | .lsp, [x] => (match vw M x with
    | .lst xs => (match prs? xs with
      | some ks => ks.length = 4 ∧ ∀ ns : List (Bool × Bool), ns.Nodup → (∀ k, k ∈ ns ↔ k ∈ ks) → Q (.int (ns.length : Nat)) M
      | none => False)
    | _ => False)
  | .ssT, [x] => (match vw M x with
    | .lst xs => (match rows? xs with
      | some rs => (rs.length < 64 ∧ ∃ (d : Nat) (B : Int), 1 ≤ d ∧ ∀ r ∈ rs, r.length = d ∧ ∀ y ∈ r, 0 ≤ y ∧ y < B) ∧ ∀ ns : List (List Int), ns.Nodup → (∀ k, k ∈ ns ↔ k ∈ rs) → ns.Pairwise (fun a b => a ≤ b) → mkL m (ns.map fun r => .tup (r.map .int)) M Q
      | none => False)
    | _ => False)
  | .sin neg, [.str w] => Q (.bl (decide (w = "triple" ∨ w = "quadruple") != neg)) M
  | .sget, [.str w] => if w = "triple" then Q (.tup [.int 3, .int 3]) M else if w = "quadruple" then Q (.tup [.int 4, .int 2]) M else False
  | .ltT, [.tup xs, .tup ys] => (match ints? xs, ints? ys with | some a, some b => Q (.bl (decide (a < b))) M | _, _ => False)
  | _, _ => False
/-- the first place of an equal one -/
def idxD (x d : D) (k : Nat → Prop) : Prop := match x with
  | .tup xs => (cmpble (.tup xs) ∧ cmpble d) ∧ (match xs.findIdx? (fun z => D.eqv z d) with | some j => k j | none => False)
  | .lst xs => (cmpble (.lst xs) ∧ cmpble d) ∧ (match xs.findIdx? (fun z => D.eqv z d) with | some j => k j | none => False)
  | _ => False
/-- how often an equal one stands -/
def cntD (x d : D) (k : Nat → Prop) : Prop := match x with
  | .lst xs => (cmpble (.lst xs) ∧ cmpble d) ∧ k (xs.countP fun z => D.eqv z d)
  | _ => False
/-- what a method is asked of -/
def tyM (b : Mt) (x : D) (M : MH) : Prop := match b, x with
  | .index, x => (match vw M x with | .tup _ => True | .lst _ => True | _ => False)
  | .count, x => (match vw M x with | .lst _ => True | _ => False)
  | .setd, .ref a => (match M a with | some (.dt _ _) => True | _ => False)
  | .setd, _ => False
  | _, .ref a => (match M a with | some (.lst _) => True | _ => False)
  | _, _ => False
def mtD (b : Mt) (x : D) (ds : List D) (M : MH) (Q : D → MH → Prop) : Prop := match b, x, ds with
  | .append, .ref a, [d] => (match M a with | some (.lst xs) => xs.length < sizeLine ∧ Q .non (M.set a (.lst (xs ++ [d]))) | _ => False)
  | .pop0, .ref a, [] => (match M a with | some (.lst xs) => (match xs.getLast? with | some d => Q d (M.set a (.lst xs.dropLast)) | none => False) | _ => False)
  | .pop, .ref a, [.int i] => (match M a with | some (.lst xs) => (0 ≤ i ∧ i < 2 ^ 62) ∧ (match xs[i.toNat]? with | some d => Q d (M.set a (.lst (xs.eraseIdx i.toNat))) | none => False) | _ => False)
  | .index, x, [d] => idxD (vw M x) d fun j => Q (.int j) M
  | .count, x, [d] => cntD (vw M x) d fun j => Q (.int j) M
  | .setd, x, [kd, v] => dtOn M x kd fun a es ks => es.length < sizeLine ∧ (match dtGet es ks with | some d => Q d M | none => ∀ ep, Q v (M.set a (.dt (dtPut es kd ks v) ep)))
  | .extend, .ref a, [y] => (match M a with | some (.lst xs) => (match vw M y with | .lst ys => xs.length + ys.length ≤ sizeLine ∧ Q .non (M.set a (.lst (xs ++ ys))) | _ => False) | _ => False)
  | _, _, _ => False
abbrev Cl := Nat → List D → MH → (D → MH → Prop) → (Xc → MH → Prop) → Prop
/-- exc: the exception that is handled (where it stands); hot: calls while one is -/
structure SC where
  call : Cl
  glob : Nat → Option D
  exc : Option (Addr × Xc)
  hot : Addr × Xc → Cl
def SC.hotC (C : SC) (p : Addr × Xc) : SC := ⟨C.hot p, C.glob, some p, C.hot⟩
/-- the handled exception, at d -/
def excAt (C : SC) (d : D) (k : Xc → Prop) : Prop := match d, C.exc with
  | .ref a, some (b, x) => a = b ∧ k x
  | _, _ => False
def fldX (x : Xc) (f : Str) (k : D → Prop) : Prop := match x.arg with
  | some (g, d) => g = f ∧ k d
  | none => False
def rd (ρ : En) (i : Nat) (k : D → Prop) : Prop := match ρ[i]? with
  | some (some d) => k d
  | _ => False
mutual
def Tg.own : Tg → List Nat
  | .nm i => [i]
  | .tp gs => gs.own
def Tgs.own : Tgs → List Nat
  | .nil => []
  | .cons g r => g.own ++ r.own
end
def wipeE (ρ : En) : List Nat → En
  | [] => ρ
  | v :: vs => (wipeE ρ vs).set v none
mutual
def Tg.put : Tg → D → En → (En → Prop) → Prop
  | .nm i, d, ρ, k => k (ρ.set i (some d))
  | .tp gs, d, ρ, k => (match d with
    | .tup ds => gs.put ds ρ k
    | .lst ds => gs.put ds ρ k
    | _ => False)
def Tgs.put : Tgs → List D → En → (En → Prop) → Prop
  | .nil, [], ρ, k => k ρ
  | .cons g r, d :: ds, ρ, k => g.put d ρ fun ρ' => r.put ds ρ' k
  | _, _, _, _ => False
end
def Tgs.len : Tgs → Nat
  | .nil => 0
  | .cons _ r => r.len + 1
/-- the turns of a comprehension -/
def wpC (G : MH → Prop) (body : List D → D → MH → (List D → MH → Prop) → Prop) : List D → List D → MH → (List D → MH → Prop) → Prop
  | [], acc, M, Q => G M ∧ Q acc M
  | x :: r, acc, M, Q => G M ∧ body acc x M fun acc' M' => wpC G body r acc' M' Q
/-- the turns of a dict's comprehension -/
def wpCd (G : MH → Prop) (body : List (D × D) → D → MH → (List (D × D) → MH → Prop) → Prop) : List D → List (D × D) → MH → (List (D × D) → MH → Prop) → Prop
  | [], acc, M, Q => G M ∧ Q acc M
  | x :: r, acc, M, Q => G M ∧ body acc x M fun acc' M' => wpCd G body r acc' M' Q
/-- an entry of it -/
def putD (acc : List (D × D)) (kd vd : D) (k : List (D × D) → Prop) : Prop := match keyN kd with
  | some ks => acc.length < sizeLine ∧ k (dtPut acc kd ks vd)
  | none => False
/-- the turns of a for -/
def wpF (G : MH → Prop) (body : D → En → MH → (En → MH → Prop) → Prop) : List D → En → MH → (En → MH → Prop) → Prop
  | [], ρ, M, N => G M ∧ N ρ M
  | x :: r, ρ, M, N => G M ∧ body x ρ M fun ρ' M' => wpF G body r ρ' M' N
/-- at most n turns of a while -/
def wpW (c : En → MH → (Bool → MH → Prop) → Prop) (body : En → MH → (En → MH → Prop) → Prop) : Nat → En → MH → (En → MH → Prop) → Prop
  | 0, _, _, _ => False
  | n + 1, ρ, M, N => c ρ M fun b M' => if b = true then body ρ M' fun ρ' M'' => wpW c body n ρ' M'' N else N ρ M'
mutual
def wpE (C : SC) (R : Xc → MH → Prop) : Ex → En → MH → (D → MH → Prop) → Prop
  | .var i, ρ, M, Q => rd ρ i fun d => Q d M
  | .glb k, _, M, Q => (match C.glob k with | some d => Q d M | none => False)
  | .non, _, M, Q => Q .non M
  | .bl b, _, M, Q => Q (.bl b) M
  | .int i, _, M, Q => Q (.int i) M
  | .str x, _, M, Q => Q (.str x) M
  | .bin o a b, ρ, M, Q => wpE C R a ρ M fun x M1 => wpE C R b ρ M1 fun y M2 => opD o (vw M2 x) (vw M2 y) fun z => Q z M2
  | .mulC a b, ρ, M, Q => wpE C R a ρ M fun x M1 => wpE C R b ρ M1 fun y M2 => repD (vw M2 x) (vw M2 y) fun zs => mkL true zs M2 Q
  | .neg a, ρ, M, Q => wpE C R a ρ M fun x M1 => (match x with | .int i => Q (.int (-i)) M1 | _ => False)
  | .not a, ρ, M, Q => wpE C R a ρ M fun x M1 => isB x fun b => Q (.bl (!b)) M1
  | .and a b, ρ, M, Q => wpE C R a ρ M fun x M1 => isB x fun c => if c = true then wpE C R b ρ M1 fun y M2 => isB y fun c2 => Q (.bl c2) M2 else Q (.bl false) M1
  | .or a b, ρ, M, Q => wpE C R a ρ M fun x M1 => isB x fun c => if c = true then Q (.bl true) M1 else wpE C R b ρ M1 fun y M2 => isB y fun c2 => Q (.bl c2) M2
  | .ite c a b, ρ, M, Q => wpE C R c ρ M fun x M1 => isB x fun k => if k = true then wpE C R a ρ M1 Q else wpE C R b ρ M1 Q
  | .cmp o a b, ρ, M, Q => wpE C R a ρ M fun x M1 => wpE C R b ρ M1 fun y M2 => cmpD o (vw M2 x) (vw M2 y) fun c => Q (.bl c) M2
  | .cmp2 o1 a b o2 c, ρ, M, Q => wpE C R a ρ M fun x M1 => wpE C R b ρ M1 fun y M2 => cmpD o1 (vw M2 x) (vw M2 y) fun k =>
      if k = true then wpE C R c ρ M2 fun z M3 => cmpD o2 (vw M3 y) (vw M3 z) fun k2 => Q (.bl k2) M3 else Q (.bl false) M2
  | .cmp3 o1 a b o2 c o3 d, ρ, M, Q => wpE C R a ρ M fun x M1 => wpE C R b ρ M1 fun y M2 => cmpD o1 (vw M2 x) (vw M2 y) fun k =>
      if k = true then wpE C R c ρ M2 fun z M3 => cmpD o2 (vw M3 y) (vw M3 z) fun k2 =>
        if k2 = true then wpE C R d ρ M3 fun u M4 => cmpD o3 (vw M4 z) (vw M4 u) fun k3 => Q (.bl k3) M4 else Q (.bl false) M3
      else Q (.bl false) M2
  | .tup es, ρ, M, Q => wpEs C R es ρ M fun ds M1 => ds.length ≤ sizeLine ∧ Q (.tup ds) M1
  | .lst m es, ρ, M, Q => wpEs C R es ρ M fun ds M1 => ds.length ≤ sizeLine ∧ mkL m ds M1 Q
  | .px m p es, ρ, M, Q => wpEs C R es ρ M fun ds M1 => pxD m p ds M1 Q
  | .call f es, ρ, M, Q => wpEs C R es ρ M fun ds M1 => C.call f ds M1 Q R
  | .bi m b es, ρ, M, Q => wpEs C R es ρ M fun ds M1 => biD m b ds M1 Q
  | .isi e ts, ρ, M, Q => wpE C R e ρ M fun x M1 => isOk (vw M1 x) ts ∧ Q (.bl (ts.any (isTy (vw M1 x)))) M1
  | .mth m r es, ρ, M, Q => wpE C R r ρ M fun x M1 => tyM m x M1 ∧ wpEs C R es ρ M1 fun ds M2 => mtD m x ds M2 Q
  | .idx a i, ρ, M, Q => wpE C R a ρ M fun x M1 => wpE C R i ρ M1 fun y M2 => ixD (vw M2 x) y fun d => Q d M2
  | .sl a lo hi, ρ, M, Q => wpE C R a ρ M fun x M1 => wpO C R lo ρ M1 fun l M2 => optI l fun l' => wpO C R hi ρ M2 fun h M3 => optI h fun h' => slD (vw M3 x) l' h' fun d => Q d M3
  | .rev a, ρ, M, Q => wpE C R a ρ M fun x M1 => revD (vw M1 x) fun d => Q d M1
  | .isE e _ cs, ρ, M, Q => wpE C R e ρ M fun d M1 => excAt C d fun x => Q (.bl (cs.any (subX x.cls))) M1
  | .fldE e f, ρ, M, Q => wpE C R e ρ M fun d M1 => excAt C d fun x => fldX x f fun v => Q v M1
  | .lc m e g it c, ρ, M, Q => wpI C R it ρ M fun items G M1 =>
      wpC G (fun acc x M' k => g.put x (wipeE ρ g.own) fun ρ' => wpT C (fun _ _ => False) c ρ' M' fun b M2 =>
        if b = true then wpE C (fun _ _ => False) e ρ' M2 fun d M3 => k (acc ++ [d]) M3 else k acc M2) items [] M1 fun ds M2 => mkL m ds M2 Q
  | .dc ke ve g it c, ρ, M, Q => wpI C R it ρ M fun items G M1 =>
      wpCd G (fun acc x M' k => g.put x (wipeE ρ g.own) fun ρ' => wpT C (fun _ _ => False) c ρ' M' fun b M2 =>
        if b = true then wpE C (fun _ _ => False) ke ρ' M2 fun kd M3 => wpE C (fun _ _ => False) ve ρ' M3 fun vd M4 => putD acc kd vd fun acc' => k acc' M4 else k acc M2) items [] M1 fun es M2 => ∀ a, M2 a = none → ∀ ep, Q (.ref a) (M2.set a (.dt es ep))
  | .lc2 m e g it c g2 it2 c2, ρ, M, Q => wpI C R it ρ M fun items G M1 =>
      wpC G (fun acc x M' k => g.put x (wipeE ρ (g.own ++ g2.own)) fun ρ' => wpT C (fun _ _ => False) c ρ' M' fun b M2 => if b = true then
          wpI C (fun _ _ => False) it2 ρ' M2 fun items2 G2 M3 => acc.length + items2.length ≤ sizeLine ∧
            wpC G2 (fun acc2 x2 M'' k2 => g2.put x2 (wipeE ρ' g2.own) fun ρ2 => wpT C (fun _ _ => False) c2 ρ2 M'' fun b2 M4 =>
              if b2 = true then wpE C (fun _ _ => False) e ρ2 M4 fun d M5 => k2 (acc2 ++ [d]) M5 else k2 acc2 M4) items2 acc M3 k
        else k acc M2) items [] M1 fun ds M2 => mkL m ds M2 Q
def wpEs (C : SC) (R : Xc → MH → Prop) : Es → En → MH → (List D → MH → Prop) → Prop
  | .nil, _, M, Q => Q [] M
  | .cons e r, ρ, M, Q => wpE C R e ρ M fun d M1 => wpEs C R r ρ M1 fun ds M2 => Q (d :: ds) M2
/-- an optional part -/
def wpO (C : SC) (R : Xc → MH → Prop) : Eo → En → MH → (Option D → MH → Prop) → Prop
  | .non, _, M, Q => Q none M
  | .som e, ρ, M, Q => wpE C R e ρ M fun d M1 => Q (some d) M1
/-- an optional test -/
def wpT (C : SC) (R : Xc → MH → Prop) : Eo → En → MH → (Bool → MH → Prop) → Prop
  | .non, _, M, Q => Q true M
  | .som e, ρ, M, Q => wpE C R e ρ M fun d M1 => isB d fun b => Q b M1
def wpI (C : SC) (R : Xc → MH → Prop) : It → En → MH → (List D → (MH → Prop) → MH → Prop) → Prop
  | .ex e, ρ, M, Q => wpE C R e ρ M fun x M1 => itsD M1 x fun xs G => Q xs G M1
  | .dvs e, ρ, M, Q => wpE C R e ρ M fun x M1 => dtW M1 x fun a es ep => Q (es.map fun e => e.2) (fun M' => M' a = some (.dt es ep)) M1
  | .dks e, ρ, M, Q => wpE C R e ρ M fun x M1 => dtW M1 x fun a es ep => Q (es.map fun e => e.1) (fun M' => M' a = some (.dt es ep)) M1
  | .dis e, ρ, M, Q => wpE C R e ρ M fun x M1 => dtW M1 x fun a es ep => Q (es.map fun e => .tup [e.1, e.2]) (fun M' => M' a = some (.dt es ep)) M1
  | .rng e, ρ, M, Q => wpE C R e ρ M fun x M1 => (match x with | .int n => n ≤ sizeLine ∧ -(2 ^ 62) ≤ n ∧ Q ((List.range n.toNat).map fun i : Nat => .int (0 + (i : Int))) (fun _ => True) M1 | _ => False)
  | .rng2 a b, ρ, M, Q => wpE C R a ρ M fun x M1 => wpE C R b ρ M1 fun y M2 => (match x, y with
      | .int i, .int j => (-(2 ^ 61) ≤ i ∧ i < 2 ^ 61 ∧ -(2 ^ 61) ≤ j ∧ j < 2 ^ 61 ∧ j - i ≤ sizeLine) ∧ Q ((List.range (j - i).toNat).map fun k : Nat => .int (i + (k : Int))) (fun _ => True) M2
      | _, _ => False)
  | .enu e, ρ, M, Q => wpE C R e ρ M fun x M1 => itsD M1 x fun xs G => xs.length ≤ sizeLine ∧ Q (xs.zipIdx.map fun p => .tup [.int p.2, p.1]) G M1
  | .zip a b, ρ, M, Q => wpE C R a ρ M fun x M1 => wpE C R b ρ M1 fun y M2 => itsD M2 x fun xs G => itsD M2 y fun ys G' => (xs.length ≤ sizeLine ∧ x.isTup = y.isTup) ∧ Q ((xs.zip ys).map fun p => .tup [p.1, p.2]) (fun M' => G M' ∧ G' M') M2
end
def stD (x y d : D) (M : MH) (k : MH → Prop) : Prop := match x, y with
  | .ref a, .int i => (match M a with
    | some (.lst xs) => (match ixN xs.length i with | some j => k (M.set a (.lst (xs.set j d))) | none => False)
    | _ => False)
  | .ref a, .tup kx => (match M a with
    | some (.dt es _) => (match numsN kx with | some ks => es.length < sizeLine ∧ ∀ ep, k (M.set a (.dt (dtPut es (.tup kx) ks d) ep)) | none => False)
    | _ => False)
  | _, _ => False
mutual
def wpS (C : SC) (R : Xc → En → MH → Prop) : Sm → En → MH → (En → MH → Prop) → (D → MH → Prop) → Prop
  | .asg g e, ρ, M, N, _ => wpE C (fun x M' => R x ρ M') e ρ M fun d M1 => g.put d ρ fun ρ' => N ρ' M1
  | .asgO g a b, ρ, M, N, _ => wpE C (fun x M' => R x ρ M') a ρ M fun x M1 => (match x with
      | .tup xs => if xs = [] then wpE C (fun x M' => R x ρ M') b ρ M1 fun y M2 => g.put y ρ fun ρ' => N ρ' M2 else g.put (.tup xs) ρ fun ρ' => N ρ' M1
      | _ => False)
  | .par2 i j a b, ρ, M, N, _ => wpE C (fun x M' => R x ρ M') a ρ M fun x M1 => wpE C (fun x M' => R x ρ M') b ρ M1 fun y M2 => N ((ρ.set i (some x)).set j (some y)) M2
  | .par3 i j l a b c, ρ, M, N, _ => wpE C (fun x M' => R x ρ M') a ρ M fun x M1 => wpE C (fun x M' => R x ρ M') b ρ M1 fun y M2 => wpE C (fun x M' => R x ρ M') c ρ M2 fun z M3 => N (((ρ.set i (some x)).set j (some y)).set l (some z)) M3
  | .sto a i e, ρ, M, N, _ => wpE C (fun x M' => R x ρ M') e ρ M fun d M1 => wpE C (fun x M' => R x ρ M') a ρ M1 fun x M2 => wpE C (fun x M' => R x ρ M') i ρ M2 fun y M3 => stD x y d M3 fun M4 => N ρ M4
  | .swp a i b j e, ρ, M, N, _ => wpE C (fun x M' => R x ρ M') e ρ M fun d M1 => (match d with
      | .tup [u, v] => wpE C (fun x M' => R x ρ M') a ρ M1 fun x M2 => wpE C (fun x M' => R x ρ M') i ρ M2 fun y M3 => stD x y u M3 fun M4 =>
          wpE C (fun x M' => R x ρ M') b ρ M4 fun x2 M5 => wpE C (fun x M' => R x ρ M') j ρ M5 fun y2 M6 => stD x2 y2 v M6 fun M7 => N ρ M7
      | _ => False)
  | .exp e, ρ, M, N, _ => wpE C (fun x M' => R x ρ M') e ρ M fun _ M1 => N ρ M1
  | .ret e, ρ, M, _, T => wpE C (fun x M' => R x ρ M') e ρ M T
  | .ret0, _, M, _, T => T .non M
  | .pass, ρ, M, N, _ => N ρ M
  | .never, _, _, _, _ => False
  | .iff c t e, ρ, M, N, T => wpE C (fun x M' => R x ρ M') c ρ M fun x M1 => isB x fun b => if b = true then wpB C R t ρ M1 N T else wpB C R e ρ M1 N T
  | .whl c b, ρ, M, N, T => ∃ n, wpW (fun ρ M k => wpE C (fun x M' => R x ρ M') c ρ M fun x M1 => isB x fun b => k b M1) (fun ρ M k => wpB C R b ρ M k T) n ρ M N
  | .for g it b, ρ, M, N, T => wpI C (fun x M' => R x ρ M') it ρ M fun items G M1 => wpF G (fun x ρ M k => g.put x ρ fun ρ' => wpB C R b ρ' M k T) items ρ M1 N
  | .rai c f e, ρ, M, _, _ => wpE C (fun x M' => R x ρ M') e ρ M fun d M1 => R ⟨c, some (f, d)⟩ ρ M1
  | .rai0 c, ρ, M, _, _ => R ⟨c, none⟩ ρ M
  | .tryE b c i h, ρ, M, N, T => wpB C (fun x ρ' M' => if subX x.cls c = true then ∀ a, M' a = none → wpB (C.hotC (a, x)) (fun _ _ _ => False) h (ρ'.set i (some (.ref a))) M' (fun ρ2 M2 => N (ρ2.set i none) M2) T else R x ρ' M') b ρ M N T
def wpB (C : SC) (R : Xc → En → MH → Prop) : Ss → En → MH → (En → MH → Prop) → (D → MH → Prop) → Prop
  | .nil, ρ, M, N, _ => N ρ M
  | .cons s r, ρ, M, N, T => wpS C R s ρ M (fun ρ' M' => wpB C R r ρ' M' N T) T
end
mutual
/-- d' is d with some cells made data for good: those of S -/
inductive FzD (M : MH) (S : Addr → Prop) : D → D → Prop
  | keep (d : D) : FzD M S d d
  | ref {a : Addr} {xs ys : List D} : M a = some (.lst xs) → S a → FzA M S xs ys → FzD M S (.ref a) (.lst ys)
  | dct {a : Addr} {ks : List Ky} {xs ys : List D} : M a = some (.dct ks xs) → S a → FzA M S xs ys → FzD M S (.ref a) (.dct ks ys)
  | tup {xs ys : List D} : FzA M S xs ys → FzD M S (.tup xs) (.tup ys)
inductive FzA (M : MH) (S : Addr → Prop) : List D → List D → Prop
  | nil : FzA M S [] []
  | cons {x y : D} {xs ys : List D} : FzD M S x y → FzA M S xs ys → FzA M S (x :: xs) (y :: ys)
end
/-- what a call hands back: cells may be forgotten, or made data for good -/
def Fin (d : D) (M : MH) (Q : D → MH → Prop) : Prop := ∃ S M' d', FzD M S d d' ∧ (∀ a c, M' a = some c → M a = some c ∧ ¬ S a) ∧ Q d' M'
structure Fn where
  np : Nat
  ns : Nat
  body : Ss
/-- a call of the def f, at most n deep; e: the exception that is handled meanwhile -/
def callX (P : Nat → Option Fn) (G : Nat → Option D) : Nat → Option (Addr × Xc) → Cl
  | 0, _ => fun _ _ _ _ _ => False
  | n + 1, e => fun f ds M Q R => match P f with
    | none => False
    | some fn => ds.length = fn.np ∧ wpB ⟨callX P G n e, G, e, fun p => callX P G n (some p)⟩ (fun x _ M' => R x M') fn.body (ds.map some ++ List.replicate (fn.ns - fn.np) none) M (fun _ M' => Fin .non M' Q) (fun d M' => Fin d M' Q)
def callN (P : Nat → Option Fn) (G : Nat → Option D) : Nat → Nat → List D → MH → (D → MH → Prop) → (Xc → MH → Prop) → Prop
  | 0, _, _, _, _, _ => False
  | n + 1, f, ds, M, Q, R => match P f with
    | none => False
    | some fn => ds.length = fn.np ∧ wpB ⟨callN P G n, G, none, fun p => callX P G n (some p)⟩ (fun x _ M' => R x M') fn.body (ds.map some ++ List.replicate (fn.ns - fn.np) none) M (fun _ M' => Fin .non M' Q) (fun d M' => Fin d M' Q)
theorem callN_X (P : Nat → Option Fn) (G : Nat → Option D) : ∀ n, callN P G n = callX P G n none
  | 0 => by funext f ds M Q R; rfl
  | n + 1 => by
    funext f ds M Q R
    rw [callN, callX, callN_X P G n]
abbrev scX (P : Nat → Option Fn) (G : Nat → Option D) (n : Nat) (e : Option (Addr × Xc)) : SC := ⟨callX P G n e, G, e, fun p => callX P G n (some p)⟩
end T
set_option Elab.async false
set_option linter.all false
set_option maxRecDepth 100000
set_option maxHeartbeats 4000000
namespace T
open PySem PySem.Spec PyProof.Rows L2
/-- a tuple that stands for good, without a dict of its own -/
def TupS (K : PySem.W.Frag) (F : Hp) (a : Addr) (vs : List V) : Prop :=
  (∃ o, F a = some (.frz o (.tup vs)) ∧ o.dict = none) ∨
    ∃ (o : Obj) (its : Array Value) (n : Nat), K.lookup a = some o ∧ o.cls = .type "tuple" ∧ o.dict = none ∧ o.data = .seq its n ∧ its.size ≤ sizeLine ∧ Vals vs its.toList
theorem TupS.sqt {K : PySem.W.Frag} {F : Hp} {a : Addr} {vs : List V} (h : TupS K F a vs) : SqT K F a vs := by
  rcases h with ⟨o, h, _⟩ | ⟨o, its, n, h1, h2, _, h3, h4, h5⟩
  · exact .inl (.inr ⟨o, h⟩)
  · exact .inr ⟨o, its, n, h1, h2, h3, h4, h5⟩
theorem TupS.mono {K : PySem.W.Frag} {F F' : Hp} (s : Same F F') {a : Addr} {vs : List V} (h : TupS K F a vs) : TupS K F' a vs := by
  rcases h with ⟨o, h, d⟩ | h
  · exact .inl ⟨o, s _ _ h, d⟩
  · exact .inr h
mutual
inductive Rep (K : PySem.W.Frag) (F : Hp) : V → D → Prop
  | non : Rep K F .non .non
  | bl (b : Bool) : Rep K F (.bl b) (.bl b)
  | int (i : Int) : Rep K F (.int i) (.int i)
  | str (x : Str) : Rep K F (.str x) (.str x)
  | lst {a : Addr} {vs : List V} {ds : List D} : F a = some (.lst vs) → RepA K F vs ds → Rep K F (.ref a) (.lst ds)
  | scr {a : Addr} {ns : List Int} : SqL K F a (ns.map V.int) → Rep K F (.ref a) (.scr ns)
  | tup {a : Addr} {vs : List V} {ds : List D} : TupS K F a vs → RepA K F vs ds → Rep K F (.ref a) (.tup ds)
  | dK {a : Addr} {kvs : List (Key × V)} {ds : List D} : F a = some (.dK kvs) → RepA K F (kvs.map (·.2)) ds → Rep K F (.ref a) (.dct (kvs.map fun p => Ky.k p.1) ds)
  | dT {a : Addr} {kvs : List (List Key × V)} {ds : List D} : F a = some (.dT kvs) → RepA K F (kvs.map (·.2)) ds → Rep K F (.ref a) (.dct (kvs.map fun p => Ky.t p.1) ds)
  | ref (a : Addr) : Rep K F (.ref a) (.ref a)
inductive RepA (K : PySem.W.Frag) (F : Hp) : List V → List D → Prop
  | nil : RepA K F [] []
  | cons {v : V} {vs : List V} {d : D} {ds : List D} : Rep K F v d → RepA K F vs ds → RepA K F (v :: vs) (d :: ds)
end
theorem SqL.mono {K : PySem.W.Frag} {F F' : Hp} (s : Same F F') {a : Addr} {xs : List V} (h : SqL K F a xs) : SqL K F' a xs := s.seq h
theorem SqT.mono {K : PySem.W.Frag} {F F' : Hp} (s : Same F F') {a : Addr} {xs : List V} (h : SqT K F a xs) : SqT K F' a xs := by
  rcases h with (h | ⟨o, h⟩) | h
  · exact .inl (.inl (s _ _ h))
  · exact .inl (.inr ⟨o, s _ _ h⟩)
  · exact .inr h
mutual
theorem Rep.mono {K : PySem.W.Frag} {F F' : Hp} (s : Same F F') : ∀ {v : V} {d : D}, Rep K F v d → Rep K F' v d
  | _, _, .non => .non
  | _, _, .bl b => .bl b
  | _, _, .int i => .int i
  | _, _, .str x => .str x
  | _, _, .lst h r => .lst (s _ _ h) (RepA.mono s r)
  | _, _, .scr h => .scr (SqL.mono s h)
  | _, _, .tup h r => .tup (TupS.mono s h) (RepA.mono s r)
  | _, _, .dK h r => .dK (s _ _ h) (RepA.mono s r)
  | _, _, .dT h r => .dT (s _ _ h) (RepA.mono s r)
  | _, _, .ref a => .ref a
theorem RepA.mono {K : PySem.W.Frag} {F F' : Hp} (s : Same F F') : ∀ {vs : List V} {ds : List D}, RepA K F vs ds → RepA K F' vs ds
  | _, _, .nil => .nil
  | _, _, .cons h r => .cons (Rep.mono s h) (RepA.mono s r)
end
section
variable {K : PySem.W.Frag} {F : Hp}
theorem RepA.len : ∀ {vs : List V} {ds : List D}, RepA K F vs ds → vs.length = ds.length
  | _, _, .nil => rfl
  | _, _, .cons _ r => congrArg (· + 1) (RepA.len r)
theorem RepA.app : ∀ {vs ws : List V} {ds es : List D}, RepA K F vs ds → RepA K F ws es → RepA K F (vs ++ ws) (ds ++ es)
  | _, _, _, _, .nil, s => s
  | _, _, _, _, .cons h r, s => .cons h (RepA.app r s)
theorem RepA.get : ∀ {vs : List V} {ds : List D} {i : Nat} {d : D}, RepA K F vs ds → ds[i]? = some d → ∃ v, vs[i]? = some v ∧ Rep K F v d
  | _, _, _, _, .nil, e => by simp at e
  | _, _, 0, _, .cons h _, e => by simp at e; subst e; exact ⟨_, rfl, h⟩
  | _, _, i + 1, d, .cons _ r, e => by
    obtain ⟨v, h1, h2⟩ := RepA.get (i := i) (d := d) r (by simpa using e)
    exact ⟨v, by simpa using h1, h2⟩
theorem RepA.get' : ∀ {vs : List V} {ds : List D} {i : Nat} {v : V}, RepA K F vs ds → vs[i]? = some v → ∃ d, ds[i]? = some d ∧ Rep K F v d
  | _, _, _, _, .nil, e => by simp at e
  | _, _, 0, _, .cons h _, e => by simp at e; subst e; exact ⟨_, rfl, h⟩
  | _, _, i + 1, v, .cons _ r, e => by
    obtain ⟨d, h1, h2⟩ := RepA.get' (i := i) (v := v) r (by simpa using e)
    exact ⟨d, by simpa using h1, h2⟩
theorem RepA.take : ∀ {vs : List V} {ds : List D} (n : Nat), RepA K F vs ds → RepA K F (vs.take n) (ds.take n)
  | _, _, 0, _ => by simp; exact .nil
  | _, _, n + 1, .nil => by simp; exact .nil
  | _, _, n + 1, .cons h r => .cons h (RepA.take n r)
theorem RepA.drop : ∀ {vs : List V} {ds : List D} (n : Nat), RepA K F vs ds → RepA K F (vs.drop n) (ds.drop n)
  | _, _, 0, r => r
  | _, _, n + 1, .nil => by simp; exact .nil
  | _, _, n + 1, .cons h r => RepA.drop n r
theorem RepA.set : ∀ {vs : List V} {ds : List D} (n : Nat) {v : V} {d : D}, RepA K F vs ds → Rep K F v d → RepA K F (vs.set n v) (ds.set n d)
  | _, _, _, _, _, .nil, _ => .nil
  | _, _, 0, _, _, .cons _ r, h => .cons h r
  | _, _, n + 1, _, _, .cons h r, h' => .cons h (RepA.set n r h')
theorem RepA.erase : ∀ {vs : List V} {ds : List D} (n : Nat), RepA K F vs ds → RepA K F (vs.eraseIdx n) (ds.eraseIdx n)
  | _, _, _, .nil => .nil
  | _, _, 0, .cons _ r => r
  | _, _, n + 1, .cons h r => .cons h (RepA.erase n r)
theorem RepA.rev {vs : List V} {ds : List D} (r : RepA K F vs ds) : RepA K F vs.reverse ds.reverse := by
  induction r using RepA.rec (motive_1 := fun _ _ _ => True) with
  | nil => exact .nil
  | cons h r _ ih => rw [List.reverse_cons, List.reverse_cons]; exact ih.app (.cons h .nil)
  | _ => trivial
theorem RepA.ints : ∀ (ns : List Int), RepA K F (ns.map V.int) (ns.map D.int)
  | [] => .nil
  | n :: r => .cons (.int n) (RepA.ints r)
theorem RepA.toInts : ∀ {vs : List V} {ns : List Int}, RepA K F vs (ns.map D.int) → vs = ns.map V.int
  | _, [], r => by cases r; rfl
  | _, n :: ns, r => by
    cases r with
    | cons h r => cases h; rw [RepA.toInts r]; rfl
end
/-- a dict at a: keys (their numbers, where they stand), values -/
def dtP (a : Addr) (xs : List (List Int × Addr × V)) (ep : Nat) (h : Heap) : Prop :=
  (a == sysModules) = false ∧ xs.length ≤ sizeLine ∧ ∃ ys : List (List Leaf × Addr × Value), Paired (fun p q => q.1 = p.1.map Leaf.num ∧ q.2.1 = p.2.1 ∧ RelV p.2.2 q.2.2) xs ys ∧
    ∃ o es, h.get? a = some o ∧ o.ExactDict ∧ o.data = .dict es ep ∧ (∀ P w, es.toList = ys.map (entryOfKey (tupleKind (leafKind P w)))) ∧ (ys.map (·.1)).Nodup
def dtO (a : Addr) (xs : List (List Int × Addr × V)) (ep : Nat) : HO := .ext (dtP a xs ep)
theorem dtO_ok {P : Program} {w : World} {H : Hp} {h : Heap} {a : Addr} {xs : List (List Int × Addr × V)} {ep : Nat} (x : dtP a xs ep h) : ObjOk P w H h a (dtO a xs ep) := by
  refine ⟨x, ?_, fun h1 h2 q k => ?_⟩
  · obtain ⟨_, _, _, _, o, _, e, _⟩ := x
    exact ⟨o, e⟩
  · obtain ⟨c1, c2, ys, c3, o, es, e, c4⟩ := q
    exact ⟨c1, c2, ys, c3, o, es, k o e, c4⟩
/-- entries -/
inductive RepD (K : PySem.W.Frag) (F : Hp) : List (D × D) → List (List Int × Addr × V) → Prop
  | nil : RepD K F [] []
  | cons {kd vd : D} {ks : List Int} {b : Addr} {v : V} {es : List (D × D)} {xs : List (List Int × Addr × V)} : keyN kd = some ks → Rep K F (.ref b) kd → Rep K F v vd → RepD K F es xs → RepD K F ((kd, vd) :: es) ((ks, b, v) :: xs)
theorem RepD.mono {K : PySem.W.Frag} {F F' : Hp} (s : Same F F') {es : List (D × D)} {xs : List (List Int × Addr × V)} (h : RepD K F es xs) : RepD K F' es xs := by
  induction h with
  | nil => exact .nil
  | cons h1 h2 h3 _ ih => exact .cons h1 (h2.mono s) (h3.mono s) ih
theorem RepD.len {K : PySem.W.Frag} {F : Hp} {es : List (D × D)} {xs : List (List Int × Addr × V)} (h : RepD K F es xs) : xs.length = es.length := by
  induction h with
  | nil => rfl
  | cons _ _ _ _ ih => simp [ih]
/-- what holds at a cell -/
inductive RepC (K : PySem.W.Frag) (F : Hp) : Addr → Ce → HO → Prop
  | lst {a : Addr} {vs : List V} {ds : List D} : RepA K F vs ds → RepC K F a (.lst ds) (.lst vs)
  | dK {a : Addr} {kvs : List (Key × V)} {ds : List D} : RepA K F (kvs.map (·.2)) ds → RepC K F a (.dct (kvs.map fun p => Ky.k p.1) ds) (.dK kvs)
  | dT {a : Addr} {kvs : List (List Key × V)} {ds : List D} : RepA K F (kvs.map (·.2)) ds → RepC K F a (.dct (kvs.map fun p => Ky.t p.1) ds) (.dT kvs)
  | dt {a : Addr} {es : List (D × D)} {xs : List (List Int × Addr × V)} {ep : Nat} : RepD K F es xs → RepC K F a (.dt es ep) (dtO a xs ep)
theorem RepC.mono {K : PySem.W.Frag} {F F' : Hp} (s : Same F F') {a : Addr} {c : Ce} {o : HO} (h : RepC K F a c o) : RepC K F' a c o := by
  cases h with
  | lst r => exact .lst (r.mono s)
  | dK r => exact .dK (r.mono s)
  | dT r => exact .dT (r.mono s)
  | dt r => exact .dt (r.mono s)
/-- F: what is data for good; M: the cells; Z: what others own -/
structure SR (K : PySem.W.Frag) (F : Hp) (M : MH) (Z H : Hp) : Prop where
  f : ∀ a o, F a = some o → H a = some o
  z : ∀ a o, Z a = some o → H a = some o
  fz : ∀ a o, F a = some o → Z a = none
  m : ∀ a c, M a = some c → F a = none ∧ Z a = none ∧ ∃ o, H a = some o ∧ RepC K F a c o
section
variable {K : PySem.W.Frag} {F F' Z H : Hp} {M M' : MH}
theorem SR.same (r : SR K F M Z H) : Same F H := r.f
theorem SR.rep (r : SR K F M Z H) {v : V} {d : D} (h : Rep K F v d) : Rep K H v d := h.mono r.f
theorem SR.new (r : SR K F M Z H) {a : Addr} (h : H a = none) : F a = none ∧ M a = none ∧ Z a = none := by
  refine ⟨?_, ?_, ?_⟩
  · cases q : F a with
    | none => rfl
    | some o => rw [r.f a o q] at h; cases h
  · cases q : M a with
    | none => rfl
    | some c =>
      obtain ⟨_, _, o, e, _⟩ := r.m a c q
      rw [e] at h; cases h
  · cases q : Z a with
    | none => rfl
    | some o => rw [r.z a o q] at h; cases h
theorem same_upd {H : Hp} {p : Addr} {o : HO} (h : H p = none) : Same H (upd H p o) := fun b x e => by
  rw [upd_ne (ne_of_none e h)]
  exact e
/-- a new object that is data for good -/
theorem SR.layF (r : SR K F M Z H) {a : Addr} {o : HO} (h : H a = none) : Same F (upd F a o) ∧ SR K (upd F a o) M Z (upd H a o) := by
  obtain ⟨hF, hM, hZ⟩ := r.new h
  have sF : Same F (upd F a o) := same_upd hF
  refine ⟨sF, ⟨fun b x e => ?_, fun b x e => ?_, fun b x e => ?_, fun b c e => ?_⟩⟩
  · by_cases hb : b = a
    · subst hb; rw [upd_same] at e ⊢; exact e
    · rw [upd_ne hb] at e ⊢; exact r.f b x e
  · rw [upd_ne (ne_of_none e hZ)]; exact r.z b x e
  · by_cases hb : b = a
    · subst hb; exact hZ
    · rw [upd_ne hb] at e; exact r.fz b x e
  · have hb : b ≠ a := fun z => by rw [z, hM] at e; cases e
    obtain ⟨h1, h2, x, h3, h4⟩ := r.m b c e
    exact ⟨by rw [upd_ne hb]; exact h1, h2, x, by rw [upd_ne hb]; exact h3, h4.mono sF⟩
/-- a new cell -/
theorem SR.layM (r : SR K F M Z H) {a : Addr} {o : HO} {c : Ce} (h : H a = none) (q : RepC K F a c o) : SR K F (M.set a c) Z (upd H a o) := by
  obtain ⟨hF, hM, hZ⟩ := r.new h
  refine ⟨fun b x e => ?_, fun b x e => ?_, r.fz, fun b c' e => ?_⟩
  · rw [upd_ne (ne_of_none e hF)]; exact r.f b x e
  · rw [upd_ne (ne_of_none e hZ)]; exact r.z b x e
  · unfold MH.set at e
    by_cases hb : b = a
    · subst hb
      rw [if_pos rfl] at e
      cases e
      exact ⟨hF, hZ, o, upd_same, q⟩
    · rw [if_neg hb] at e
      obtain ⟨h1, h2, x, h3, h4⟩ := r.m b c' e
      exact ⟨h1, h2, x, by rw [upd_ne hb]; exact h3, h4⟩
/-- a cell that is written -/
theorem SR.put (r : SR K F M Z H) {a : Addr} {o : HO} {c c0 : Ce} (h : M a = some c0) (q : RepC K F a c o) : SR K F (M.set a c) Z (upd H a o) := by
  obtain ⟨hF, hZ, o0, h0, _⟩ := r.m a c0 h
  refine ⟨fun b x e => ?_, fun b x e => ?_, r.fz, fun b c' e => ?_⟩
  · rw [upd_ne (ne_of_none e hF)]; exact r.f b x e
  · rw [upd_ne (ne_of_none e hZ)]; exact r.z b x e
  · unfold MH.set at e
    by_cases hb : b = a
    · subst hb
      rw [if_pos rfl] at e
      cases e
      exact ⟨hF, hZ, o, upd_same, q⟩
    · rw [if_neg hb] at e
      obtain ⟨h1, h2, x, h3, h4⟩ := r.m b c' e
      exact ⟨h1, h2, x, by rw [upd_ne hb]; exact h3, h4⟩
/-- a new object that is another's -/
theorem SR.layZ (r : SR K F M Z H) {a : Addr} {o : HO} (h : H a = none) : SR K F M (upd Z a o) (upd H a o) := by
  obtain ⟨hF, hM, hZ⟩ := r.new h
  refine ⟨fun b x e => ?_, fun b x e => ?_, fun b x e => ?_, fun b c e => ?_⟩
  · rw [upd_ne (ne_of_none e hF)]; exact r.f b x e
  · by_cases hb : b = a
    · subst hb; rw [upd_same] at e ⊢; exact e
    · rw [upd_ne hb] at e ⊢; exact r.z b x e
  · rw [upd_ne (ne_of_none e hF)]; exact r.fz b x e
  · have hb : b ≠ a := fun z => by rw [z, hM] at e; cases e
    obtain ⟨h1, h2, x, h3, h4⟩ := r.m b c e
    exact ⟨h1, by rw [upd_ne hb]; exact h2, x, by rw [upd_ne hb]; exact h3, h4⟩
/-- another's object is written -/
theorem SR.putZ {o o' : HO} {a : Addr} (r : SR K F M (upd Z a o) H) (hz : Z a = none) : SR K F M (upd Z a o') (upd H a o') := by
  have hF : F a = none := by
    cases q : F a with
    | none => rfl
    | some x =>
      have z := r.fz a x q
      rw [upd_same] at z; cases z
  refine ⟨fun b x e => ?_, fun b x e => ?_, fun b x e => ?_, fun b c e => ?_⟩
  · rw [upd_ne (ne_of_none e hF)]; exact r.f b x e
  · by_cases hb : b = a
    · subst hb; rw [upd_same] at e ⊢; exact e
    · rw [upd_ne hb] at e ⊢; exact r.z b x (by rw [upd_ne hb]; exact e)
  · have hb : b ≠ a := fun z => by rw [z, hF] at e; cases e
    have z := r.fz b x e
    rw [upd_ne hb] at z ⊢; exact z
  · obtain ⟨h1, h2, x, h3, h4⟩ := r.m b c e
    have hb : b ≠ a := fun z => by rw [z, upd_same] at h2; cases h2
    rw [upd_ne hb] at h2
    exact ⟨h1, by rw [upd_ne hb]; exact h2, x, by rw [upd_ne hb]; exact h3, h4⟩
/-- another's object becomes data for good -/
theorem SR.giveF {o : HO} {a : Addr} (r : SR K F M (upd Z a o) H) (hz : Z a = none) : Same F (upd F a o) ∧ SR K (upd F a o) M Z H := by
  have hF : F a = none := by
    cases q : F a with
    | none => rfl
    | some x =>
      have z := r.fz a x q
      rw [upd_same] at z; cases z
  have sF : Same F (upd F a o) := same_upd hF
  refine ⟨sF, fun b x e => ?_, fun b x e => ?_, fun b x e => ?_, fun b c e => ?_⟩
  · by_cases hb : b = a
    · subst hb; rw [upd_same] at e; exact r.z b x (by rw [upd_same]; exact e)
    · rw [upd_ne hb] at e; exact r.f b x e
  · exact r.z b x (by rw [upd_ne (ne_of_none e hz)]; exact e)
  · by_cases hb : b = a
    · subst hb; exact hz
    · rw [upd_ne hb] at e
      have z := r.fz b x e
      rw [upd_ne hb] at z; exact z
  · obtain ⟨h1, h2, x, h3, h4⟩ := r.m b c e
    have hb : b ≠ a := fun z => by rw [z, upd_same] at h2; cases h2
    rw [upd_ne hb] at h2
    exact ⟨by rw [upd_ne hb]; exact h1, h2, x, h3, h4.mono sF⟩
/-- another's object becomes a cell -/
theorem SR.giveM {o : HO} {c : Ce} {a : Addr} (r : SR K F M (upd Z a o) H) (hz : Z a = none) (q : RepC K F a c o) : M a = none ∧ SR K F (M.set a c) Z H := by
  have hF : F a = none := by
    cases q : F a with
    | none => rfl
    | some x =>
      have z := r.fz a x q
      rw [upd_same] at z; cases z
  have hM : M a = none := by
    cases q : M a with
    | none => rfl
    | some x =>
      have z := (r.m a x q).2.1
      rw [upd_same] at z; cases z
  refine ⟨hM, r.f, fun b x e => r.z b x (by rw [upd_ne (ne_of_none e hz)]; exact e), fun b x e => ?_, fun b c' e => ?_⟩
  · have hb : b ≠ a := fun z => by rw [z, hF] at e; cases e
    have z := r.fz b x e
    rw [upd_ne hb] at z; exact z
  · unfold MH.set at e
    by_cases hb : b = a
    · subst hb
      rw [if_pos rfl] at e
      cases e
      exact ⟨hF, hz, o, r.z _ _ upd_same, q⟩
    · rw [if_neg hb] at e
      obtain ⟨h1, h2, x, h3, h4⟩ := r.m b c' e
      rw [upd_ne hb] at h2
      exact ⟨h1, h2, x, h3, h4⟩
end
/-- the slots -/
def RE (K : PySem.W.Frag) (F : Hp) (σ : L2.St) (ρ : En) : Prop := σ.length = ρ.length ∧ ∀ (i : Nat) (d : D), ρ[i]? = some (some d) → ∃ v, σ[i]? = some (some v) ∧ Rep K F v d
section
variable {K : PySem.W.Frag} {F F' : Hp} {σ : L2.St} {ρ : En}
theorem RE.mono (s : Same F F') (h : RE K F σ ρ) : RE K F' σ ρ := ⟨h.1, fun i d e => let ⟨v, h1, h2⟩ := h.2 i d e; ⟨v, h1, h2.mono s⟩⟩
theorem RE.set (h : RE K F σ ρ) (i : Nat) {v : V} {d : D} (r : Rep K F v d) : RE K F (σ.set i (some v)) (ρ.set i (some d)) := by
  refine ⟨by simp [h.1], fun j e q => ?_⟩
  by_cases hj : i = j
  · subst hj
    by_cases hl : i < ρ.length
    · rw [List.getElem?_set_self hl] at q
      cases q
      exact ⟨v, by rw [List.getElem?_set_self (by rw [h.1]; exact hl)], r⟩
    · rw [List.getElem?_eq_none (by simpa using hl)] at q; cases q
  · rw [List.getElem?_set_ne hj] at q ⊢
    exact h.2 j e q
theorem RE.clr (h : RE K F σ ρ) (i : Nat) : RE K F (σ.set i none) (ρ.set i none) := by
  refine ⟨by simp [h.1], fun j e q => ?_⟩
  by_cases hj : i = j
  · subst hj
    by_cases hl : i < ρ.length
    · rw [List.getElem?_set_self hl] at q; cases q
    · rw [List.getElem?_eq_none (by simpa using hl)] at q; cases q
  · rw [List.getElem?_set_ne hj] at q ⊢
    exact h.2 j e q
theorem RE.wipe (h : RE K F σ ρ) : ∀ vs : List Nat, RE K F (L2.wipe σ vs) (wipeE ρ vs)
  | [] => h
  | v :: vs => by unfold L2.wipe wipeE; exact (RE.wipe h vs).clr v
end
end T
set_option Elab.async false
set_option linter.all false
set_option maxRecDepth 100000
set_option maxHeartbeats 4000000
namespace T
open PySem PySem.Spec PyProof.Rows L2
/-- what is wanted of a value, said of the data -/
def KQ (K : PySem.W.Frag) (F Z : Hp) (Q' : D → MH → Prop) : VK := fun v H' => ∃ F' M' d, Same F F' ∧ SR K F' M' Z H' ∧ Rep K F' v d ∧ Q' d M'
section
variable {K : PySem.W.Frag} {F F' Z H : Hp} {M M' : MH} {x y v : V} {d dx dy : D}
theorem KQ.of (sr : SR K F M Z H) (r : Rep K F v d) {Q' : D → MH → Prop} (q : Q' d M) : KQ K F Z Q' v H := ⟨F, M, d, Same.refl F, sr, r, q⟩
theorem KQ.back (s : Same F F') {Q' : D → MH → Prop} (h : KQ K F' Z Q' v H) : KQ K F Z Q' v H := by
  obtain ⟨F1, M1, d, s1, r⟩ := h
  exact ⟨F1, M1, d, s.trans s1, r⟩
theorem vw_int {i : Int} (r : Rep K F x d) (e : vw M d = .int i) : x = .int i := by
  cases r <;> simp [vw] at e
  · rw [e]
  · split at e <;> cases e
theorem vw_bl {i : Bool} (r : Rep K F x d) (e : vw M d = .bl i) : x = .bl i := by
  cases r <;> simp [vw] at e
  · rw [e]
  · split at e <;> cases e
theorem vw_str {i : Str} (r : Rep K F x d) (e : vw M d = .str i) : x = .str i := by
  cases r <;> simp [vw] at e
  · rw [e]
  · split at e <;> cases e
theorem vw_non (r : Rep K F x d) (e : vw M d = .non) : x = .non := by
  cases r <;> simp [vw] at e
  · rfl
  · split at e <;> cases e
theorem vw_lst {ds : List D} (sr : SR K F M Z H) (r : Rep K F x d) (e : vw M d = .lst ds) : ∃ a vs, x = .ref a ∧ H a = some (.lst vs) ∧ RepA K F vs ds := by
  cases r with
  | @lst a vs ds' h r => simp [vw] at e; subst e; exact ⟨a, vs, rfl, sr.f _ _ h, r⟩
  | ref a =>
    simp only [vw] at e
    cases q : M a with
    | none => rw [q] at e; cases e
    | some c =>
      rw [q] at e
      cases c with
      | lst xs =>
        cases e
        obtain ⟨_, _, o, h1, h2⟩ := sr.m a _ q
        cases h2 with
        | lst r => exact ⟨a, _, rfl, h1, r⟩
      | dct ks vs => cases e
      | dt es ep => cases e
  | _ => simp [vw] at e
theorem vw_tup {ds : List D} (r : Rep K F x d) (e : vw M d = .tup ds) : ∃ a vs, x = .ref a ∧ TupS K F a vs ∧ RepA K F vs ds := by
  cases r with
  | @tup a vs ds' h r => simp [vw] at e; subst e; exact ⟨a, vs, rfl, h, r⟩
  | ref a => simp only [vw] at e; split at e <;> cases e
  | _ => simp [vw] at e
/-- a cell -/
theorem cell_lst {a : Addr} {ds : List D} (sr : SR K F M Z H) (q : M a = some (.lst ds)) : ∃ vs, H a = some (.lst vs) ∧ RepA K F vs ds := by
  obtain ⟨_, _, o, h1, h2⟩ := sr.m a _ q
  cases h2 with
  | lst r => exact ⟨_, h1, r⟩
end
/-- a new tuple, by what stands at its address -/
theorem newTup {X : Cx} {pins : List (Addr × Obj)} {σ : L2.St} {F Z H : Hp} {M : MH} {s : Shared} {vs : List V} {its : List Value} {ds : List D} {Q' : D → MH → Prop} {Q : VK} {t' : Nat} (sr : SR X.K F M Z H) (I : Inv X pins σ H s) (r : Vals vs its) (ra : RepA X.K F vs ds) (hz : vs.length ≤ sizeLine)
    (q : Q' (.tup ds) M) (k : ∀ v H', KQ X.K F Z Q' v H' → Q v H') : EP X pins σ Q (.ref s.heap.objs.size) { s with heap := s.heap.push { cls := .type "tuple", data := .seq its.toArray }, toks := t' } := by
  have hp : H s.heap.objs.size = none := I.hok.fresh (Nat.le_refl _)
  obtain ⟨sF, sr'⟩ := sr.layF (o := .frz { cls := .type "tuple", data := .seq its.toArray } (.tup vs)) hp
  refine ⟨.ref _, _, I.laid (t' := t') (o := .frz { cls := .type "tuple", data := .seq its.toArray } (.tup vs)) (fun b ob q => Heap.get?_push_of_some _ q) (Nat.le_refl _) ?_, rfl, k _ _ ⟨_, M, _, sF, sr', .tup (.inl ⟨_, upd_same, rfl⟩) (ra.mono sF), q⟩⟩
  exact ⟨Heap.get?_push_size _ rfl, hz, its, r, ⟨_, Heap.get?_push_size _ rfl, rfl, _, rfl⟩⟩
section
variable {X : Cx}
def rOpD (X : Cx) (o : Op) : R2 := fun x y H Q => ∃ F M Z dx dy Q', SR X.K F M Z H ∧ Rep X.K F x dx ∧ Rep X.K F y dy ∧ opD o (vw M dx) (vw M dy) (fun z => Q' z M) ∧ ∀ v H', KQ X.K F Z Q' v H' → Q v H'
theorem opD_add {x y : D} {k : D → Prop} (h : opD .add x y k) : (∃ i j, x = .bl i ∧ y = .int j ∧ k (.int (b2i i + j))) ∨ (∃ i j, x = .int i ∧ y = .int j ∧ k (.int (i + j))) ∨
    (∃ xs ys, x = .lst xs ∧ y = .lst ys ∧ xs.length + ys.length ≤ sizeLine ∧ k (.lst (xs ++ ys))) ∨ (∃ xs ys, x = .tup xs ∧ y = .tup ys ∧ xs.length + ys.length ≤ sizeLine ∧ k (.tup (xs ++ ys))) := by
  cases x <;> cases y <;> first
    | exact h.elim
    | exact .inl ⟨_, _, rfl, rfl, h⟩
    | exact .inr (.inl ⟨_, _, rfl, rfl, h⟩)
    | exact .inr (.inr (.inl ⟨_, _, rfl, rfl, h⟩))
    | exact .inr (.inr (.inr ⟨_, _, rfl, rfl, h⟩))
theorem opD_mul {x y : D} {k : D → Prop} (h : opD .mul x y k) : (∃ i j, x = .int i ∧ y = .int j ∧ MulOk i j ∧ k (.int (i * j))) ∨
    (∃ xs n, x = .lst xs ∧ y = .int n ∧ (0 ≤ n ∧ n < 2 ^ 60 ∧ xs.length * n.toNat ≤ sizeLine) ∧ k (.lst (List.replicate n.toNat xs).flatten)) ∨
    (∃ xs n, x = .tup xs ∧ y = .int n ∧ (xs ≠ [] ∧ 2 ≤ n ∧ n ≤ 1000 ∧ xs.length ≤ 1000) ∧ k (.tup (List.replicate n.toNat xs).flatten)) := by
  cases x <;> cases y <;> first
    | exact h.elim
    | exact .inl ⟨_, _, rfl, rfl, h⟩
    | exact .inr (.inl ⟨_, _, rfl, rfl, h⟩)
    | exact .inr (.inr ⟨_, _, rfl, rfl, h⟩)
theorem opD_sub {x y : D} {k : D → Prop} (h : opD .sub x y k) : (∃ i j, x = .bl i ∧ y = .int j ∧ k (.int (b2i i - j))) ∨ (∃ i j, x = .int i ∧ y = .int j ∧ k (.int (i - j))) := by
  cases x <;> cases y <;> first
    | exact h.elim
    | exact .inl ⟨_, _, rfl, rfl, h⟩
    | exact .inr ⟨_, _, rfl, rfl, h⟩
theorem opD_ints {o : Op} (ho : o = .fdiv ∨ o = .mod ∨ o = .pow) {x y : D} {k : D → Prop} (h : opD o x y k) : ∃ i j, x = .int i ∧ y = .int j := by
  rcases ho with rfl | rfl | rfl <;> cases x <;> cases y <;> first
    | exact h.elim
    | exact ⟨_, _, rfl, rfl⟩
theorem RepA.replicate {K : PySem.W.Frag} {F : Hp} {vs : List V} {ds : List D} (r : RepA K F vs ds) : ∀ n : Nat, RepA K F (List.replicate n vs).flatten (List.replicate n ds).flatten
  | 0 => .nil
  | n + 1 => by rw [List.replicate_succ, List.replicate_succ, List.flatten_cons, List.flatten_cons]; exact r.app (RepA.replicate r n)
theorem or_add : OpR X (binaryOp .Add) (rOpD X .add) := by
  intro pins s σ H x y v u Q I rx ry h
  obtain ⟨F, M, Z, dx, dy, Q', sr, hx, hy, h, k⟩ := h
  rcases opD_add h with ⟨i, j, e1, e2, q⟩ | ⟨i, j, e1, e2, q⟩ | ⟨xs, ys, e1, e2, hz, q⟩ | ⟨xs, ys, e1, e2, hz, q⟩
  · have ex := vw_bl hx e1
    have ey := vw_int hy e2
    subst ex ey
    cases rx
    obtain ⟨t, rfl⟩ := ry
    exact PySem.IntBool.add_bool_int ⟨.int _, H, I.tok _, ⟨_, rfl⟩, k _ _ (.of sr (.int _) q)⟩
  · exact op_add pins s σ H x y v u Q I rx ry ⟨i, j, vw_int hx e1, vw_int hy e2, k _ _ (.of sr (.int _) q)⟩
  · obtain ⟨a, vs, rfl, ha, ra⟩ := vw_lst sr hx e1
    obtain ⟨b, ws, rfl, hb, rb⟩ := vw_lst sr hy e2
    refine op_cat pins s σ H _ _ v u Q I rx ry ⟨a, b, vs, ws, rfl, rfl, ha, hb, by rw [ra.len, rb.len]; exact hz, fun p hp => k _ _ ?_⟩
    obtain ⟨sF, sr'⟩ := sr.layF (o := .lst (vs ++ ws)) hp
    exact ⟨_, M, _, sF, sr', .lst upd_same ((ra.app rb).mono sF), q⟩
  · obtain ⟨a, vs, rfl, ha, ra⟩ := vw_tup hx e1
    obtain ⟨b, ws, rfl, hb, rb⟩ := vw_tup hy e2
    cases rx
    cases ry
    obtain ⟨its, r1, p1, _⟩ := I.tuple (SqT.mono sr.f ha.sqt)
    obtain ⟨its2, r2, p2, _⟩ := I.tuple (SqT.mono sr.f hb.sqt)
    by_cases hv : vs = []
    · subst hv
      cases ra
      cases r1
      exact cat_tup0 p1 p2 ⟨.ref b, H, I, rfl, k _ _ (.of sr (.tup hb rb) q)⟩
    · refine HT.cat_tup p1 p2 (fun z => hv (r1.nil_iff.mp z)) (fun z => ?_) (fun z => ?_) (by rw [← r1.length, ← r2.length, ra.len, rb.len]; exact hz)
      · have hw := r2.nil_iff.mp z
        subst hw
        cases rb
        rw [List.append_nil] at q
        exact ⟨.ref a, H, I, rfl, k _ _ (.of sr (.tup ha ra) q)⟩
      · exact newTup sr I (r1.append r2) (ra.app rb) (by rw [List.length_append, ra.len, rb.len]; exact hz) q k
theorem or_sub : OpR X (binaryOp .Sub) (rOpD X .sub) := by
  intro pins s σ H x y v u Q I rx ry h
  obtain ⟨F, M, Z, dx, dy, Q', sr, hx, hy, h, k⟩ := h
  rcases opD_sub h with ⟨i, j, e1, e2, h⟩ | ⟨i, j, e1, e2, h⟩
  · have ex := vw_bl hx e1
    have ey := vw_int hy e2
    subst ex ey
    cases rx
    obtain ⟨t, rfl⟩ := ry
    exact PySem.IntBool.sub_bool_int ⟨.int _, H, I.tok _, ⟨_, rfl⟩, k _ _ (.of sr (.int _) h)⟩
  exact op_sub pins s σ H x y v u Q I rx ry ⟨i, j, vw_int hx e1, vw_int hy e2, k _ _ (.of sr (.int _) h)⟩
/-- a tuple, more than once -/
theorem mulTup {P : Program} {w : World} {A : Around} {E Q : Value → Shared → Prop} {s : Shared} {a : Addr} {us : List Value} {n : Int} {tk : Tok} (tp : IsTup s.heap a us.toArray) (h0 : us.length ≠ 0) (h1 : 2 ≤ n) (h2 : n ≤ 1000) (h3 : us.length ≤ 1000)
    (q : Q (.ref s.heap.objs.size) { s with heap := s.heap.push { cls := .type "tuple", data := .seq (List.replicate n.toNat us).flatten.toArray }, toks := s.toks }) : wpAny (model P w) A (binaryOp .Mult (.ref a) (.int n tk)) Q E s := by
  obtain ⟨⟨c, dc, dt, sls⟩, ho, hcl, m, hdt⟩ := tp
  cases hcl
  cases hdt
  have emp : us.toArray.isEmpty = false := by
    cases us with
    | nil => exact (h0 rfl).elim
    | cons _ _ => rfl
  have prod : ((us.toArray.size : Nat) : Int) * n ≤ 1000000 := by
    rw [List.size_toArray]
    have := Int.mul_le_mul_of_nonneg_right (show ((us.length : Nat) : Int) ≤ 1000 by omega) (show (0 : Int) ≤ n by omega)
    omega
  have room : (List.foldl (fun x1 x2 => x1 ++ x2) #[] (List.replicate n.toNat us.toArray)).size ≤ sizeLine := by
    have := Nat.mul_le_mul (show n.toNat ≤ 1000 by omega) h3
    rw [size_rep, List.size_toArray, PyProof.Rows.lm_len_rep_flat, sizeLine_eq]
    omega
  have i1 : (decide (n < -(2 ^ 63)) || decide (n ≥ 2 ^ 63)) = false := by simp; omega
  have i2 : (us.toArray.isEmpty || n == 1) = false := by rw [emp]; simp; omega
  have i3 : (decide (n ≤ 0) || us.toArray.isEmpty) = false := by rw [emp]; simp; omega
  have i4 : Builtin.Tuple.tupleTooMany (((us.toArray.size : Nat) : Int) * n) = false := by
    unfold Builtin.Tuple.tupleTooMany
    have := sizeLine_eq
    exact decide_eq_false (by omega)
  have typ : s.TypeIs (.ref a) "tuple" := ⟨_, ho, rfl⟩
  exact wpAny_binaryOp_repeat_ref (T := "tuple") (U := "int") (by decide) ⟨_, ho, rfl⟩ (fun s1 => typeIs_int s1 n tk) noFill_tuple_mul PySem.F.fills_int_mul PySem.F.slot_int_rmul repeat_tuple PySem.F.slot_int_index.lookup
    (call_meets PySem.F.slot_int_rmul (typeIs_int s n tk) PySem.F.entry_int_rmul (PySem.F.args_int_rmul_2 _ _) (int_rmul_tuple n tk a us.toArray m dc sls) ⟨ho, rfl, typ,
      call_meets PySem.F.slot_tuple_mul typ PySem.F.entry_tuple_mul (PySem.F.args_tuple_mul_2 _ _) (tuple_mulW a us.toArray m dc sls n tk i1 i2 i3 (by omega) i4 room) ⟨ho, by rw [size_rep]; exact q⟩⟩)
theorem or_mul : OpR X (binaryOp .Mult) (rOpD X .mul) := by
  intro pins s σ H x y v u Q I rx ry h
  obtain ⟨F, M, Z, dx, dy, Q', sr, hx, hy, h, k⟩ := h
  rcases opD_mul h with ⟨i, j, e1, e2, hc, q⟩ | ⟨xs, n, e1, e2, ⟨h0, h1, h2⟩, q⟩ | ⟨xs, n, e1, e2, ⟨h0, h1, h2, h3⟩, q⟩
  · exact op_mul pins s σ H x y v u Q I rx ry ⟨i, j, vw_int hx e1, vw_int hy e2, hc, k _ _ (.of sr (.int _) q)⟩
  · obtain ⟨a, vs, rfl, ha, ra⟩ := vw_lst sr hx e1
    have ey := vw_int hy e2
    subst ey
    refine op_rep pins s σ H _ _ v u Q I rx ry ⟨a, n, vs, rfl, rfl, ha, by omega, by omega, by rw [ra.len]; exact h2, fun p hp => k _ _ ?_⟩
    obtain ⟨sF, sr'⟩ := sr.layF (o := .lst (List.replicate n.toNat vs).flatten) hp
    exact ⟨_, M, _, sF, sr', .lst upd_same ((ra.replicate _).mono sF), q⟩
  · obtain ⟨a, vs, rfl, ha, ra⟩ := vw_tup hx e1
    have ey := vw_int hy e2
    subst ey
    cases rx
    obtain ⟨tk, rfl⟩ := ry
    obtain ⟨us, rr, tp, _⟩ := I.tuple (SqT.mono sr.f ha.sqt)
    refine mulTup tp (by rw [← rr.length, ra.len]; exact fun z => h0 (List.length_eq_zero_iff.mp z)) (by omega) (by omega) (by rw [← rr.length, ra.len]; omega) ?_
    refine newTup (t' := s.toks) sr I (rr.rep n.toNat) (ra.replicate _) ?_ q k
    have hz := Nat.mul_le_mul (show n.toNat ≤ 1000 by omega) h3
    rw [PyProof.Rows.lm_len_rep_flat, ra.len, sizeLine_eq]
    omega
theorem or_fdiv : OpR X (binaryOp .FloorDiv) (rOpD X .fdiv) := by
  intro pins s σ H x y v u Q I rx ry h
  obtain ⟨F, M, Z, dx, dy, Q', sr, hx, hy, h, k⟩ := h
  obtain ⟨i, j, e1, e2⟩ := opD_ints (.inl rfl) h
  rw [e1, e2] at h
  obtain ⟨⟨h0, h1⟩, q⟩ := h
  exact op_fdivW pins s σ H x y v u Q I rx ry ⟨i, j, vw_int hx e1, vw_int hy e2, wide_div (b := 64) h0 (by omega) (by decide) (by decide), k _ _ (.of sr (.int _) q)⟩
theorem opD_fdn {x y : D} {k : D → Prop} (h : opD .fdn x y k) : ∃ i j, x = .int i ∧ y = .int j ∧ (j ≠ 0 ∧ -(2 ^ 64) < j ∧ j < 2 ^ 64) ∧ k (.int (Int.fdiv i j)) := by
  cases x <;> cases y <;> first
    | exact h.elim
    | exact ⟨_, _, rfl, rfl, h⟩
theorem or_fdn : OpR X (binaryOp .FloorDiv) (rOpD X .fdn) := by
  intro pins s σ H x y v u Q I rx ry h
  obtain ⟨F, M, Z, dx, dy, Q', sr, hx, hy, h, k⟩ := h
  obtain ⟨i, j, e1, e2, ⟨h0, h1, h2⟩, q⟩ := opD_fdn h
  have ex := vw_int hx e1
  have ey := vw_int hy e2
  subst ex ey
  obtain ⟨t, rfl⟩ := rx
  obtain ⟨t2, rfl⟩ := ry
  refine PyProof.Rows.floordiv_int h0 ⟨.int _, H, I.tok _, ⟨_, rfl⟩, k _ _ (.of sr (.int _) q)⟩ (Or.inl (PyProof.noPylong_of_log2 ?_))
  have : j.natAbs < 2 ^ 64 := by omega
  have : j.natAbs.log2 < 64 ∨ j.natAbs = 0 := by
    by_cases z : j.natAbs = 0
    · exact .inr z
    · exact .inl ((Nat.log2_lt z).mpr this)
  omega
theorem or_mod : OpR X (binaryOp .Mod) (rOpD X .mod) := by
  intro pins s σ H x y v u Q I rx ry h
  obtain ⟨F, M, Z, dx, dy, Q', sr, hx, hy, h, k⟩ := h
  obtain ⟨i, j, e1, e2⟩ := opD_ints (.inr (.inl rfl)) h
  rw [e1, e2] at h
  exact op_mod pins s σ H x y v u Q I rx ry ⟨i, j, vw_int hx e1, vw_int hy e2, h.1, k _ _ (.of sr (.int _) h.2)⟩
theorem or_pow : OpR X (binaryOp .Pow) (rOpD X .pow) := by
  intro pins s σ H x y v u Q I rx ry h
  obtain ⟨F, M, Z, dx, dy, Q', sr, hx, hy, h, k⟩ := h
  obtain ⟨i, j, e1, e2⟩ := opD_ints (.inr (.inr rfl)) h
  rw [e1, e2] at h
  exact op_pow pins s σ H x y v u Q I rx ry ⟨i, j, vw_int hx e1, vw_int hy e2, h.1, k _ _ (.of sr (.int _) h.2)⟩
mutual
theorem pure_dp {K : PySem.W.Frag} {F : Hp} : ∀ {v : V} {d : D}, Rep K F v d → d.pure = true → Dp K F v d.toP
  | _, _, .non, _ => by simp [D.toP]; exact .non
  | _, _, .bl b, _ => by simp [D.toP]; exact .bl b
  | _, _, .int i, _ => by simp [D.toP]; exact .int i
  | _, _, .str x, _ => by simp [D.toP]; exact .str x
  | _, _, .lst h r, p => by simp [D.pure] at p; simp [D.toP]; exact .lst (SqL.of h) (pures_dp r p)
  | _, _, .tup h r, p => by simp [D.pure] at p; simp [D.toP]; exact .tup h.sqt (pures_dp r p)
  | _, _, .dK _ _, p => by simp [D.pure] at p
  | _, _, .dT _ _, p => by simp [D.pure] at p
  | _, _, .ref _, p => by simp [D.pure] at p
  | _, _, .scr _, p => by simp [D.pure] at p
theorem pures_dp {K : PySem.W.Frag} {F : Hp} : ∀ {vs : List V} {ds : List D}, RepA K F vs ds → pures ds = true → DpAll K F vs (toPs ds)
  | _, _, .nil, _ => by simp [toPs]; exact .nil
  | _, _, .cons h r, p => by simp [pures] at p; simp [toPs]; exact .cons (pure_dp h p.1) (pures_dp r p.2)
end
mutual
theorem Dp.mono' {K : PySem.W.Frag} {F F' : Hp} (s : Same F F') : ∀ {v : V} {d : PyData}, Dp K F v d → Dp K F' v d
  | _, _, .non => .non
  | _, _, .bl b => .bl b
  | _, _, .int i => .int i
  | _, _, .str x => .str x
  | _, _, .lst h r => .lst (SqL.mono s h) (DpAll.mono' s r)
  | _, _, .tup h r => .tup (SqT.mono s h) (DpAll.mono' s r)
theorem DpAll.mono' {K : PySem.W.Frag} {F F' : Hp} (s : Same F F') : ∀ {vs : List V} {ds : List PyData}, DpAll K F vs ds → DpAll K F' vs ds
  | _, _, .nil => .nil
  | _, _, .cons h r => .cons (Dp.mono' s h) (DpAll.mono' s r)
end
mutual
theorem lay_pure : ∀ d : D, d.pure = true → d.toP.canLay0 = true
  | .non, _ => by simp [D.toP, PyData.canLay0]
  | .bl _, _ => by simp [D.toP, PyData.canLay0]
  | .int _, _ => by simp [D.toP, PyData.canLay0]
  | .str x, p => by simp [D.pure] at p; simp [D.toP, PyData.canLay0, p]
  | .lst xs, p => by simp [D.pure] at p; simp [D.toP, PyData.canLay0]; exact lay_pures xs p
  | .tup xs, p => by simp [D.pure] at p; simp [D.toP, PyData.canLay0]; exact lay_pures xs p
  | .dct _ _, p => by simp [D.pure] at p
  | .ref _, p => by simp [D.pure] at p
  | .scr _, p => by simp [D.pure] at p
theorem lay_pures : ∀ ds : List D, pures ds = true → PyData.canLayAll0 (toPs ds) = true
  | [], _ => by simp [toPs, PyData.canLayAll0]
  | x :: r, p => by simp [pures] at p; simp [toPs, PyData.canLayAll0]; exact ⟨lay_pure x p.1, lay_pures r p.2⟩
end
mutual
theorem depth_pure : ∀ d : D, d.toP.depth ≤ d.depth
  | .non => by simp [D.toP, PyData.depth]
  | .bl _ => by simp [D.toP, PyData.depth]
  | .int _ => by simp [D.toP, PyData.depth]
  | .str _ => by simp [D.toP, PyData.depth]
  | .lst xs => by have := depths_pure xs; simp [D.toP, PyData.depth, D.depth]; omega
  | .tup xs => by have := depths_pure xs; simp [D.toP, PyData.depth, D.depth]; omega
  | .dct ks vs => by
    cases ks <;> cases vs <;> simp [D.toP, PyData.depth, PyData.depthKv, D.depth]
  | .ref _ => by simp [D.toP, PyData.depth]
  | .scr _ => by simp [D.toP, PyData.depth]
theorem depths_pure : ∀ ds : List D, PyData.depthAll (toPs ds) ≤ depths ds
  | [] => by simp [toPs, PyData.depthAll]
  | x :: r => by have := depth_pure x; have := depths_pure r; simp [toPs, PyData.depthAll, depths]; omega
end
theorem shaped_of {d : D} (h : cmpble d) : SeqAt.shaped d.toP = true := by
  unfold SeqAt.shaped
  have h1 := lay_pure d h.1
  have h2 := depth_pure d
  have h3 := h.2
  simp only [Bool.and_eq_true, decide_eq_true_eq]
  exact ⟨h1, by omega⟩
end
end T
set_option Elab.async false
set_option linter.all false
set_option maxRecDepth 100000
set_option maxHeartbeats 4000000
namespace T
open PySem PySem.Spec PyProof.Rows L2
section
variable {K : PySem.W.Frag} {F F' Z H : Hp} {M M' : MH} {x y v : V} {d dx dy : D}
/-- the data that stands at x, as the library reads it -/
theorem vw_dp (sr : SR K F M Z H) (r : Rep K F x d) (p : (vw M d).pure = true) : Dp K H x (vw M d).toP := by
  cases r with
  | ref a =>
    simp only [vw] at p ⊢
    cases q : M a with
    | none => rw [q] at p; simp [D.pure] at p
    | some c =>
      rw [q] at p
      cases c with
      | lst xs =>
        obtain ⟨vs, h1, h2⟩ := cell_lst sr q
        simp [D.pure] at p
        simp [D.toP]
        exact .lst (SqL.of h1) (DpAll.mono' sr.f (pures_dp h2 p))
      | dct ks vs => simp [D.pure] at p
      | dt es ep => simp [D.pure] at p
  | lst h r => simp only [vw] at p ⊢; exact Dp.mono' sr.f (pure_dp (.lst h r) p)
  | tup h r => simp only [vw] at p ⊢; exact Dp.mono' sr.f (pure_dp (.tup h r) p)
  | non => simp only [vw] at p ⊢; exact pure_dp .non p
  | bl b => simp only [vw] at p ⊢; exact pure_dp (.bl b) p
  | int b => simp only [vw] at p ⊢; exact pure_dp (.int b) p
  | str b => simp only [vw] at p ⊢; exact pure_dp (.str b) p
  | scr h => simp [vw, D.pure] at p
  | dK h r => simp [vw, D.pure] at p
  | dT h r => simp [vw, D.pure] at p
end
theorem any_toP (x : D) : ∀ ys : List D, ((toPs ys).any fun z => PyData.eqv z x.toP) = ys.any fun z => D.eqv z x
  | [] => rfl
  | y :: r => by rw [toPs, List.any_cons, List.any_cons, any_toP x r]; rfl
section
variable {X : Cx}
def rCpD (X : Cx) (o : Cp) : R2 := fun x y H Q => ∃ F M Z dx dy k, SR X.K F M Z H ∧ Rep X.K F x dx ∧ Rep X.K F y dy ∧ cmpD o (vw M dx) (vw M dy) k ∧ ∀ c, k c → Q (.bl c) H
def Cp.op : Cp → CmpOp
  | .eq => .Eq | .ne => .NotEq | .lt => .Lt | .le => .LtE | .gt => .Gt | .ge => .GtE | .inn => .In | .nin => .NotIn | .is => .Is | .isn => .IsNot
theorem cmp_ints {o : Cp} (ho : o = .lt ∨ o = .le ∨ o = .gt ∨ o = .ge) {x y : D} {k : Bool → Prop} (h : cmpD o x y k) : ∃ i j, x = .int i ∧ y = .int j := by
  rcases ho with rfl | rfl | rfl | rfl <;> cases x <;> cases y <;> first
    | exact h.elim
    | exact ⟨_, _, rfl, rfl⟩
theorem cmp_is {o : Cp} (ho : o = .is ∨ o = .isn) {x y : D} {k : Bool → Prop} (h : cmpD o x y k) : (∃ i j, x = .bl i ∧ y = .bl j) ∨ y = .non := by
  rcases ho with rfl | rfl <;> cases x <;> cases y <;> first
    | exact h.elim
    | exact .inl ⟨_, _, rfl, rfl⟩
    | exact .inr rfl
theorem cmp_in {o : Cp} (ho : o = .inn ∨ o = .nin) {x y : D} {k : Bool → Prop} (h : cmpD o x y k) : (∃ ys, y = .lst ys) ∨ ∃ ys, y = .tup ys := by
  rcases ho with rfl | rfl <;> cases y <;> first
    | exact h.elim
    | exact .inl ⟨_, rfl⟩
    | exact .inr ⟨_, rfl⟩
theorem isnon_of {K : PySem.W.Frag} {F : Hp} {M : MH} {x : V} {d : D} (r : Rep K F x d) : decide (x = .non) = (match vw M d with | .non => true | _ => false) := by
  cases r <;> simp [vw]
  split
  · rename_i h
    split at h <;> cases h
  · rfl
theorem eqS_inv {x y : D} {k : Bool → Prop} {g : Prop} (h : eqS x y k g) : (∃ a b, x = .str a ∧ y = .str b ∧ k (decide (a = b))) ∨ g := by
  unfold eqS at h
  split at h
  · exact .inl ⟨_, _, rfl, rfl, h⟩
  · exact .inr h
theorem oc_cmp (o : Cp) (hu : X.A.units + 65 < cLine) : OpR X (compareOp o.op) (rCpD X o) := by
  intro pins s σ H x y v u Q I rx ry h
  obtain ⟨F, M, Z, dx, dy, k, sr, hx, hy, h, kk⟩ := h
  cases o with
  | eq =>
    rcases eqS_inv h with ⟨a, b, e1, e2, q⟩ | ⟨⟨px, py⟩, q⟩
    · obtain rfl := vw_str hx e1
      obtain rfl := vw_str hy e2
      have e : decide (V.str a = V.str b) = decide (a = b) := by rw [decide_eq_decide]; exact ⟨fun z => by cases z; rfl, fun z => by rw [z]⟩
      exact op_eq pins s σ H _ _ v u Q I rx ry ⟨rfl, by rw [e]; exact kk _ q⟩
    exact op_eqD (by omega) pins s σ H x y v u Q I rx ry ⟨_, _, vw_dp sr hx px.1, vw_dp sr hy py.1, shaped_of px, shaped_of py, kk _ q⟩
  | ne =>
    rcases eqS_inv (k := fun b => k (!b)) h with ⟨a, b, e1, e2, q⟩ | ⟨⟨px, py⟩, q⟩
    · obtain rfl := vw_str hx e1
      obtain rfl := vw_str hy e2
      have e : decide (V.str a = V.str b) = decide (a = b) := by rw [decide_eq_decide]; exact ⟨fun z => by cases z; rfl, fun z => by rw [z]⟩
      exact op_ne pins s σ H _ _ v u Q I rx ry ⟨rfl, by rw [e]; exact kk _ q⟩
    exact op_neD (by omega) pins s σ H x y v u Q I rx ry ⟨_, _, vw_dp sr hx px.1, vw_dp sr hy py.1, shaped_of px, shaped_of py, kk _ q⟩
  | lt =>
    obtain ⟨i, j, e1, e2⟩ := cmp_ints (.inl rfl) h
    rw [e1, e2] at h
    exact op_lt pins s σ H x y v u Q I rx ry ⟨i, j, vw_int hx e1, vw_int hy e2, kk _ h⟩
  | le =>
    obtain ⟨i, j, e1, e2⟩ := cmp_ints (.inr (.inl rfl)) h
    rw [e1, e2] at h
    exact op_le pins s σ H x y v u Q I rx ry ⟨i, j, vw_int hx e1, vw_int hy e2, kk _ h⟩
  | gt =>
    obtain ⟨i, j, e1, e2⟩ := cmp_ints (.inr (.inr (.inl rfl))) h
    rw [e1, e2] at h
    exact op_gt pins s σ H x y v u Q I rx ry ⟨i, j, vw_int hx e1, vw_int hy e2, kk _ h⟩
  | ge =>
    obtain ⟨i, j, e1, e2⟩ := cmp_ints (.inr (.inr (.inr rfl))) h
    rw [e1, e2] at h
    exact op_ge pins s σ H x y v u Q I rx ry ⟨i, j, vw_int hx e1, vw_int hy e2, kk _ h⟩
  | inn =>
    rcases cmp_in (.inl rfl) h with ⟨ys, e⟩ | ⟨ys, e⟩
    · rw [e] at h
      obtain ⟨⟨px, py⟩, q⟩ := h
      have dy' := vw_dp sr hy (by rw [e]; exact py.1)
      rw [e] at dy'
      simp only [D.toP] at dy'
      have hs := shaped_of py
      simp only [D.toP] at hs
      exact op_inD hu pins s σ H x y v u Q I rx ry ⟨_, _, vw_dp sr hx px.1, dy', shaped_of px, hs, by rw [any_toP]; exact kk _ q⟩
    · rw [e] at h
      obtain ⟨⟨px, py⟩, q⟩ := h
      have dy' := vw_dp sr hy (by rw [e]; exact py.1)
      rw [e] at dy'
      simp only [D.toP] at dy'
      have hs := shaped_of py
      simp only [D.toP] at hs
      obtain ⟨as, r1⟩ := Dp.reads I _ x v (vw_dp sr hx px.1) rx
      obtain ⟨bs, r2⟩ := Dp.reads I _ y u dy' ry
      exact SeqAt.in_tuple_reads r2 r1 (SeqAt.canLay_of_shaped hs) (SeqAt.canLay_of_shaped (shaped_of px)) (room_in_shaped (shaped_of px) hu) ⟨.bl _, H, I, rfl, by rw [any_toP]; exact kk _ q⟩
  | nin =>
    rcases cmp_in (.inr rfl) h with ⟨ys, e⟩ | ⟨ys, e⟩
    · rw [e] at h
      obtain ⟨⟨px, py⟩, q⟩ := h
      have dy' := vw_dp sr hy (by rw [e]; exact py.1)
      rw [e] at dy'
      simp only [D.toP] at dy'
      have hs := shaped_of py
      simp only [D.toP] at hs
      exact op_notInD hu pins s σ H x y v u Q I rx ry ⟨_, _, vw_dp sr hx px.1, dy', shaped_of px, hs, by rw [any_toP]; exact kk _ q⟩
    · rw [e] at h
      obtain ⟨⟨px, py⟩, q⟩ := h
      have dy' := vw_dp sr hy (by rw [e]; exact py.1)
      rw [e] at dy'
      simp only [D.toP] at dy'
      have hs := shaped_of py
      simp only [D.toP] at hs
      obtain ⟨as, r1⟩ := Dp.reads I _ x v (vw_dp sr hx px.1) rx
      obtain ⟨bs, r2⟩ := Dp.reads I _ y u dy' ry
      exact SeqAt.notIn_tuple_reads r2 r1 (SeqAt.canLay_of_shaped hs) (SeqAt.canLay_of_shaped (shaped_of px)) (room_in_shaped (shaped_of px) hu) ⟨.bl _, H, I, rfl, by rw [any_toP]; exact kk _ q⟩
  | is =>
    rcases cmp_is (.inl rfl) h with ⟨i, j, e1, e2⟩ | e
    · rw [e1, e2] at h
      exact op_isBl pins s σ H x y v u Q I rx ry ⟨i, j, vw_bl hx e1, vw_bl hy e2, kk _ h⟩
    · rw [e] at h
      have ey := vw_non hy e
      subst ey
      refine op_isN pins s σ H x _ v u Q I rx ry ⟨rfl, ?_⟩
      rw [isnon_of (M := M) hx]
      have h' : k (match vw M dx with | .non => true | _ => false) := by
        cases q : vw M dx <;> rw [q] at h <;> exact h
      exact kk _ h'
  | isn =>
    rcases cmp_is (.inr rfl) h with ⟨i, j, e1, e2⟩ | e
    · rw [e1, e2] at h
      exact op_notBl pins s σ H x y v u Q I rx ry ⟨i, j, vw_bl hx e1, vw_bl hy e2, kk _ h⟩
    · rw [e] at h
      have ey := vw_non hy e
      subst ey
      refine op_notN pins s σ H x _ v u Q I rx ry ⟨rfl, ?_⟩
      rw [isnon_of (M := M) hx]
      have h' : k (!(match vw M dx with | .non => true | _ => false)) := by
        cases q : vw M dx <;> rw [q] at h <;> exact h
      exact kk _ h'
def rIxD (X : Cx) : R2 := fun x y H Q => ∃ F M Z dx dy k, SR X.K F M Z H ∧ Rep X.K F x dx ∧ Rep X.K F y dy ∧ ixD (vw M dx) (vw M dy) k ∧ ∀ v d, Rep X.K F v d → k d → Q v H
theorem ix_inv {x y : D} {k : D → Prop} (h : ixD x y k) : ∃ (xs : List D) (i : Int) (j : Nat) (d : D), (x = .lst xs ∨ x = .tup xs) ∧ y = .int i ∧ ixN xs.length i = some j ∧ xs[j]? = some d ∧ k d := by
  cases x <;> cases y <;> first
    | exact h.elim
    | skip
  all_goals
    rename_i xs i
    simp only [ixD] at h
    cases q : ixN xs.length i with
    | none => rw [q] at h; exact h.elim
    | some j =>
      rw [q] at h
      simp only at h
      cases q2 : xs[j]? with
      | none => rw [q2] at h; exact h.elim
      | some d =>
        rw [q2] at h
        first
          | exact ⟨xs, i, j, d, .inl rfl, rfl, q, q2, h⟩
          | exact ⟨xs, i, j, d, .inr rfl, rfl, q, q2, h⟩
theorem ix_D : IxR X (rIxD X) := by
  intro value slice pins s σ H x y v u Q I rx ry h hs
  obtain ⟨F, M, Z, dx, dy, k, sr, hx, hy, h, kk⟩ := h
  obtain ⟨xs, i, j, d, e1, e2, h1, h2, h3⟩ := ix_inv h
  have ey := vw_int hy e2
  subst ey
  rcases e1 with e1 | e1
  · obtain ⟨a, vs, rfl, ha, ra⟩ := vw_lst sr hx e1
    obtain ⟨w, g1, g2⟩ := ra.get h2
    refine ix_list value slice pins s σ H _ _ v u Q I rx ry ⟨a, vs, i, w, rfl, rfl, SqL.of ha, ?_, kk w d g2 h3⟩ hs
    show (ixN vs.length i).bind _ = _
    rw [ra.len, h1]
    exact g1
  · obtain ⟨a, vs, rfl, ha, ra⟩ := vw_tup hx e1
    obtain ⟨w, g1, g2⟩ := ra.get h2
    refine ix_tup value slice pins s σ H _ _ v u Q I rx ry ⟨a, vs, i, w, rfl, rfl, SqT.mono sr.f ha.sqt, ?_, kk w d g2 h3⟩ hs
    show (ixN vs.length i).bind _ = _
    rw [ra.len, h1]
    exact g1
theorem RepA.cut {K : PySem.W.Frag} {F : Hp} {vs : List V} {ds : List D} (r : RepA K F vs ds) (lo hi : Option Int) : RepA K F (cutV vs lo hi) (cut ds lo hi) := by
  unfold cutV T.cut
  rw [r.len]
  exact (r.drop _).take _
def rSlD (X : Cx) : V → Option Int → Option Int → Hp → VK → Prop := fun x lo hi H Q => ∃ F M Z dx Q', SR X.K F M Z H ∧ Rep X.K F x dx ∧ slD (vw M dx) lo hi (fun d => Q' d M) ∧ ∀ v H', KQ X.K F Z Q' v H' → Q v H'
theorem sl_D : SlR X (rSlD X) := by
  intro pins s σ H x v vl vu lo hi sl Q I rx hs pl pu h
  obtain ⟨F, M, Z, dx, Q', sr, hx, h, k⟩ := h
  cases e : vw M dx with
  | lst xs =>
    rw [e] at h
    obtain ⟨a, vs, rfl, ha, ra⟩ := vw_lst sr hx e
    refine sl_list pins s σ H _ v vl vu lo hi sl Q I rx hs pl pu ⟨a, vs, rfl, SqL.of ha, fun p hp => k _ _ ?_⟩
    obtain ⟨sF, sr'⟩ := sr.layF (o := .lst (cutV vs lo hi)) hp
    exact ⟨_, M, _, sF, sr', .lst upd_same ((ra.cut lo hi).mono sF), h⟩
  | tup xs =>
    rw [e] at h
    obtain ⟨a, vs, rfl, ha, ra⟩ := vw_tup hx e
    cases rx
    obtain ⟨its, r, ht, hz⟩ := I.tuple (SqT.mono sr.f ha.sqt)
    have hlen : its.toArray.size = vs.length := by rw [List.size_toArray]; exact r.length.symm
    refine ⟨"tuple", _, PyProof.Rows.slot_tuple_getitem.lookup, ht.typeIs, ?_⟩
    by_cases hw : HT.sIx vs.length 0 lo = 0 ∧ HT.sIx vs.length vs.length hi = vs.length
    · refine getItem_tuple_whole ht hs pl pu (by rw [hlen]; exact hw) ⟨.ref a, H, I, rfl, k _ _ ?_⟩
      have ec : cut xs lo hi = xs := by
        unfold T.cut
        rw [← ra.len, hw.1, hw.2, Nat.sub_zero, List.drop_zero, ra.len, List.take_length]
      have h' : Q' (.tup (cut xs lo hi)) M := h
      rw [ec] at h'
      exact .of sr (.tup ha ra) h'
    · refine HT.getItem_tuple_cut ht hs pl pu (by rw [hlen]; exact hw) ?_ (by rw [hlen]; exact hz)
      rw [hlen]
      exact newTup (t' := s.toks) sr I ((r.drop (HT.sIx vs.length 0 lo)).take (HT.sIx vs.length vs.length hi - HT.sIx vs.length 0 lo)) (ra.cut lo hi) (Nat.le_trans (cutV_length vs lo hi) hz) h k
  | _ => rw [e] at h; exact h.elim
end
end T
set_option Elab.async false
set_option linter.all false
set_option maxRecDepth 100000
set_option maxHeartbeats 4000000
namespace T
open PySem PySem.Spec PyProof.Rows L2
section
variable {prog : Program} {w : World} {A : Around} {E : Value → Shared → Prop} {s : Shared}
/-- a tuple's items, gathered ahead of a sort -/
theorem collect_tup {l : Addr} {vs : List Value} {Q : List Value → Shared → Prop} (ht : s.heap.IsTuple l vs.toArray)
    (q : Q vs { s with heap := (s.heap.push (seqObj "list" #[] 0)).update s.heap.objs.size (Obj.mapSeq (· ++ vs.toArray)) }) (hz : vs.length ≤ sizeLine) :
    wpAny (model prog w) A (collect (.ref l)) Q E s := by
  obtain ⟨o, e, ec, n, ed⟩ := id ht
  unfold collect
  refine wpAny_bind (wpAny_runValue (codeAny_builtin entry_proto_collect' (show wpAny _ _ (do again (.builtin "list.__iadd__" ⟨[← newList [], .ref l], []⟩)) _ _ s from ?_)))
  refine wpAny_bind (wpAny_newList (wpAny_pure ⟨Code.quiet_builtin _ (by decide +kernel), codeAny_builtin entry_list_iadd' (show wpAny _ _ (Builtin.List.listExtendWith (.ref s.heap.objs.size) (.ref l) (.ref s.heap.objs.size)) _ _ { s with heap := s.heap.push (seqObj "list" #[] 0) } from ?_)⟩))
  unfold Builtin.List.listExtendWith
  have e' : (s.heap.push (seqObj "list" #[] 0)).get? l = some o := Heap.get?_push_of_some _ e
  have hb : (Value.type "tuple" == Value.type "tuple") = true := by rfl
  refine wpAny_bind (wpAny_typeOf (T := "tuple") ⟨o, e', ec⟩ ?_)
  rw [if_pos (by rw [hb, Bool.or_true])]
  refine wpAny_bind (listItems_at e' ed (wpAny_bind (listItems_at (xs := #[]) (n := 0) (Heap.get?_push_size _ rfl) rfl ?_)))
  rw [if_neg (by simp)]
  refine wpAny_bind (listUpdate_at (xs := #[]) (n := 0) (Heap.get?_push_size _ rfl) rfl (wpAny_pure ?_) (Nat.zero_le _) (by show (#[] ++ vs.toArray).size ≤ sizeLine + 1; simp only [Array.size_append, List.size_toArray, List.length_nil]; omega))
  refine wpAny_bind (wpAny_load (get?_update_seq (Heap.get?_push_size _ rfl) _) ?_)
  show wpAny _ _ (pure ((#[] : Array Value) ++ vs.toArray).toList) Q E _
  have ee : ((#[] : Array Value) ++ vs.toArray).toList = vs := by simp
  rw [ee]
  exact wpAny_pure q
theorem sorted_ordT {l : Addr} {vs : List Value} {ltv : Value → Value → Bool} {Q : Value → Shared → Prop} (O : SrtO.Swo ltv) (ht : s.heap.IsTuple l vs.toArray) (hz : vs.length ≤ sizeLine)
    (hS : 2 ≤ vs.length → ∀ (h₁ : Heap) (a : Addr), h₁.get? a = some (seqObj "list" vs.toArray 0) → (∀ b o, s.heap.get? b = some o → b ≠ a ∧ h₁.get? b = some o) → SrtO.SortableO prog w A.in1.in1 { s with heap := h₁ } a vs ltv)
    (q : ∀ out : List Value, SrtO.Srtd ltv out → SrtO.Stb ltv out vs → Q (.ref (s.heap.objs.size + 1)) { s with heap := sortedAll s.heap vs out.toArray }) :
    wpAny (model prog w) A (call (.builtin "sorted") [.ref l]) Q E s := by
  refine Calls.call_function_entry kind_sorted plain_sorted entry_sorted (args_sorted1 _) ?_
  unfold Builtin.«sorted»
  refine wpAny_bind (m := checkCount "sorted" 1 1 _) (wpAny_pure (wpAny_bind (collect_tup ht (wpAny_bind (wpAny_newList ?_ hz)) hz)))
  have k1 : ((s.heap.push (seqObj "list" #[] 0)).update s.heap.objs.size (Obj.mapSeq (· ++ vs.toArray))).objs.size = s.heap.objs.size + 1 := by
    rw [Heap.size_update, Heap.size_push]
  have k2 : (((s.heap.push (seqObj "list" #[] 0)).update s.heap.objs.size (Obj.mapSeq (· ++ vs.toArray))).push (seqObj "list" vs.toArray 0)).get? (s.heap.objs.size + 1) = some (seqObj "list" vs.toArray 0) := by
    rw [← k1]; exact Heap.get?_push_size _ rfl
  have k3 : ∀ b o, s.heap.get? b = some o → b ≠ s.heap.objs.size + 1 ∧ (((s.heap.push (seqObj "list" #[] 0)).update s.heap.objs.size (Obj.mapSeq (· ++ vs.toArray))).push (seqObj "list" vs.toArray 0)).get? b = some o := fun b o e => by
    have lt := Heap.lt_size e
    refine ⟨Nat.ne_of_lt (Nat.lt_succ_of_lt lt), Heap.get?_push_of_some _ ?_⟩
    rw [Heap.get?_update_ne _ _ _ _ (Nat.ne_of_lt lt)]
    exact Heap.get?_push_of_some _ e
  show wpAny _ _ _ _ _ { s with heap := ((s.heap.push (seqObj "list" #[] 0)).update s.heap.objs.size (Obj.mapSeq (· ++ vs.toArray))).push (seqObj "list" vs.toArray 0) }
  rw [k1]
  exact wpAny_bind (wpAny_holding (wpAny_call_entry slot_list_sort ⟨_, k2, rfl⟩ entry_list_sort (SrtO.list_sort_ord O k2 hz (fun h2 => hS h2 _ _ k2 k3) fun out hs hb => ⟨_, rfl, wpAny_pure ⟨_, rfl, q out hs hb⟩⟩) (args_list_sort _)))
end
section
variable {X : Cx}
def rSortedT (K : PySem.W.Frag) : List V → Hp → VK → Prop := fun vs H Q => ∃ (a : Addr) (ns : List Int), vs = [V.ref a] ∧ SqT K H a (ns.map V.int) ∧
  ∀ (ns' : List Int) (p : Addr), ns'.Perm ns → ns'.Pairwise (· ≤ ·) → H p = none → Q (.ref p) (upd H p (.lst (ns'.map V.int)))
theorem cr_sortedT : CallR X (.builtin "sorted") (rSortedT X.K) := by
  intro pins s σ H vs us Q I r h
  obtain ⟨a, ns, rfl, hs, q⟩ := h
  obtain ⟨its, rv, hl, hz⟩ := I.tuple hs
  rw [Vals.ref1 r]
  have hi := rv.ints
  refine sorted_ordT SrtO.swo_int (show s.heap.IsTuple a its.toArray from hl) (by rw [← rv.length]; exact hz) (fun h2 h₁ a' _ _ => SrtO.ints_sortable hi h2) fun out h1 h2 => ?_
  obtain ⟨k1, k2, k3⟩ := SrtO.ints_out hi h1 h2
  obtain ⟨ep, he'⟩ := PyProof.Rows.sortedAll_at s.heap its out.toArray
  have hlen : ((out.map SrtO.iv).map V.int).length ≤ sizeLine := by rw [List.length_map, k2.length_eq]; rw [List.length_map] at hz; exact hz
  exact ⟨.ref _, upd H (s.heap.objs.size + 1) (.lst ((out.map SrtO.iv).map V.int)), I.laid (t' := s.toks) (fun _ _ => PyProof.Rows.sortedAll_old) (Nat.le_succ _) ⟨hlen, out, ep, vals_of_ints k1, he'⟩, rfl, q _ _ k2 k3 (I.hok.fresh (Nat.le_succ _))⟩
end
section
variable {K : PySem.W.Frag} {F F' Z H : Hp} {M M' : MH} {x y v : V} {d dx dy : D} {vs : List V} {ds : List D} {Q' : D → MH → Prop}
theorem mkL_new {m : Bool} {p : Addr} (sr : SR K F M Z H) (ra : RepA K F vs ds) (hp : H p = none) (q : mkL m ds M Q') : KQ K F Z Q' (.ref p) (upd H p (.lst vs)) := by
  cases m with
  | false =>
    obtain ⟨sF, sr'⟩ := sr.layF (o := .lst vs) hp
    exact ⟨_, M, _, sF, sr', .lst upd_same (ra.mono sF), q⟩
  | true =>
    have q' : ∀ a, M a = none → Q' (.ref a) (M.set a (.lst ds)) := q
    exact ⟨F, _, _, Same.refl F, sr.layM hp (.lst ra), .ref p, q' p (sr.new hp).2.1⟩
theorem ints_of : ∀ {ds : List D} {is : List Int}, ints? ds = some is → ds = is.map .int
  | [], _, e => by simp [ints?] at e; subst e; rfl
  | .int i :: r, is, e => by
    simp [ints?] at e
    obtain ⟨js, e1, e2⟩ := e
    subst e2
    rw [ints_of e1]; rfl
  | .non :: _, _, e => by simp [ints?] at e
  | .bl _ :: _, _, e => by simp [ints?] at e
  | .str _ :: _, _, e => by simp [ints?] at e
  | .lst _ :: _, _, e => by simp [ints?] at e
  | .tup _ :: _, _, e => by simp [ints?] at e
  | .dct _ _ :: _, _, e => by simp [ints?] at e
  | .ref _ :: _, _, e => by simp [ints?] at e
  | .scr _ :: _, _, e => by simp [ints?] at e
theorem bls_of : ∀ {ds : List D} {is : List Bool}, bls? ds = some is → ds = is.map .bl
  | [], _, e => by simp [bls?] at e; subst e; rfl
  | .bl i :: r, is, e => by
    simp [bls?] at e
    obtain ⟨js, e1, e2⟩ := e
    subst e2
    rw [bls_of e1]; rfl
  | .non :: _, _, e => by simp [bls?] at e
  | .int _ :: _, _, e => by simp [bls?] at e
  | .str _ :: _, _, e => by simp [bls?] at e
  | .lst _ :: _, _, e => by simp [bls?] at e
  | .tup _ :: _, _, e => by simp [bls?] at e
  | .dct _ _ :: _, _, e => by simp [bls?] at e
  | .ref _ :: _, _, e => by simp [bls?] at e
  | .scr _ :: _, _, e => by simp [bls?] at e
theorem RepA.toBls : ∀ {vs : List V} {ns : List Bool}, RepA K F vs (ns.map D.bl) → vs = ns.map V.bl
  | _, [], r => by cases r; rfl
  | _, n :: ns, r => by
    cases r with
    | cons h r => cases h; rw [RepA.toBls r]; rfl
theorem RepA.one (r : RepA K F vs [d]) : ∃ v, vs = [v] ∧ Rep K F v d := by
  cases r with
  | cons h r => cases r; exact ⟨_, rfl, h⟩
theorem RepA.two {e : D} (r : RepA K F vs [d, e]) : ∃ v w, vs = [v, w] ∧ Rep K F v d ∧ Rep K F w e := by
  cases r with
  | cons h r => cases r with
    | cons h' r => cases r; exact ⟨_, _, rfl, h, h'⟩
theorem seq_inv {k : List D → Prop} (h : seqD d k) : ∃ xs, (d = .lst xs ∨ d = .tup xs) ∧ k xs := by
  cases d <;> first
    | exact h.elim
    | exact ⟨_, .inl rfl, h⟩
    | exact ⟨_, .inr rfl, h⟩
/-- a list or a tuple that stands there -/
theorem vw_seq {xs : List D} (sr : SR K F M Z H) (r : Rep K F x d) (e : vw M d = .lst xs ∨ vw M d = .tup xs) : ∃ a vs, x = .ref a ∧ (SqL K H a vs ∨ SqT K H a vs) ∧ RepA K F vs xs := by
  rcases e with e | e
  · obtain ⟨a, vs, e1, h, ra⟩ := vw_lst sr r e
    exact ⟨a, vs, e1, .inl (SqL.of h), ra⟩
  · obtain ⟨a, vs, e1, h, ra⟩ := vw_tup r e
    exact ⟨a, vs, e1, .inr (SqT.mono sr.f h.sqt), ra⟩
theorem sort_perm {ns ns' : List Int} (p : ns'.Perm ns) (s : ns'.Pairwise (· ≤ ·)) : ns' = ns.mergeSort := by
  have p2 : ns'.Perm ns.mergeSort := p.trans (List.mergeSort_perm ns _).symm
  have s2 : (ns.mergeSort).Pairwise (· ≤ ·) := by
    have := List.pairwise_mergeSort (le := fun a b : Int => decide (a ≤ b)) (fun a b c h1 h2 => by simp at *; omega) (fun a b => by simp; omega) ns
    exact this.imp fun h => by simpa using h
  exact p2.eq_of_pairwise (fun a b _ _ h1 h2 => Int.le_antisymm h1 h2) s s2
end
section
variable {X : Cx}
def rBiD (X : Cx) (m : Bool) (b : Bi) : List V → Hp → VK → Prop := fun vs H Q => ∃ F M Z ds Q', SR X.K F M Z H ∧ RepA X.K F vs ds ∧ biD m b ds M Q' ∧ ∀ v H', KQ X.K F Z Q' v H' → Q v H'
theorem cb_len (m : Bool) : CallR X (.builtin "len") (rBiD X m .len) := by
  intro pins s σ H xs us Q I r h
  obtain ⟨F, M, Z, ds, Q', sr, ra, h, k⟩ := h
  match ds, h with
  | [d], h =>
    obtain ⟨v, rfl, rv⟩ := ra.one
    simp only [biD] at h
    cases e : vw M d with
    | lst xs =>
      rw [e] at h
      obtain ⟨a, vs, rfl, ha, ra'⟩ := vw_seq sr rv (.inl e)
      exact call_len_seq pins s σ H _ us Q I r ⟨a, vs, rfl, ha, by rw [ra'.len]; exact k _ _ (.of sr (.int _) h)⟩
    | tup xs =>
      rw [e] at h
      obtain ⟨a, vs, rfl, ha, ra'⟩ := vw_seq sr rv (.inr e)
      exact call_len_seq pins s σ H _ us Q I r ⟨a, vs, rfl, ha, by rw [ra'.len]; exact k _ _ (.of sr (.int _) h)⟩
    | _ => rw [e] at h; exact h.elim
theorem cb_abs (m : Bool) : CallR X (.builtin "abs") (rBiD X m .abs) := by
  intro pins s σ H xs us Q I r h
  obtain ⟨F, M, Z, ds, Q', sr, ra, h, k⟩ := h
  match ds, h with
  | [.int i], h =>
    obtain ⟨v, rfl, rv⟩ := ra.one
    cases rv
    exact call_abs pins s σ H _ us Q I r ⟨i, rfl, k _ _ (.of sr (.int _) h)⟩
theorem cb_int (m : Bool) : CallR X (.type "int") (rBiD X m .int) := by
  intro pins s σ H xs us Q I r h
  obtain ⟨F, M, Z, ds, Q', sr, ra, h, k⟩ := h
  match ds, h with
  | [.int i], h =>
    obtain ⟨v, rfl, rv⟩ := ra.one
    cases rv
    exact call_int1 pins s σ H _ us Q I r (.inl ⟨i, rfl, k _ _ (.of sr (.int _) h)⟩)
  | [.bl i], h =>
    obtain ⟨v, rfl, rv⟩ := ra.one
    cases rv
    exact call_int1 pins s σ H _ us Q I r (.inr ⟨i, rfl, k _ _ (.of sr (.int _) h)⟩)
theorem cb_str (m : Bool) : CallR X (.type "str") (rBiD X m .str) := by
  intro pins s σ H xs us Q I r h
  obtain ⟨F, M, Z, ds, Q', sr, ra, h, k⟩ := h
  match ds, h with
  | [.int i], ⟨hz, h⟩ =>
    obtain ⟨v, rfl, rv⟩ := ra.one
    cases rv
    exact call_str_int pins s σ H _ us Q I r ⟨i, rfl, hz, k _ _ (.of sr (.str _) h)⟩
  | [.str x], h =>
    obtain ⟨v, rfl, rv⟩ := ra.one
    cases rv
    exact SkE.call_str_str pins s σ H _ us Q I r ⟨x, rfl, k _ _ (.of sr (.str _) h)⟩
  | [.bl b], h =>
    obtain ⟨v, rfl, rv⟩ := ra.one
    cases rv
    obtain ⟨u, rfl, r1⟩ := vals1 r
    cases r1
    exact P.str_of_bool ⟨.str _, H, I.tok _, ⟨_, rfl⟩, k _ _ (.of sr (.str _) h)⟩
theorem cb_all (hc : X.calm = true) (m : Bool) : CallR X (.builtin "all") (rBiD X m .all) := by
  intro pins s σ H xs us Q I r h
  obtain ⟨F, M, Z, ds, Q', sr, ra, h, k⟩ := h
  match ds, h with
  | [d], h =>
    obtain ⟨v, rfl, rv⟩ := ra.one
    simp only [biD] at h
    cases e : vw M d with
    | lst xs =>
      rw [e] at h
      obtain ⟨a, vs, rfl, ha, ra'⟩ := vw_lst sr rv e
      simp only at h
      cases q : bls? xs with
      | none => rw [q] at h; exact h.elim
      | some bs =>
        rw [q] at h
        have e2 := bls_of q
        subst e2
        rw [RepA.toBls ra'] at ha
        exact cr_all hc pins s σ H _ us Q I r ⟨a, bs, rfl, SqL.of ha, k _ _ (.of sr (.bl _) h)⟩
    | _ => rw [e] at h; exact h.elim
theorem cb_any (hc : X.calm = true) (m : Bool) : CallR X (.builtin "any") (rBiD X m .any) := by
  intro pins s σ H xs us Q I r h
  obtain ⟨F, M, Z, ds, Q', sr, ra, h, k⟩ := h
  match ds, h with
  | [d], h =>
    obtain ⟨v, rfl, rv⟩ := ra.one
    simp only [biD] at h
    cases e : vw M d with
    | lst xs =>
      rw [e] at h
      obtain ⟨a, vs, rfl, ha, ra'⟩ := vw_lst sr rv e
      simp only at h
      cases q : bls? xs with
      | none => rw [q] at h; exact h.elim
      | some bs =>
        rw [q] at h
        have e2 := bls_of q
        subst e2
        rw [RepA.toBls ra'] at ha
        exact cr_any hc pins s σ H _ us Q I r ⟨a, bs, rfl, SqL.of ha, k _ _ (.of sr (.bl _) h)⟩
    | _ => rw [e] at h; exact h.elim
theorem cb_tuple (m : Bool) : CallR X (.type "tuple") (rBiD X m .tuple) := by
  intro pins s σ H xs us Q I r h
  obtain ⟨F, M, Z, ds, Q', sr, ra, h, k⟩ := h
  match ds, h with
  | [d], h =>
    obtain ⟨v, rfl, rv⟩ := ra.one
    obtain ⟨xs, e, q⟩ := seq_inv (show seqD (vw M d) (fun xs => Q' (.tup xs) M) from h)
    rcases e with e | e
    · obtain ⟨a, vs, rfl, ha, ra'⟩ := vw_lst sr rv e
      obtain ⟨u, rfl, rx⟩ := vals1 r
      cases rx
      obtain ⟨its, r', pl, hz⟩ := I.list (SqL.of ha)
      have hlen := r'.length
      refine call_tuple_list pl.isList (fun h' kp => ?_) (by simp only [List.size_toArray] <;> omega)
      have I1 : Inv X pins σ H { s with heap := h' } := I.kept (t' := s.toks) kp
      exact newTup (t' := s.toks) sr I1 r' ra' hz q k
    · obtain ⟨a, vs, rfl, ha, ra'⟩ := vw_tup rv e
      obtain ⟨u, rfl, rx⟩ := vals1 r
      cases rx
      obtain ⟨its, r', pl, hz⟩ := I.tuple (SqT.mono sr.f ha.sqt)
      exact call_tuple_same pl ⟨.ref a, H, I, rfl, k _ _ (.of sr (.tup ha ra') q)⟩
theorem cb_list (m : Bool) : CallR X (.type "list") (rBiD X m .list) := by
  intro pins s σ H xs us Q I r h
  obtain ⟨F, M, Z, ds, Q', sr, ra, h, k⟩ := h
  match ds, h with
  | [d], h =>
    obtain ⟨v, rfl, rv⟩ := ra.one
    obtain ⟨xs, e, q⟩ := seq_inv (show seqD (vw M d) (fun xs => mkL m xs M Q') from h)
    obtain ⟨a, vs, rfl, ha, ra'⟩ := vw_seq sr rv e
    exact call_list_of pins s σ H _ us Q I r ⟨a, vs, rfl, ha, fun p hp => k _ _ (mkL_new sr ra' hp q)⟩
theorem cb_sorted (m : Bool) : CallR X (.builtin "sorted") (rBiD X m .sorted) := by
  intro pins s σ H xs us Q I r h
  obtain ⟨F, M, Z, ds, Q', sr, ra, h, k⟩ := h
  match ds, h with
  | [d], h =>
    obtain ⟨v, rfl, rv⟩ := ra.one
    simp only [biD] at h
    cases e : vw M d with
    | lst xs =>
      rw [e] at h
      obtain ⟨a, vs, rfl, ha, ra'⟩ := vw_lst sr rv e
      simp only at h
      cases q : ints? xs with
      | none => rw [q] at h; exact h.elim
      | some is =>
        rw [q] at h
        have e2 := ints_of q
        subst e2
        rw [RepA.toInts ra'] at ha
        refine cr_sortedI pins s σ H _ us Q I r ⟨a, is, rfl, SqL.of ha, fun ns' p pm pw hp => k _ _ ?_⟩
        rw [sort_perm pm pw]
        exact mkL_new sr (RepA.ints _) hp h
    | tup xs =>
      rw [e] at h
      obtain ⟨a, vs, rfl, ha, ra'⟩ := vw_tup rv e
      simp only at h
      cases q : ints? xs with
      | none => rw [q] at h; exact h.elim
      | some is =>
        rw [q] at h
        have e2 := ints_of q
        subst e2
        rw [RepA.toInts ra'] at ha
        refine cr_sortedT pins s σ H _ us Q I r ⟨a, is, rfl, SqT.mono sr.f ha.sqt, fun ns' p pm pw hp => k _ _ ?_⟩
        rw [sort_perm pm pw]
        exact mkL_new sr (RepA.ints _) hp h
    | _ => rw [e] at h; exact h.elim
def Ty.nm : Ty → String
  | .int => "int" | .bool => "bool" | .str => "str" | .tuple => "tuple" | .list => "list" | .dict => "dict"
def D.ty : D → String
  | .non => "NoneType" | .bl _ => "bool" | .int _ => "int" | .str _ => "str" | .lst _ => "list" | .tup _ => "tuple" | .dct _ _ => "dict" | .ref _ => "" | .scr _ => "list"
theorem kit_isTy {K : PySem.W.Frag} {d : D} (h : d.isRef = false) (h2 : ∀ ns, d ≠ .scr ns) (t : Ty) : PySem.W.kitOne K (.type d.ty) (.type t.nm) = some (isTy d t) := by
  refine kit_ty ?_
  cases d <;> cases t <;> first
    | (simp [D.isRef] at h; done)
    | (exact absurd rfl (h2 _))
    | (simp only [D.ty, Ty.nm, isTy]; decide +kernel)
end
end T
set_option Elab.async false
set_option linter.all false
set_option maxRecDepth 100000
set_option maxHeartbeats 4000000
namespace T
open PySem PySem.Spec PyProof.Rows L2
/-- cs: the classes of exceptions, each with its field; hot: is an exception handled meanwhile? -/
structure Tb where
  fnm : Nat → Option Str
  gnm : Nat → Option Str
  cs : List (Str × Option Str) := []
  hot : Bool := false
  hfn : Nat → Option Str := fun _ => none
  /-- the module has SIZES -/
  sz : Bool := false
/-- the tables in an except suite -/
def Tb.toHot (tb : Tb) : Tb := ⟨tb.hfn, tb.gnm, tb.cs, true, fun _ => none, false⟩
/-- x stands as an object of the class cls, its dict at d -/
def XRep (K : PySem.W.Frag) (cs : List (Str × Option Str)) (F : Hp) (cls : Value) (d : Option Addr) (x : Xc) : Prop :=
  (x.cls, x.arg.map (·.1)) ∈ cs ∧ (cls = .ref (He.ga K x.cls) ∧ (x.arg = none → d = none)) ∧ ∀ f v, x.arg = some (f, v) → ∃ da u, d = some da ∧ F da = some (.xd [(f, u)]) ∧ Rep K F u v
theorem XRep.mono {K : PySem.W.Frag} {cs : List (Str × Option Str)} {F F' : Hp} (s : Same F F') {cls : Value} {d : Option Addr} {x : Xc} (h : XRep K cs F cls d x) : XRep K cs F' cls d x :=
  ⟨h.1, h.2.1, fun f v e => let ⟨da, u, h1, h2, h3⟩ := h.2.2 f v e; ⟨da, u, h1, s _ _ h2, h3.mono s⟩⟩
/-- an exception that leaves an expression -/
def KX (K : PySem.W.Frag) (cs : List (Str × Option Str)) (F Z : Hp) (R : Xc → MH → Prop) (cls : Value) (d : Option Addr) (H' : Hp) : Prop := ∃ F' M' x, Same F F' ∧ SR K F' M' Z H' ∧ XRep K cs F' cls d x ∧ R x M'
/-- an exception that leaves a statement -/
def KXS (K : PySem.W.Frag) (cs : List (Str × Option Str)) (F Z : Hp) (R : Xc → En → MH → Prop) (cls : Value) (d : Option Addr) (σ' : L2.St) (H' : Hp) : Prop := ∃ F' M' ρ' x, Same F F' ∧ SR K F' M' Z H' ∧ RE K F' σ' ρ' ∧ XRep K cs F' cls d x ∧ R x ρ' M'
theorem KX.back {K : PySem.W.Frag} {cs : List (Str × Option Str)} {F F1 Z : Hp} {R : Xc → MH → Prop} {cls : Value} {d : Option Addr} {H' : Hp} (h : KX K cs F1 Z R cls d H') (s : Same F F1) : KX K cs F Z R cls d H' :=
  let ⟨F', M', x, s', r⟩ := h; ⟨F', M', x, s.trans s', r⟩
theorem KXS.back {K : PySem.W.Frag} {cs : List (Str × Option Str)} {F F1 Z : Hp} {R : Xc → En → MH → Prop} {cls : Value} {d : Option Addr} {σ' : L2.St} {H' : Hp} (h : KXS K cs F1 Z R cls d σ' H') (s : Same F F1) : KXS K cs F Z R cls d σ' H' :=
  let ⟨F', M', ρ', x, s', r⟩ := h; ⟨F', M', ρ', x, s.trans s', r⟩
/-- where the handled exception stands, and how -/
def HxOk (X : Cx) (cs : List (Str × Option Str)) (F : Hp) (p : Addr × Xc) : Prop := ∃ oe, (p.1, oe) ∈ X.pn ∧ L2H.Hot1 X.A (p.1, oe) ∧ XRep X.K cs F oe.cls oe.dict p.2
theorem HxOk.mono {X : Cx} {cs : List (Str × Option Str)} {F F' : Hp} (s : Same F F') {p : Addr × Xc} (h : HxOk X cs F p) : HxOk X cs F' p := let ⟨oe, h1, h2, h3⟩ := h; ⟨oe, h1, h2, h3.mono s⟩
/-- the slots; what is wished of an exception; the handled exception -/
structure RX (X : Cx) (tb : Tb) (C : SC) (R : Xc → MH → Prop) (F Z : Hp) (σ : L2.St) (ρ : En) : Prop where
  re : RE X.K F σ ρ
  tk : L2N.Takes X fun cls d σ' H' => σ' = σ ∧ KX X.K tb.cs F Z R cls d H'
  hx : ∀ p, C.exc = some p → HxOk X tb.cs F p
structure RS (X : Cx) (tb : Tb) (C : SC) (R : Xc → En → MH → Prop) (F Z : Hp) (σ : L2.St) (ρ : En) : Prop where
  re : RE X.K F σ ρ
  tk : L2N.Takes X (KXS X.K tb.cs F Z R)
  hx : ∀ p, C.exc = some p → HxOk X tb.cs F p
section
variable {X : Cx} {tb : Tb} {C : SC} {F F' Z : Hp} {σ σ' : L2.St} {ρ ρ' : En}
theorem RX.mono {R : Xc → MH → Prop} (s : Same F F') (h : RX X tb C R F Z σ ρ) : RX X tb C R F' Z σ ρ := ⟨h.re.mono s, h.tk.imp fun _ _ _ _ h => ⟨h.1, h.2.back s⟩, fun p e => (h.hx p e).mono s⟩
theorem RS.mono {R : Xc → En → MH → Prop} (s : Same F F') (h : RS X tb C R F Z σ ρ) : RS X tb C R F' Z σ ρ := ⟨h.re.mono s, h.tk.imp fun _ _ _ _ h => h.back s, fun p e => (h.hx p e).mono s⟩
/-- at other slots -/
theorem RS.to {R : Xc → En → MH → Prop} (h : RS X tb C R F Z σ ρ) (s : Same F F') (r : RE X.K F' σ' ρ') : RS X tb C R F' Z σ' ρ' := ⟨r, (h.mono s).tk, (h.mono s).hx⟩
theorem RS.x {R : Xc → En → MH → Prop} (h : RS X tb C R F Z σ ρ) : RX X tb C (fun x M' => R x ρ M') F Z σ ρ :=
  ⟨h.re, h.tk.imp fun cls d σ' H' ⟨e, F', M', x, s, sr, xr, r⟩ => ⟨F', M', ρ, x, s, sr, by rw [e]; exact h.re.mono s, xr, r⟩, h.hx⟩
end
def tG (K : PySem.W.Frag) (B : Hp → Hp → L2.St → En → Prop) (wp : En → MH → (D → MH → Prop) → Prop) : TE := fun σ H Q => ∃ F M Z ρ Q', SR K F M Z H ∧ B F Z σ ρ ∧ wp ρ M Q' ∧ ∀ v H', KQ K F Z Q' v H' → Q v H'
def KQs (K : PySem.W.Frag) (F Z : Hp) (Q' : List D → MH → Prop) (vs : List V) (H' : Hp) : Prop := ∃ F' M' ds, Same F F' ∧ SR K F' M' Z H' ∧ RepA K F' vs ds ∧ Q' ds M'
def tGs (K : PySem.W.Frag) (B : Hp → Hp → L2.St → En → Prop) (wp : En → MH → (List D → MH → Prop) → Prop) : TA := fun σ H Q => ∃ F M Z ρ Q', SR K F M Z H ∧ B F Z σ ρ ∧ wp ρ M Q' ∧ ∀ vs H', KQs K F Z Q' vs H' → Q vs H'
def KQb (K : PySem.W.Frag) (F Z : Hp) (Q' : Bool → MH → Prop) (b : Bool) (H' : Hp) : Prop := ∃ F' M', Same F F' ∧ SR K F' M' Z H' ∧ Q' b M'
def tGt (K : PySem.W.Frag) (B : Hp → Hp → L2.St → En → Prop) (wp : En → MH → (Bool → MH → Prop) → Prop) : TT := fun σ H Q => ∃ F M Z ρ Q', SR K F M Z H ∧ B F Z σ ρ ∧ wp ρ M Q' ∧ ∀ b H', KQb K F Z Q' b H' → Q b H'
def KQo (K : PySem.W.Frag) (F Z : Hp) (Q' : Option Int → MH → Prop) (o : Option Int) (H' : Hp) : Prop := ∃ F' M', Same F F' ∧ SR K F' M' Z H' ∧ Q' o M'
def tGo (K : PySem.W.Frag) (B : Hp → Hp → L2.St → En → Prop) (wp : En → MH → (Option Int → MH → Prop) → Prop) : TO := fun σ H Q => ∃ F M Z ρ Q', SR K F M Z H ∧ B F Z σ ρ ∧ wp ρ M Q' ∧ ∀ o H', KQo K F Z Q' o H' → Q o H'
section
variable (X : Cx) (tb : Tb) (C : SC)
abbrev tD (R : Xc → MH → Prop) := tG X.K (RX X tb C R)
abbrev tDd (R : Xc → En → MH → Prop) := tG X.K (RS X tb C R)
abbrev tDs (R : Xc → MH → Prop) := tGs X.K (RX X tb C R)
abbrev tDt (R : Xc → MH → Prop) := tGt X.K (RX X tb C R)
abbrev tDtd (R : Xc → En → MH → Prop) := tGt X.K (RS X tb C R)
abbrev tDo (R : Xc → MH → Prop) := tGo X.K (RX X tb C R)
end
/-- .. where no exception is wished -/
abbrev tD0 (K : PySem.W.Frag) := tG K fun F _ σ ρ => RE K F σ ρ
abbrev tDt0 (K : PySem.W.Frag) := tGt K fun F _ σ ρ => RE K F σ ρ
section
variable {X : Cx} {e : Expr} {es : List Expr}
theorem PE_imp {t t' : TE} (h : PE X e t) (i : ∀ σ H Q, t' σ H Q → t σ H Q) : PE X e t' := ⟨fun pins s σ H Q I w => h.run pins s σ H Q I (i σ H Q w)⟩
theorem PT_imp {t t' : TT} (h : PT X e t) (i : ∀ σ H Q, t' σ H Q → t σ H Q) : PT X e t' := ⟨fun pins s σ H Q I w => h.run pins s σ H Q I (i σ H Q w)⟩
theorem PW_imp {t t' : TT} (h : PW X e t) (i : ∀ σ H Q, t' σ H Q → t σ H Q) : PW X e t' := ⟨fun wh pins s σ H Q I w => h.run wh pins s σ H Q I (i σ H Q w)⟩
theorem PA_imp {t t' : TA} (h : PA X es t) (i : ∀ σ H Q, t' σ H Q → t σ H Q) : PA X es t' := ⟨fun pos pins s σ H Q I w => h.run pos pins s σ H Q I (i σ H Q w)⟩
theorem PO_imp {o : Option Expr} {t t' : TO} (h : PO X o t) (i : ∀ σ H Q, t' σ H Q → t σ H Q) : PO X o t' := ⟨fun pins s σ H Q I w => h.run pins s σ H Q I (i σ H Q w)⟩
theorem RX.f {tb : Tb} {C : SC} {F Z : Hp} {σ : L2.St} {ρ : En} (hC : C.exc = none) (h : RE X.K F σ ρ) : RX X tb C (fun _ _ => False) F Z σ ρ :=
  ⟨h, fun u s' ⟨a, B, sI, pins, σ', H', cls, d, _, _, _, _, _, _, _, _, _, F', M', x, _, _, _, z⟩ => z.elim, fun p e => by rw [hC] at e; cases e⟩
theorem PE_f {tb : Tb} {C : SC} {wp : En → MH → (D → MH → Prop) → Prop} (hC : C.exc = none) (h : PE X e (tD X tb C (fun _ _ => False) wp)) : PE X e (tD0 X.K wp) :=
  PE_imp h fun σ H Q ⟨F, M, Z, ρ, Q', sr, re, hw, k⟩ => ⟨F, M, Z, ρ, Q', sr, RX.f hC re, hw, k⟩
theorem PTs_f {tb : Tb} {C : SC} {wp : En → MH → (Bool → MH → Prop) → Prop} (hC : C.exc = none) (h : PTs X es (tDt X tb C (fun _ _ => False) wp)) : PTs X es (tDt0 X.K wp) :=
  ⟨fun pins s σ H Q I ⟨F, M, Z, ρ, Q', sr, re, hw, k⟩ => h.run pins s σ H Q I ⟨F, M, Z, ρ, Q', sr, RX.f hC re, hw, k⟩⟩
/-- one expression's reading, then the next -/
theorem tD_then {K : PySem.W.Frag} {F F1 Z : Hp} {Q' : D → MH → Prop} {Q : VK} (s : Same F F1) (k : ∀ v H', KQ K F Z Q' v H' → Q v H') : ∀ v H', KQ K F1 Z Q' v H' → Q v H' := fun v H' h => k v H' (h.back s)
end
def visB (sc : Scope) (n : Str) : Bool := match sc.names.lookup n with
  | some .local => true
  | some .cell => true
  | some .free => true
  | _ => false
def glB (sc : Scope) (n : Str) : Bool := match sc.names.lookup n with
  | some .globalImplicit => true
  | _ => false
def okN (n : Str) : Bool := !(n == ("__debug__" : Str)) && !(n == ("__classdict__" : Str)) && !(n == ("__name__" : Str))
def locB (sc : Scope) (fn : Str → Bool) (n : Str) : Bool := match sc.names.lookup n with
  | some .local => true
  | some .cell => fn n
  | _ => false
def Op.ast : Op → Operator
  | .add => .Add | .sub => .Sub | .mul => .Mult | .fdiv => .FloorDiv | .fdn => .FloorDiv | .mod => .Mod | .pow => .Pow
def Bi.nm : Bi → Str
  | .len => "len" | .abs => "abs" | .all => "all" | .any => "any" | .sum => "sum" | .min1 => "min" | .max1 => "max" | .min2 => "min" | .max2 => "max" | .sorted => "sorted"
  | .tuple => "tuple" | .list => "list" | .int => "int" | .str => "str" | .repr => "repr" | .divmod => "divmod" | .lenset => "len" | .listrange => "list" | .tuprange => "tuple" | .sortedset => "sorted"
/-- may it be called while an exception is handled? -/
def Bi.cold : Bi → Bool
  | .len | .abs | .tuple | .list | .int | .str | .repr | .sorted => true
  | _ => false
def Mt.nm : Mt → Str
  | .append => "append" | .pop0 => "pop" | .pop => "pop" | .extend => "extend" | .index => "index" | .count => "count" | .setd => "setdefault"
def isNm (n : Str) (sc : Scope) : Expr → Bool
  | .Name m _ => decide (m = n) && glB sc m
  | _ => false
def ckTys (sc : Scope) : List Ty → List Expr → Bool
  | [], [] => true
  | t :: ts, x :: xs => isNm (.ofString t.nm) sc x && ckTys sc ts xs
  | _, _ => false
/-- class names -/
def ckNms (sc : Scope) : List Str → List Expr → Bool
  | [], [] => true
  | t :: ts, x :: xs => isNm t sc x && ckNms sc ts xs
  | _, _ => false
/-- is it one of the exceptions' classes, or what they stand below? -/
def xsB (tb : Tb) (c : Str) : Bool := tb.cs.any (fun p => decide (p.1 = c)) || (decide (c = ("TasteError" : Str)) || decide (c = ("ValueError" : Str)))
def noStar : Expr → Bool
  | .Starred _ _ => false
  | _ => true
def noSet : Expr → Bool
  | .Set _ _ _ => false
  | _ => true
def noSlice : Expr → Bool
  | .Slice _ _ _ _ => false
  | _ => true
def noComp : Expr → Bool
  | .ListComp _ _ _ _ => false
  | .SetComp _ _ _ _ => false
  | .DictComp _ _ _ _ _ => false
  | _ => true
def noCall0 : Expr → Bool
  | .Call (.Name _ _) [] [] _ => false
  | _ => true
def good (x : Expr) : Bool := noStar x && (noSet x && noSlice x)
def ownL (N : List Str) (is : List Nat) : List (Str × Nat) := is.map fun i => (N.getD i "", i)
mutual
def ckG (N : List Str) (sc : Scope) (fn : Str → Bool) : Tg → Expr → Bool
  | .nm i, x => match x with
    | .Name n _ => decide (N[i]? = some n) && locB sc fn n
    | _ => false
  | .tp gs, x => match x with
    | .Tuple xs _ _ => ckGs N sc fn gs xs
    | _ => false
def ckGs (N : List Str) (sc : Scope) (fn : Str → Bool) : Tgs → List Expr → Bool
  | .nil, xs => match xs with
    | [] => true
    | _ => false
  | .cons g r, xs => match xs with
    | x :: xs => ckG N sc fn g x && ckGs N sc fn r xs
    | _ => false
end
/-- the parts of a form of its own -/
def pxA (sz : Bool) : Px → Scope → Expr → Option (List Expr)
  | .eqn ne tup, _, x => match x with
    | .Compare l ops rs _ => (match ops, rs with
      | [op], [r] => if op = (if ne then CmpOp.NotEq else .Eq) ∧ noStar l = true then (match r, tup with
        | .List [] _, false => some [l]
        | .Tuple [] _ _, true => some [l]
        | _, _ => none) else none
      | _, _ => none)
    | _ => none
  | .cat, _, x => match x with
    | .BinOp l op r _ => if op = .Add then some [l, r] else none
    | _ => none
  | .dct0 _, _, x => match x with
    | .Dict [] [] _ => some []
    | _ => none
  | .sortT, sc, x => match x with
    | .Call (.Name n _) [e] [] _ => if n = "sorted" ∧ glB sc n = true ∧ noStar e = true then some [e] else none
    | _ => none
  | .sortD, sc, x => match x with
    | .Call (.Name n _) [e] [] _ => if n = "sorted" ∧ glB sc n = true ∧ noStar e = true then some [e] else none
    | _ => none
  | .minD, sc, x => match x with
    | .Call (.Name n _) [e] [] _ => if n = "min" ∧ glB sc n = true ∧ noStar e = true then some [e] else none
    | _ => none
  | .minT, sc, x => match x with
    | .Call (.Name n _) [e, e2] [] _ => if n = "min" ∧ glB sc n = true ∧ noStar e = true ∧ noStar e2 = true then some [e, e2] else none
    | _ => none
  | .maxlen, sc, x => match x with
    | .Call (.Name n _) [e] [⟨some k, .Name l _, _⟩] _ => if n = "max" ∧ k = "key" ∧ l = "len" ∧ glB sc n = true ∧ glB sc l = true ∧ noStar e = true then some [e] else none
    | _ => none
  | .din neg, _, x => match x with
    | .Compare l [op] [r] _ => if op = (if neg then CmpOp.NotIn else .In) ∧ behindInMarks op r = false then some [l, r] else none
    | _ => none
  | .dget, _, x => match x with
    | .Subscript l r _ => if noSlice r = true then some [l, r] else none
    | _ => none
  | .kget a i b j d, _, x => match x with
    | .Call (.Attribute (.Dict [some (.Constant (.str a') _ _), some (.Constant (.str b') _ _)] [.Constant (.int i') _ _, .Constant (.int j') _ _] _) nm apos) [e, .Constant (.int d') _ _] [] cpos => if (a' = a ∧ b' = b ∧ i' = i ∧ j' = j ∧ d' = d) ∧ a ≠ b ∧ nm = "get" ∧ (apos.endLine == cpos.line) = true ∧ noStar e = true then some [e] else none
    | _ => none
  | .lsz, sc, x => match x with
    | .Call (.Name n1 _) [.Call (.Name n2 _) [.Call (.Name n3 _) [.Call (.Name n4 _) [u, v] [] _] [] _] [] _] [] _ => if (n1 = "len" ∧ n2 = "set" ∧ n3 = "list" ∧ n4 = "zip") ∧ (glB sc n1 = true ∧ glB sc n2 = true ∧ glB sc n3 = true ∧ glB sc n4 = true) ∧ noStar u = true ∧ noStar v = true then some [u, v] else none
    | _ => none
  | .lsp, sc, x => match x with
    | .Call (.Name n1 _) [.Call (.Name n2 _) [u] [] _] [] _ => if (n1 = "len" ∧ n2 = "set") ∧ (glB sc n1 = true ∧ glB sc n2 = true) ∧ noStar u = true then some [u] else none
    | _ => none
  | .ssT, sc, x => match x with
    | .Call (.Name n1 _) [.Call (.Name n2 _) [u] [] _] [] _ => if (n1 = "sorted" ∧ n2 = "set") ∧ (glB sc n1 = true ∧ glB sc n2 = true) ∧ noStar u = true then some [u] else none
    | _ => none
  | .sortV, sc, x => match x with
    | .Call (.Name n _) [.Call (.Attribute e a apos) [] [] cpos] [] _ => if n = "sorted" ∧ glB sc n = true ∧ a = "values" ∧ noCall0 e = true ∧ (apos.endLine == cpos.line) = true then some [e] else none
    | _ => none
  | .lenD, sc, x => match x with
    | .Call (.Name n _) [e] [] _ => if n = "len" ∧ glB sc n = true ∧ noStar e = true then some [e] else none
    | _ => none
  | .dvm, sc, x => match x with
    | .Call (.Name n _) [e, e2] [] _ => if n = "divmod" ∧ glB sc n = true ∧ noStar e = true ∧ noStar e2 = true then some [e, e2] else none
    | _ => none
  | .tup2, sc, x => match x with
    | .Call (.Name n _) [.Call (.Name n2 _) [e, e2] [] _] [] _ => if n = "tuple" ∧ n2 = "range" ∧ glB sc n = true ∧ glB sc n2 = true ∧ noStar e = true ∧ noStar e2 = true then some [e, e2] else none
    | _ => none
  | .sumT, sc, x => match x with
    | .Call (.Name n _) [e, e2] [] _ => if n = "sum" ∧ glB sc n = true ∧ noStar e = true ∧ noStar e2 = true then some [e, e2] else none
    | _ => none
  | .sin neg, sc, x => match x with
    | .Compare l [op] [.Name n _] _ => if op = (if neg then CmpOp.NotIn else .In) ∧ n = "SIZES" ∧ glB sc n = true ∧ sz = true then some [l] else none
    | _ => none
  | .sget, sc, x => match x with
    | .Subscript (.Name n _) r _ => if noSlice r = true ∧ n = "SIZES" ∧ glB sc n = true ∧ sz = true then some [r] else none
    | _ => none
  | .ltT, _, x => match x with
    | .Compare l [op] [r] _ => if op = .Lt ∧ behindInMarks op r = false then some [l, r] else none
    | _ => none
mutual
def ckE (tb : Tb) (N : List Str) : Ex → Scope → Expr → Bool
  | .var i, sc, x => match x with
    | .Name n _ => decide (N[i]? = some n) && (visB sc n && okN n)
    | _ => false
  | .glb k, sc, x => match x with
    | .Name n _ => decide (tb.gnm k = some n) && (glB sc n && okN n)
    | _ => false
  | .non, _, x => match x with
    | .Constant c _ _ => decide (c = .none)
    | _ => false
  | .bl b, _, x => match x with
    | .Constant c _ _ => decide (c = .bool b)
    | _ => false
  | .int i, _, x => match x with
    | .Constant c _ _ => decide (c = .int i)
    | _ => false
  | .str z, _, x => match x with
    | .Constant c _ _ => decide (c = .str z)
    | _ => false
  | .bin o a b, sc, x => match x with
    | .BinOp l op r _ => decide (op = o.ast) && (ckE tb N a sc l && ckE tb N b sc r)
    | _ => false
  | .mulC a b, sc, x => match x with
    | .BinOp l op r _ => decide (op = .Mult) && (ckE tb N a sc l && ckE tb N b sc r)
    | _ => false
  | .neg a, sc, x => match x with
    | .UnaryOp op l _ => decide (op = .USub) && ckE tb N a sc l
    | _ => false
  | .not a, sc, x => match x with
    | .UnaryOp op l _ => decide (op = .Not) && ckE tb N a sc l
    | _ => false
  | .and a b, sc, x => match x with
    | .BoolOp op vs pos => decide (op = .And) && (match vs with
      | [u, v] => ckE tb N a sc u && ckE tb N b sc v
      | u :: v :: w :: r => ckE tb N a sc u && ckE tb N b sc (.BoolOp .And (v :: w :: r) pos)
      | _ => false)
    | _ => false
  | .or a b, sc, x => match x with
    | .BoolOp op vs pos => decide (op = .Or) && (match vs with
      | [u, v] => ckE tb N a sc u && ckE tb N b sc v
      | u :: v :: w :: r => ckE tb N a sc u && ckE tb N b sc (.BoolOp .Or (v :: w :: r) pos)
      | _ => false)
    | _ => false
  | .ite c a b, sc, x => match x with
    | .IfExp t l r _ => ckE tb N c sc t && (ckE tb N a sc l && ckE tb N b sc r)
    | _ => false
  | .cmp o a b, sc, x => match x with
    | .Compare l ops rs _ => (match ops, rs with
      | [op], [r] => decide (op = o.op) && (!behindInMarks op r && (ckE tb N a sc l && ckE tb N b sc r))
      | _, _ => false)
    | _ => false
  | .cmp2 o a b o2 c, sc, x => match x with
    | .Compare l ops rs _ => (match ops, rs with
      | [op, op2], [r, r2] => decide (op = o.op) && (decide (op2 = o2.op) && (!lastMarks [op, op2] [r, r2] && (ckE tb N a sc l && (ckE tb N b sc r && ckE tb N c sc r2))))
      | _, _ => false)
    | _ => false
  | .cmp3 o a b o2 c o3 d, sc, x => match x with
    | .Compare l ops rs _ => (match ops, rs with
      | [op, op2, op3], [r, r2, r3] => decide (op = o.op) && (decide (op2 = o2.op) && (decide (op3 = o3.op) && (!lastMarks [op, op2, op3] [r, r2, r3] && (ckE tb N a sc l && (ckE tb N b sc r && (ckE tb N c sc r2 && ckE tb N d sc r3))))))
      | _, _ => false)
    | _ => false
  | .tup es, sc, x => match x with
    | .Tuple xs _ _ => ckEs tb N es sc xs
    | _ => false
  | .lst _ es, sc, x => match x with
    | .List xs _ => ckEs tb N es sc xs
    | _ => false
  | .px _ p es, sc, x => good x && (!tb.hot && (match pxA tb.sz p sc x with
    | some xs => ckEs tb N es sc xs
    | none => false))
  | .isE e tu cs, sc, x => match x with
    | .Call (.Name n _) [y, t] kw _ => decide (n = ("isinstance" : Str)) && (glB sc n && (kw.isEmpty && (tb.hot && (cs.all (fun t => xsB tb t && !(t == ("__debug__" : Str))) && (!tb.cs.isEmpty && (ckE tb N e sc y && (if tu = true then (match t with
        | .Tuple xs _ _ => decide (cs.length < 100) && ckNms sc cs xs
        | _ => false) else (match cs with
        | [c] => isNm c sc t
        | _ => false))))))))
    | _ => false
  | .fldE e f, sc, x => match x with
    | .Attribute y m _ => decide (m = f) && (tb.hot && (noCall0 y && ckE tb N e sc y))
    | _ => false
  | .call f es, sc, x => match x with
    | .Call (.Name n _) xs kw _ => decide (tb.fnm f = some n) && (glB sc n && (okN n && (kw.isEmpty && (!xs.isEmpty && ckEs tb N es sc xs))))
    | _ => false
  | .bi _ b es, sc, x => match x with
    | .Call (.Name n _) xs kw _ => decide (n = b.nm) && (glB sc n && (kw.isEmpty && (!xs.isEmpty && ((!tb.hot || b.cold) && (match b with
      | .listrange => (match xs with
        | [.Call (.Name n2 _) ys kw2 _] => decide (n2 = ("range" : Str)) && (glB sc n2 && (kw2.isEmpty && ((decide (ys.length = 1) || decide (ys.length = 2)) && ckEs tb N es sc ys)))
        | _ => false)
      | .tuprange => (match xs with
        | [.Call (.Name n2 _) ys kw2 _] => decide (n2 = ("range" : Str)) && (glB sc n2 && (kw2.isEmpty && (decide (ys.length = 1) && ckEs tb N es sc ys)))
        | _ => false)
      | .sortedset => (match xs with
        | [.Call (.Name n2 _) ys kw2 _] => decide (n2 = ("set" : Str)) && (glB sc n2 && (kw2.isEmpty && (decide (ys.length = 1) && ckEs tb N es sc ys)))
        | _ => false)
      | .lenset => (match xs with
        | [.Call (.Name n2 _) ys kw2 _] => decide (n2 = ("set" : Str)) && (glB sc n2 && (kw2.isEmpty && (decide (ys.length = 1) && ckEs tb N es sc ys)))
        | _ => false)
      | .len | .abs | .all | .any | .tuple | .list | .int | .str | .repr | .sorted | .sum | .min1 | .max1 | .min2 | .max2 => ckEs tb N es sc xs
      | _ => false)))))
    | _ => false
  | .isi e ts, sc, x => match x with
    | .Call (.Name n _) [y, t] kw _ => decide (n = ("isinstance" : Str)) && (glB sc n && (kw.isEmpty && (ckE tb N e sc y && (match ts with
      | [ty] => isNm (.ofString ty.nm) sc t
      | _ => (match t with
        | .Tuple xs _ _ => ckTys sc ts xs
        | _ => false)))))
    | _ => false
  | .mth m r es, sc, x => match x with
    | .Call (.Attribute o a apos) xs kw pos => decide (a = m.nm) && (kw.isEmpty && (noCall0 o && ((apos.endLine == pos.line) && (ckE tb N r sc o && (match m with
      | .pop0 => xs.isEmpty && ckEs tb N es sc xs
      | .append | .pop | .extend | .index | .count => decide (xs.length = 1) && ckEs tb N es sc xs
      | .setd => decide (xs.length = 2) && ckEs tb N es sc xs)))))
    | _ => false
  | .idx a i, sc, x => match x with
    | .Subscript v s _ => ckE tb N a sc v && ckE tb N i sc s
    | _ => false
  | .sl a lo hi, sc, x => match x with
    | .Subscript v (.Slice l h none _) _ => ckE tb N a sc v && (ckO tb N lo sc l && ckO tb N hi sc h)
    | _ => false
  | .rev a, sc, x => match x with
    | .Subscript v (.Slice none none (some (.UnaryOp op (.Constant c _ _) _)) _) _ => decide (op = .USub) && (decide (c = .int 1) && ckE tb N a sc v)
    | _ => false
  | .lc _ e g it c, sc, x => match x with
    | .ListComp el [⟨tg, iter, ifs, asy⟩] scope _ => !tb.hot && (decide (asy = 0) && (ckI tb N it sc tg iter && (blkC N sc scope (ownL N g.own) && (ckG N (relS scope sc) (fun n => scope.names.lookup n == some .cell) g tg && (ckT tb N c (relS scope sc) ifs && ckE tb N e (relS scope sc) el)))))
    | _ => false
  | .dc ke ve g it c, sc, x => match x with
    | .DictComp el vl [⟨tg, iter, ifs, asy⟩] scope _ => !tb.hot && (decide (asy = 0) && (ckI tb N it sc tg iter && (blkC N sc scope (ownL N g.own) && (ckG N (relS scope sc) (fun n => scope.names.lookup n == some .cell) g tg && (ckT tb N c (relS scope sc) ifs && (ckE tb N ke (relS scope sc) el && ckE tb N ve (relS scope sc) vl))))))
    | _ => false
  | .lc2 _ e g it c g2 it2 c2, sc, x => match x with
    | .ListComp el [⟨tg, iter, ifs, asy⟩, ⟨tg2, iter2, ifs2, asy2⟩] scope _ => !tb.hot && (decide (asy = 0) && (decide (asy2 = 0) && (ckI tb N it sc tg iter && (blkC N sc scope (ownL N (g.own ++ g2.own)) &&
        (ckG N (relS scope sc) (fun n => scope.names.lookup n == some .cell) g tg && (ckT tb N c (relS scope sc) ifs && (ckI tb N it2 (relS scope sc) tg2 iter2 &&
        (ckG N (relS scope sc) (fun n => scope.names.lookup n == some .cell) g2 tg2 && (ckT tb N c2 (relS scope sc) ifs2 && ckE tb N e (relS scope sc) el)))))))))
    | _ => false
def ckEs (tb : Tb) (N : List Str) : Es → Scope → List Expr → Bool
  | .nil, _, xs => xs.isEmpty
  | .cons e r, sc, xs => match xs with
    | x :: xs => ckE tb N e sc x && ckEs tb N r sc xs
    | _ => false
def ckO (tb : Tb) (N : List Str) : Eo → Scope → Option Expr → Bool
  | .non, _, x => x.isNone
  | .som e, sc, x => match x with
    | some x => ckE tb N e sc x
    | none => false
def ckT (tb : Tb) (N : List Str) : Eo → Scope → List Expr → Bool
  | .non, _, xs => xs.isEmpty
  | .som e, sc, xs => match xs with
    | [x] => ckE tb N e sc x
    | _ => false
def ckI (tb : Tb) (N : List Str) : It → Scope → Expr → Expr → Bool
  | .ex e, sc, _, x => ckE tb N e sc x
  | .dks e, sc, _, x => ckE tb N e sc x
  | .dvs e, sc, _, x => match x with
    | .Call (.Attribute o nm apos) [] [] cpos => decide (nm = "values") && (noCall0 o && ((apos.endLine == cpos.line) && ckE tb N e sc o))
    | _ => false
  | .dis e, sc, tg, x => match tg with
    | .Tuple _ _ _ => (match x with
      | .Call (.Attribute o nm apos) [] [] cpos => decide (nm = "items") && (noCall0 o && ((apos.endLine == cpos.line) && ckE tb N e sc o))
      | _ => false)
    | _ => false
  | .rng e, sc, _, x => match x with
    | .Call (.Name n _) [a] kw _ => decide (n = ("range" : Str)) && (glB sc n && (kw.isEmpty && ckE tb N e sc a))
    | _ => false
  | .rng2 a b, sc, _, x => match x with
    | .Call (.Name n _) [u, v] kw _ => decide (n = ("range" : Str)) && (glB sc n && (kw.isEmpty && (ckE tb N a sc u && ckE tb N b sc v)))
    | _ => false
  | .enu e, sc, tg, x => match tg with
    | .Tuple _ _ _ => (match x with
      | .Call (.Name n _) [a] kw _ => decide (n = ("enumerate" : Str)) && (glB sc n && (kw.isEmpty && ckE tb N e sc a))
      | _ => false)
    | _ => false
  | .zip a b, sc, tg, x => match tg with
    | .Tuple _ _ _ => (match x with
      | .Call (.Name n _) [u, v] kw _ => decide (n = ("zip" : Str)) && (glB sc n && (kw.isEmpty && (ckE tb N a sc u && ckE tb N b sc v)))
      | _ => false)
    | _ => false
end
/-- no starred part, no set, no slice -/
theorem good_of {tb : Tb} {N : List Str} {sc : Scope} {x : Expr} : ∀ {e : Ex}, ckE tb N e sc x = true → good x = true := by
  intro e h
  cases x with
  | Starred v p => cases e <;> exact h
  | Set v p q => cases e <;> exact h
  | Slice a b c d => cases e <;> exact h
  | _ => rfl
end T
set_option Elab.async false
set_option linter.all false
set_option maxRecDepth 100000
set_option maxHeartbeats 4000000
namespace T
open PySem PySem.Spec PyProof.Rows L2
/-- room for a call; oe: the object of the exception that is handled meanwhile -/
def RoomE (n : Nat) (e : Option (Addr × Xc)) (A : Around) (outer : List Env) (H : Hp) (s : Shared) (oe : Obj) : Prop :=
  L2H.RoomH n A ∧ (e = none → A.handled = none) ∧ ∀ p, e = some p → L2H.Hot1 A (p.1, oe) ∧ L2H.PinOk outer H s (p.1, oe)
structure FG (P : Program) (w : World) (K : PySem.W.Frag) (mg : Str → Option Value) (base : Heap) (n : Nat) (e : Option (Addr × Xc)) (f : Addr) (fd : FuncData) (ps : List Str) (sp : Obj → Sp) : Prop where
  len : ∀ oe vs H Q E, sp oe vs H Q E → vs.length = ps.length
  run : base.get? sysModules ≠ none → ∀ (A : Around) (outer : List Env) (s : Shared) (H : Hp) (args : Args) (us : List Value) (vs : List V) (Q : VK) (E : XK) (oe : Obj), RoomE (n + 2) e A outer H s oe → A.guards = some [] → Env0 P w K mg base A outer s H → BindsTo s fd args (ps.zip us) → Vals vs us → sp oe vs H Q E →
    codeAny (model P w) A (.call (.ref f) args) (CR (L2N.CX P w) outer P w H s Q E) s
/-- the promise by data: at level n the def with number f does what callX says -/
def spD (K : PySem.W.Frag) (cs : List (Str × Option Str)) (P : Nat → Option Fn) (G : Nat → Option D) (n : Nat) (e : Option (Addr × Xc)) (f : Nat) (oe : Obj) : Sp := fun vs H Q E => ∃ F M Z ds Q' R, SR K F M Z H ∧ RepA K F vs ds ∧ (∀ p, e = some p → XRep K cs F oe.cls oe.dict p.2) ∧ callX P G n e f ds M Q' R ∧ (∀ v H', KQ K F Z Q' v H' → Q v H') ∧ ∀ cls d H', KX K cs F Z R cls d H' → E cls d H'
def bltNames : List Str := ["len", "abs", "all", "any", "sum", "min", "max", "sorted", "tuple", "list", "int", "str", "repr", "divmod", "set", "dict", "range", "enumerate", "zip", "isinstance", "bool", "ValueError"]
/-- the class that a name stands for -/
def clV (K : PySem.W.Frag) (t : Str) : Value := if t = ("ValueError" : Str) then .type "ValueError" else .ref (He.ga K t)
def xsT (cs : List (Str × Option Str)) (t : Str) : Prop := t ∈ cs.map (·.1) ∨ t = ("TasteError" : Str) ∨ t = ("ValueError" : Str)
/-- what __init__ of a class with one field keeps -/
def spI (C : Addr) (f : Str) : Sp := fun vs H Q _ => ∃ a y, vs = [.ref a, y] ∧ H a = some (exo a C none) ∧ ∀ dx, H dx = none → dx ≠ a → Q .non (upd (upd H dx (exd dx [(f, y)])) a (exo a C (some dx)))
/-- what the written part says of an exception's class -/
structure XOK (K : PySem.W.Frag) (cs : List (Str × Option Str)) (mg : Str → Option Value) (p : Str × Option Str) : Prop where
  gC : mg p.1 = some (.ref (He.ga K p.1))
  kC : PySem.W.keepIn K (.ref (He.ga K p.1)) = true
  exC : PySem.W.subIn K (.ref (He.ga K p.1)) (.type "BaseException") = some true
  tyC : PySem.W.typeIn K (.ref (He.ga K p.1)) = some (.type "type")
  exm : ∀ t, xsT cs t → PySem.W.exmOne K (.ref (He.ga K p.1)) (clV K t) = some (subX p.1 t)
  kit : ∀ t, xsT cs t → PySem.W.kitOne K (.ref (He.ga K p.1)) (clV K t) = some (subX p.1 t)
  ga : PySem.W.findIn K (.ref (He.ga K p.1)) "__getattribute__" = some (some (.builtin "BaseException.__getattribute__"))
  gg : PySem.W.findIn K (.ref (He.ga K p.1)) "__getattr__" = some none
  hdC : PySem.W.hasDictIn K (He.ga K p.1) = true
  cl : (PySem.W.clsIn K (He.ga K p.1)).isSome = true
  ha : PySem.W.findIn K (.ref (He.ga K p.1)) "__class__" = some (some (.builtin "object.__class__"))
  hn : PySem.W.specialIn K (.builtin "object.__class__") "__get__" = some (some (.builtin "getset_descriptor.__get__"))
  ht : PySem.W.takesIn K (.builtin "object.__class__") = some true
  hm : PySem.W.mroIn K (He.ga K p.1) (.type "object") = some true
  own0 : p.2 = none → PySem.W.excIn K (He.ga K p.1) He.veBase "ValueError.__new__" = true
  own1 : ∀ f, p.2 = some f → OexC K (He.ga K p.1) ∧ PySem.W.findIn K (.ref (He.ga K p.1)) f = some none
/-- SIZES of the module, as it is written -/
structure SzOK (K : PySem.W.Frag) (w : World) (mg : Str → Option Value) : Prop where
  ex : ∃ a t3 t4 es n, mg "SIZES" = some (.ref a) ∧ K.lookup a = some ⟨.type "dict", none, .dict es n, #[]⟩ ∧ PySem.W.KeysLit w.params es.toList ∧ (a == sysModules) = false ∧
    PySem.W.nsIn K a "triple" = some (some (.ref t3)) ∧ PySem.W.nsIn K a "quadruple" = some (some (.ref t4)) ∧ (∀ z : Str, z ≠ "triple" → z ≠ "quadruple" → PySem.W.nsIn K a z = some none) ∧
    (∀ F, TupS K F t3 [.int 3, .int 3]) ∧ ∀ F, TupS K F t4 [.int 4, .int 2]
structure CK (P : Nat → Option Fn) (G : Nat → Option D) (tb : Tb) (n : Nat) (e0 : Option (Addr × Xc)) (N : List Str) (sc : Scope) (X : Cx) : Prop where
  room : L2H.RoomH (n + 2) X.A
  hdl : e0 = none → X.A.handled = none
  gd : X.A.guards = some []
  sm : X.base.get? sysModules ≠ none
  calm : tb.hot = false → X.calm = true
  hote : tb.hot = e0.isSome
  nd : N.Nodup
  hN : X.N = N
  hs : X.env.scope = sc
  call : ∀ f x, tb.fnm f = some x → ∃ addr fd ps, X.mg x = some (.ref addr) ∧ PySem.W.keepIn X.K (.ref addr) = true ∧ Binds X.K fd ps [] ∧ FG X.prog X.w X.K X.mg X.base n e0 addr fd ps (spD X.K tb.cs P G n e0 f)
  glob : ∀ k x d, tb.gnm k = some x → G k = some d → ∃ u v, X.mg x = some u ∧ RelV v u ∧ ∀ F, Rep X.K F v d
  blt : ∀ x ∈ bltNames, X.mg x = none
  xc : ∀ p ∈ tb.cs, XOK X.K tb.cs X.mg p
  xt : tb.cs ≠ [] → X.mg "TasteError" = some (.ref (He.ga X.K "TasteError"))
  xi : ∀ c f, (c, some f) ∈ tb.cs → ∃ fI fd ps, PySem.W.findIn X.K (.ref (He.ga X.K c)) "__init__" = some (some (.ref fI)) ∧ PySem.W.typeIn X.K (.ref fI) = some (.type "function") ∧ Binds X.K fd ps [] ∧ FnOk X.prog X.w X.K X.mg X.base (L2N.CX X.prog X.w) 1 fI fd ps (spI (He.ga X.K c) f)
  szk : tb.sz = true → SzOK X.K X.w X.mg
theorem ba {a b : Bool} (h : (a && b) = true) : a = true ∧ b = true := Bool.and_eq_true_iff.mp h
theorem da {p : Prop} [Decidable p] {b : Bool} (h : (decide p && b) = true) : p ∧ b = true := ⟨of_decide_eq_true (ba h).1, (ba h).2⟩
theorem na {b : Bool} (h : (!b) = true) : b = false := by cases b; rfl; cases h
section
variable {x : Expr} {xs : List Expr} {env : Env}
theorem star_of (h : noStar x = true) : starEach (x :: xs) env = (false, eval x env) :: starEach xs env := by
  cases x <;> first
    | rfl
    | cases h
theorem assignEach_of (h : noStar x = true) : assignEach (x :: xs) env = (false, assign x env) :: assignEach xs env := by
  cases x <;> first
    | rfl
    | cases h
theorem any_of {pos : Pos} : ∀ {xs : List Expr}, (∀ x ∈ xs, noStar x = true) → (backTo pos (starEach xs env)).any (·.1) = false
  | [], _ => rfl
  | x :: r, h => by
    rw [star_of (h x List.mem_cons_self)]
    show (false || (backTo pos (starEach r env)).any (·.1)) = false
    rw [Bool.false_or]
    exact any_of fun y hy => h y (List.mem_cons_of_mem _ hy)
theorem all_of {pos : Pos} : ∀ {xs : List Expr}, (∀ x ∈ xs, noStar x = true) → (backTo pos (starEach xs env)).all (fun x => !x.1) = true
  | [], _ => rfl
  | x :: r, h => by
    rw [star_of (h x List.mem_cons_self)]
    show (true && (backTo pos (starEach r env)).all (fun x => !x.1)) = true
    rw [Bool.true_and]
    exact all_of fun y hy => h y (List.mem_cons_of_mem _ hy)
theorem fsi (h : noSet x = true) (v : Value) : foldedSetIterable x env v = pure v := by
  cases x <;> first
    | rfl
    | cases h
theorem plainIx_of (h : noSlice x = true) : PlainIx x := by
  intro o i
  cases x <;> first
    | rfl
    | cases h
theorem noStar_of (h : good x = true) : noStar x = true := (ba h).1
theorem noSet_of (h : good x = true) : noSet x = true := (ba (ba h).2).1
theorem noSlice_of (h : good x = true) : noSlice x = true := (ba (ba h).2).2
end
theorem goods_of {tb : Tb} {N : List Str} {sc : Scope} : ∀ {es : Es} {xs : List Expr}, ckEs tb N es sc xs = true → ∀ x ∈ xs, noStar x = true
  | .nil, xs, h, x, hx => by
    have e : xs = [] := by simpa [ckEs] using h
    subst e; cases hx
  | .cons e r, [], h, x, hx => by cases hx
  | .cons e r, y :: ys, h, x, hx => by
    obtain ⟨h1, h2⟩ := ba (show (ckE tb N e sc y && ckEs tb N r sc ys) = true from h)
    rcases List.mem_cons.mp hx with q | q
    · rw [q]; exact noStar_of (good_of h1)
    · exact goods_of h2 x q
theorem visB_of {sc : Scope} {n : Str} (h : visB sc n = true) : Vis sc n := by
  unfold visB at h
  split at h
  · exact .inl (by assumption)
  · exact .inr (.inl (by assumption))
  · exact .inr (.inr (by assumption))
  · cases h
theorem glB_of {sc : Scope} {n : Str} (h : glB sc n = true) : sc.names.lookup n = some .globalImplicit := by
  unfold glB at h
  split at h
  · assumption
  · cases h
theorem okN_of {n : Str} (h : okN n = true) : (n == ("__debug__" : Str)) = false ∧ (n == ("__classdict__" : Str)) = false := by
  obtain ⟨h, _⟩ := ba h
  obtain ⟨h1, h2⟩ := ba h
  exact ⟨na h1, na h2⟩
section
variable {P : Nat → Option Fn} {G : Nat → Option D} {tb : Tb} {n : Nat} {e0 : Option (Addr × Xc)} {N : List Str} {sc : Scope} {X : Cx} {R : Xc → MH → Prop} {C : SC}
theorem CK.gl (c : CK P G tb n e0 N sc X) {x : Str} (h : glB sc x = true) : Gl X x := by
  show X.env.scope.names.lookup x = _
  rw [c.hs]; exact glB_of h
theorem CK.hu (c : CK P G tb n e0 N sc X) : X.A.units + 65 < cLine := by have := c.room.un; omega
theorem je_var (c : CK P G tb n e0 N sc X) {i : Nat} {m : Str} {pos : Pos} (h1 : N[i]? = some m) (h2 : visB sc m = true) (h3 : okN m = true) : PE X (.Name m pos) (tD X tb C R (wpE C R (.var i))) := by
  obtain ⟨d1, d2⟩ := okN_of h3
  refine PE_imp (pe_var (i := i) (by rw [c.hN]; exact h1) (by rw [c.hs]; exact visB_of h2) d1 d2) fun σ H Q h => ?_
  obtain ⟨F, M, Z, ρ, Q', sr, re, hw, k⟩ := h
  simp only [wpE, rd] at hw
  split at hw
  · rename_i d hd
    obtain ⟨v, e, r⟩ := re.re.2 i d hd
    exact ⟨v, e, k v H (.of sr r hw)⟩
  · exact hw.elim
theorem pe_false {e : Expr} {t : TE} (h : ∀ σ H Q, ¬ t σ H Q) : PE X e t := ⟨fun _ _ σ H Q _ w => (h σ H Q w).elim⟩
theorem je_glb (c : CK P G tb n e0 N sc X) (hC : C.glob = G) {k : Nat} {m : Str} {pos : Pos} (h1 : tb.gnm k = some m) (h2 : glB sc m = true) (h3 : okN m = true) : PE X (.Name m pos) (tD X tb C R (wpE C R (.glb k))) := by
  cases q : G k with
  | none =>
    refine pe_false fun σ H Q h => ?_
    obtain ⟨F, M, Z, ρ, Q', sr, re, hw, _⟩ := h
    simp only [wpE, hC, q] at hw
  | some d =>
    obtain ⟨u, v, hm, rv, rep⟩ := c.glob k m d h1 q
    refine PE_imp (pe_glob (c.gl h2) hm rv (okN_of h3).1) fun σ H Q h => ?_
    obtain ⟨F, M, Z, ρ, Q', sr, re, hw, k⟩ := h
    simp only [wpE, hC, q] at hw
    exact k v H (.of sr (rep F) hw)
theorem je_non {j pos} : PE X (.Constant .none j pos) (tD X tb C R (wpE C R .non)) := PE_imp pe_non fun σ H Q ⟨F, M, Z, ρ, Q', sr, re, hw, k⟩ => k _ _ (.of sr .non (by simpa only [wpE] using hw))
theorem je_bl {b j pos} : PE X (.Constant (.bool b) j pos) (tD X tb C R (wpE C R (.bl b))) := PE_imp pe_bl fun σ H Q ⟨F, M, Z, ρ, Q', sr, re, hw, k⟩ => k _ _ (.of sr (.bl b) (by simpa only [wpE] using hw))
theorem je_int {i j pos} : PE X (.Constant (.int i) j pos) (tD X tb C R (wpE C R (.int i))) := PE_imp pe_int fun σ H Q ⟨F, M, Z, ρ, Q', sr, re, hw, k⟩ => k _ _ (.of sr (.int i) (by simpa only [wpE] using hw))
theorem je_str {x j pos} : PE X (.Constant (.str x) j pos) (tD X tb C R (wpE C R (.str x))) := PE_imp pe_str fun σ H Q ⟨F, M, Z, ρ, Q', sr, re, hw, k⟩ => k _ _ (.of sr (.str x) (by simpa only [wpE] using hw))
variable {a b c' : Ex} {l r t : Expr} {pos : Pos}
theorem je_bin {o : Op} (ha : PE X l (tD X tb C R (wpE C R a))) (hb : PE X r (tD X tb C R (wpE C R b))) : PE X (.BinOp l o.ast r pos) (tD X tb C R (wpE C R (.bin o a b))) := by
  have ho : OpR X (binaryOp o.ast) (rOpD X o) := by
    cases o
    · exact or_add
    · exact or_sub
    · exact or_mul
    · exact or_fdiv
    · exact or_fdn
    · exact or_mod
    · exact or_pow
  refine PE_imp (pe_op ho ha hb) fun σ H Q h => ?_
  obtain ⟨F, M, Z, ρ, Q', sr, re, hw, k⟩ := h
  simp only [wpE] at hw
  exact ⟨F, M, Z, ρ, _, sr, re, hw, fun x H1 ⟨F1, M1, dx, s1, sr1, rx, h1⟩ => ⟨F1, M1, Z, ρ, _, sr1, re.mono s1, h1, fun y H2 ⟨F2, M2, dy, s2, sr2, ry, h2⟩ =>
    ⟨F2, M2, Z, dx, dy, Q', sr2, rx.mono s2, ry, h2, tD_then (s1.trans s2) k⟩⟩⟩
theorem je_neg (ha : PE X l (tD X tb C R (wpE C R a))) : PE X (.UnaryOp .USub l pos) (tD X tb C R (wpE C R (.neg a))) := by
  refine PE_imp (pe_un un_neg ha) fun σ H Q h => ?_
  obtain ⟨F, M, Z, ρ, Q', sr, re, hw, k⟩ := h
  simp only [wpE] at hw
  refine ⟨F, M, Z, ρ, _, sr, re, hw, fun x H1 ⟨F1, M1, dx, s1, sr1, rx, h1⟩ => ?_⟩
  cases dx <;> first
    | exact h1.elim
    | skip
  cases rx
  exact ⟨_, rfl, k _ _ ⟨F1, M1, _, s1, sr1, .int _, h1⟩⟩
theorem isB_inv {d : D} {k : Bool → Prop} (h : isB d k) : ∃ b, d = .bl b ∧ k b := by
  cases d <;> first
    | exact h.elim
    | exact ⟨_, rfl, h⟩
theorem je_not (ha : PE X l (tD X tb C R (wpE C R a))) : PE X (.UnaryOp .Not l pos) (tD X tb C R (wpE C R (.not a))) := by
  refine PE_imp (pe_not ha) fun σ H Q h => ?_
  obtain ⟨F, M, Z, ρ, Q', sr, re, hw, k⟩ := h
  simp only [wpE] at hw
  refine ⟨F, M, Z, ρ, _, sr, re, hw, fun x H1 ⟨F1, M1, dx, s1, sr1, rx, h1⟩ => ?_⟩
  obtain ⟨b, e, h1⟩ := isB_inv h1
  subst e
  cases rx
  exact ⟨b, rfl, k _ _ ⟨F1, M1, _, s1, sr1, .bl _, h1⟩⟩
/-- an expression as a test -/
abbrev wpB' (C : SC) (R : Xc → MH → Prop) (e : Ex) : En → MH → (Bool → MH → Prop) → Prop := fun ρ M Q => wpE C R e ρ M fun d M1 => isB d fun b => Q b M1
theorem jt_val {e : Expr} (h : PE X e (tD X tb C R (wpE C R a))) (he : ∀ whole, isTrue e X.env whole = (do let v ← whole; standAt e.pos; holding [v] (truthy v))) : PT X e (tDt X tb C R (wpB' C R a)) := by
  refine PT_imp (pt_val h he) fun σ H Q h => ?_
  obtain ⟨F, M, Z, ρ, Q', sr, re, hw, k⟩ := h
  refine ⟨F, M, Z, ρ, _, sr, re, hw, fun x H1 ⟨F1, M1, dx, s1, sr1, rx, h1⟩ => ?_⟩
  obtain ⟨b, e, h1⟩ := isB_inv h1
  subst e
  cases rx
  exact ⟨b, rfl, k _ _ ⟨F1, M1, s1, sr1, h1⟩⟩
theorem jt_not (ha : PT X l (tDt X tb C R (wpB' C R a))) : PT X (.UnaryOp .Not l pos) (tDt X tb C R (wpB' C R (.not a))) := by
  refine PT_imp (pt_not ha) fun σ H Q h => ?_
  obtain ⟨F, M, Z, ρ, Q', sr, re, hw, k⟩ := h
  simp only [wpB', wpE, isB] at hw
  exact ⟨F, M, Z, ρ, fun b M' => Q' (!b) M', sr, re, hw, fun b H1 q => k _ _ q⟩
theorem je_and {rest : List Expr} {v : Expr} (ha : PE X l (tD X tb C R (wpE C R a))) (hb : PE X (.BoolOp .And (v :: rest) pos) (tD X tb C R (wpE C R b))) : PE X (.BoolOp .And (l :: v :: rest) pos) (tD X tb C R (wpE C R (.and a b))) := by
  refine PE_imp (pe_and ha hb) fun σ H Q h => ?_
  obtain ⟨F, M, Z, ρ, Q', sr, re, hw, k⟩ := h
  simp only [wpE] at hw
  refine ⟨F, M, Z, ρ, _, sr, re, hw, fun x H1 ⟨F1, M1, dx, s1, sr1, rx, h1⟩ => ?_⟩
  obtain ⟨b, e, h1⟩ := isB_inv h1
  subst e
  cases rx
  refine ⟨b, rfl, ?_⟩
  cases b with
  | true =>
    refine ⟨F1, M1, Z, ρ, _, sr1, re.mono s1, h1, fun y H2 ⟨F2, M2, dy, s2, sr2, ry, h2⟩ => ?_⟩
    obtain ⟨b, e, h2⟩ := isB_inv h2
    subst e
    exact k _ _ ⟨F2, M2, _, s1.trans s2, sr2, ry, h2⟩
  | false => exact k _ _ ⟨F1, M1, _, s1, sr1, .bl _, h1⟩
theorem je_or {rest : List Expr} {v : Expr} (ha : PE X l (tD X tb C R (wpE C R a))) (hb : PE X (.BoolOp .Or (v :: rest) pos) (tD X tb C R (wpE C R b))) : PE X (.BoolOp .Or (l :: v :: rest) pos) (tD X tb C R (wpE C R (.or a b))) := by
  refine PE_imp (pe_or ha hb) fun σ H Q h => ?_
  obtain ⟨F, M, Z, ρ, Q', sr, re, hw, k⟩ := h
  simp only [wpE] at hw
  refine ⟨F, M, Z, ρ, _, sr, re, hw, fun x H1 ⟨F1, M1, dx, s1, sr1, rx, h1⟩ => ?_⟩
  obtain ⟨b, e, h1⟩ := isB_inv h1
  subst e
  cases rx
  refine ⟨b, rfl, ?_⟩
  cases b with
  | false =>
    refine ⟨F1, M1, Z, ρ, _, sr1, re.mono s1, h1, fun y H2 ⟨F2, M2, dy, s2, sr2, ry, h2⟩ => ?_⟩
    obtain ⟨b, e, h2⟩ := isB_inv h2
    subst e
    exact k _ _ ⟨F2, M2, _, s1.trans s2, sr2, ry, h2⟩
  | true => exact k _ _ ⟨F1, M1, _, s1, sr1, .bl _, h1⟩
theorem jw_and {rest : List Expr} {v : Expr} (ha : PT X l (tDt X tb C R (wpB' C R a))) (hb : PW X (.BoolOp .And (v :: rest) pos) (tDt X tb C R (wpB' C R b))) : PW X (.BoolOp .And (l :: v :: rest) pos) (tDt X tb C R (wpB' C R (.and a b))) := by
  refine PW_imp (pw_and ha hb) fun σ H Q h => ?_
  obtain ⟨F, M, Z, ρ, Q', sr, re, hw, k⟩ := h
  simp only [wpB', wpE] at hw
  refine ⟨F, M, Z, ρ, fun k M1 => if k = true then wpE C R b ρ M1 fun y M2 => isB y fun c2 => Q' c2 M2 else Q' false M1, sr, re, ?_, fun b H1 ⟨F1, M1, s1, sr1, h1⟩ => ?_⟩
  · exact hw
  cases b with
  | true => exact ⟨F1, M1, Z, ρ, Q', sr1, re.mono s1, h1, fun y H2 ⟨F2, M2, s2, sr2, h2⟩ => k _ _ ⟨F2, M2, s1.trans s2, sr2, h2⟩⟩
  | false => exact k _ _ ⟨F1, M1, s1, sr1, h1⟩
theorem jw_or {rest : List Expr} {v : Expr} (ha : PT X l (tDt X tb C R (wpB' C R a))) (hb : PW X (.BoolOp .Or (v :: rest) pos) (tDt X tb C R (wpB' C R b))) : PW X (.BoolOp .Or (l :: v :: rest) pos) (tDt X tb C R (wpB' C R (.or a b))) := by
  refine PW_imp (pw_or ha hb) fun σ H Q h => ?_
  obtain ⟨F, M, Z, ρ, Q', sr, re, hw, k⟩ := h
  simp only [wpB', wpE] at hw
  refine ⟨F, M, Z, ρ, fun k M1 => if k = true then Q' true M1 else wpE C R b ρ M1 fun y M2 => isB y fun c2 => Q' c2 M2, sr, re, ?_, fun b H1 ⟨F1, M1, s1, sr1, h1⟩ => ?_⟩
  · exact hw
  cases b with
  | false => exact ⟨F1, M1, Z, ρ, Q', sr1, re.mono s1, h1, fun y H2 ⟨F2, M2, s2, sr2, h2⟩ => k _ _ ⟨F2, M2, s1.trans s2, sr2, h2⟩⟩
  | true => exact k _ _ ⟨F1, M1, s1, sr1, h1⟩
theorem je_ite (hc : PT X t (tDt X tb C R (wpB' C R c'))) (ha : PE X l (tD X tb C R (wpE C R a))) (hb : PE X r (tD X tb C R (wpE C R b))) : PE X (.IfExp t l r pos) (tD X tb C R (wpE C R (.ite c' a b))) := by
  refine PE_imp (pe_ifExp hc ha hb) fun σ H Q h => ?_
  obtain ⟨F, M, Z, ρ, Q', sr, re, hw, k⟩ := h
  simp only [wpE] at hw
  refine ⟨F, M, Z, ρ, fun b M1 => if b = true then wpE C R _ ρ M1 Q' else wpE C R _ ρ M1 Q', sr, re, hw, fun b H1 ⟨F1, M1, s1, sr1, h1⟩ => ?_⟩
  cases b with
  | true => exact ⟨F1, M1, Z, ρ, Q', sr1, re.mono s1, h1, tD_then s1 k⟩
  | false => exact ⟨F1, M1, Z, ρ, Q', sr1, re.mono s1, h1, tD_then s1 k⟩
theorem jt_ite (hc : PT X t (tDt X tb C R (wpB' C R c'))) (ha : PT X l (tDt X tb C R (wpB' C R a))) (hb : PT X r (tDt X tb C R (wpB' C R b))) : PT X (.IfExp t l r pos) (tDt X tb C R (wpB' C R (.ite c' a b))) := by
  refine ⟨fun pins s σ H Q I h => ?_⟩
  obtain ⟨F, M, Z, ρ, Q', sr, re, hw, k⟩ := h
  simp only [wpB', wpE] at hw
  show wpAny _ _ (do if ← isTrue t X.env (eval t X.env) then isTrue l X.env (eval l X.env) else isTrue r X.env (eval r X.env)) _ _ _
  refine wpAny_bind (thn (hc.run pins s σ H _ I ⟨F, M, Z, ρ, fun b M1 => if b = true then wpE C R _ ρ M1 fun d M2 => isB d fun b => Q' b M2 else wpE C R _ ρ M1 fun d M2 => isB d fun b => Q' b M2, sr, re, hw, fun b H1 q => q⟩) fun b s1 ⟨H1, I1, F1, M1, s1', sr1, h1⟩ => ?_)
  cases b with
  | true => exact ha.run pins s1 σ H1 _ I1 ⟨F1, M1, Z, ρ, Q', sr1, re.mono s1', h1, fun b H2 ⟨F2, M2, s2, sr2, h2⟩ => k _ _ ⟨F2, M2, s1'.trans s2, sr2, h2⟩⟩
  | false => exact hb.run pins s1 σ H1 _ I1 ⟨F1, M1, Z, ρ, Q', sr1, re.mono s1', h1, fun b H2 ⟨F2, M2, s2, sr2, h2⟩ => k _ _ ⟨F2, M2, s1'.trans s2, sr2, h2⟩⟩
end
end T
set_option Elab.async false
set_option linter.all false
set_option maxRecDepth 100000
set_option maxHeartbeats 4000000
namespace T
open PySem PySem.Spec PyProof.Rows L2 HT
section
variable {prog : Program} {w : World} {A : Around} {E : Value → Shared → Prop} {s : Shared}
theorem places_rev (n : Nat) : Builtin.Slice.slicePlaces ((n : Int) - 1) (-1) (-1) = n := by
  unfold Builtin.Slice.slicePlaces
  rw [if_neg (by omega)]
  by_cases h : n = 0
  · subst h; rfl
  · rw [if_pos (by omega)]
    have e : ((n : Int) - 1 - -1 - 1) / (-(-1)) = (n : Int) - 1 := by
      rw [show -(-1 : Int) = 1 from rfl, Int.ediv_one]; omega
    rw [e]; omega
theorem applied_rev {sl : Addr} {n : Nat} {t : Tok} {Q : Int × Int × Nat → Shared → Prop} (hs : s.heap.IsSliceOf sl .none .none (.int (-1) t))
    (h : Q ((n : Int) - 1, -1, n) s) : wpAny (model prog w) A (Builtin.Slice.sliceApplied (.ref sl) (pure (n : Int))) Q E s := by
  obtain ⟨os, hos, hcs, hds⟩ := id hs
  unfold Builtin.Slice.sliceApplied Builtin.Slice.sliceFields
  refine wpAny_bind (wpAny_bind (wpAny_field hos hds (x := .none) rfl (wpAny_bind (wpAny_field hos hds (x := .none) rfl (wpAny_bind (wpAny_field hos hds (x := .int (-1) t) rfl (wpAny_pure ?_)))))))
  refine wpAny_bind (slicePart_int ?_)
  show wpAny _ _ (if ((-1 : Int) == 0) = true then _ else _) _ _ s
  rw [if_neg (by decide)]
  refine wpAny_bind (slicePart_none (wpAny_bind (slicePart_none (wpAny_bind (wpAny_pure ?_)))))
  show wpAny _ _ (pure ((n : Int) - 1, (-1 : Int), Builtin.Slice.slicePlaces ((n : Int) - 1) (-1) (-1))) _ _ s
  rw [places_rev]
  exact wpAny_pure h
theorem filterMap_some {α β : Type} {f : α → Option β} {g : α → β} : ∀ {l : List α}, (∀ x ∈ l, f x = some (g x)) → l.filterMap f = l.map g
  | [], _ => rfl
  | x :: r, h => by
    rw [List.filterMap_cons, h x List.mem_cons_self, List.map_cons, filterMap_some fun y hy => h y (List.mem_cons_of_mem _ hy)]
theorem pick_rev (xs : List Value) : ((List.range xs.length).filterMap fun (m : Nat) => xs.toArray[((xs.length : Int) - 1 + (m : Int) * -1).toNat]?) = xs.reverse := by
  apply List.ext_getElem?
  intro i
  have e : (List.range xs.length).filterMap (fun (m : Nat) => xs.toArray[((xs.length : Int) - 1 + (m : Int) * -1).toNat]?) = (List.range xs.length).map (fun m => xs.getD (xs.length - 1 - m) .none) := by
    refine filterMap_some fun m hm => ?_
    have hm : m < xs.length := List.mem_range.mp hm
    have e1 : ((xs.length : Int) - 1 + (m : Int) * -1).toNat = xs.length - 1 - m := by omega
    rw [e1]
    have hlt : xs.length - 1 - m < xs.length := by omega
    simp [hlt]
  rw [e]
  by_cases hi : i < xs.length
  · rw [List.getElem?_map, List.getElem?_range hi, List.getElem?_reverse hi]
    have hlt : xs.length - 1 - i < xs.length := by omega
    simp [hlt]
  · rw [List.getElem?_eq_none (by simpa using hi), List.getElem?_eq_none (by simpa using hi)]
theorem getItem_tuple_rev {t sl : Addr} {xs : List Value} {tk : Tok} {Q : Value → Shared → Prop} (ht : IsTup s.heap t xs.toArray) (hs : s.heap.IsSliceOf sl .none .none (.int (-1) tk))
    (h : Q (.ref s.heap.objs.size) { s with heap := s.heap.push { cls := .type "tuple", data := .seq xs.reverse.toArray } })
    (hsz : xs.length ≤ sizeLine) : wpAny (model prog w) A (getItem (.ref t) (.ref sl)) Q E s := by
  obtain ⟨os, hos, hcs, hds⟩ := id hs
  have hTs : s.TypeIs (.ref sl) "slice" := ⟨os, hos, hcs⟩
  unfold getItem
  try with_reducible refine wpAny_holding ?_
  first | refine wpAny_bind (wpAny_pure ?_) | skip
  refine wpAny_bind (wpAny_sequenceKey ht.typeIs (by decide) ?_)
  refine wpAny_bind (wpAny_callSpecial?_slot (name := Str.ofString "__getitem__") ht.typeIs PyProof.Rows.slot_tuple_getitem
    (wpAny_call_entry PyProof.Rows.slot_tuple_getitem ht.typeIs entry_tuple_getitem ?_ (args_tuple_getitem _ _)))
  show wpAny _ _ (Builtin.Tuple.tupleItemsOf (.ref t) >>= _) _ _ s
  refine wpAny_bind (tupleItemsOf_ ht ?_)
  refine wpAny_bind (wpAny_typeOf hTs ?_)
  rw [if_pos (by decide)]
  have ez : ((xs.toArray.size : Nat) : Int) = (xs.length : Nat) := by simp
  show wpAny _ _ (Builtin.Slice.sliceApplied (.ref sl) (pure ((xs.toArray.size : Nat) : Int)) >>= _) _ _ s
  rw [ez]
  refine wpAny_bind (applied_rev hs ?_)
  show wpAny _ _ (if ((((xs.length : Nat) : Int) - 1 == 0) && ((-1 : Int) == 1) && (xs.length == xs.toArray.size)) = true then _ else _) _ _ s
  rw [if_neg (by simp)]
  rw [pick_rev]
  have htake : sizeOk (.seq xs.reverse.toArray) := by
    show xs.reverse.toArray.size ≤ sizeLine
    simpa using hsz
  first
    | exact wpAny_bind (m := Builtin.Tuple.tupleExact _) (wpAny_newObj_type (wpAny_pure ⟨_, rfl, wpAny_pure h⟩) htake)
    | exact wpAny_bind (m := Builtin.Tuple.tupleExact _) (wpAny_newObj_type (wpAny_bind (wpAny_pure (wpAny_pure ⟨_, rfl, wpAny_pure h⟩))) htake)
    | exact wpAny_bind (wpAny_bind (m := Builtin.Tuple.tupleExact _) (wpAny_newObj_type (wpAny_pure (wpAny_pure ⟨_, rfl, wpAny_pure h⟩)) htake))
    | exact wpAny_bind (wpAny_bind (m := Builtin.Tuple.tupleExact _) (wpAny_newObj_type (wpAny_pure ⟨_, rfl, wpAny_pure h⟩) htake))
end
end T
set_option Elab.async false
set_option linter.all false
set_option maxRecDepth 100000
set_option maxHeartbeats 4000000
namespace T
open PySem PySem.Spec PyProof.Rows L2 HT
section
variable {P : Nat → Option Fn} {G : Nat → Option D} {tb : Tb} {n : Nat} {e0 : Option (Addr × Xc)} {N : List Str} {sc : Scope} {X : Cx} {R : Xc → MH → Prop} {C : SC}
variable {a b c' d' : Ex} {l r t u : Expr} {pos : Pos}
theorem je_cmp {o : Cp} (hu : X.A.units + 65 < cLine) (hm : behindInMarks o.op r = false) (ha : PE X l (tD X tb C R (wpE C R a))) (hb : PE X r (tD X tb C R (wpE C R b))) : PE X (.Compare l [o.op] [r] pos) (tD X tb C R (wpE C R (.cmp o a b))) := by
  refine PE_imp (pe_cmpR (oc_cmp o hu) ha hb hm) fun σ H Q h => ?_
  obtain ⟨F, M, Z, ρ, Q', sr, re, hw, k⟩ := h
  simp only [wpE] at hw
  exact ⟨F, M, Z, ρ, _, sr, re, hw, fun x H1 ⟨F1, M1, dx, s1, sr1, rx, h1⟩ => ⟨F1, M1, Z, ρ, _, sr1, re.mono s1, h1, fun y H2 ⟨F2, M2, dy, s2, sr2, ry, h2⟩ =>
    ⟨F2, M2, Z, dx, dy, _, sr2, rx.mono s2, ry, h2, fun c q => k _ _ ⟨F2, M2, _, s1.trans s2, sr2, .bl c, q⟩⟩⟩⟩
theorem jt_cmp {o : Cp} (hu : X.A.units + 65 < cLine) (hm : behindInMarks o.op r = false) (ha : PE X l (tD X tb C R (wpE C R a))) (hb : PE X r (tD X tb C R (wpE C R b))) : PT X (.Compare l [o.op] [r] pos) (tDt X tb C R (wpB' C R (.cmp o a b))) := by
  refine PT_imp (pt_cmpR (oc_cmp o hu) ha hb hm) fun σ H Q h => ?_
  obtain ⟨F, M, Z, ρ, Q', sr, re, hw, k⟩ := h
  simp only [wpB', wpE] at hw
  exact ⟨F, M, Z, ρ, _, sr, re, hw, fun x H1 ⟨F1, M1, dx, s1, sr1, rx, h1⟩ => ⟨F1, M1, Z, ρ, _, sr1, re.mono s1, h1, fun y H2 ⟨F2, M2, dy, s2, sr2, ry, h2⟩ =>
    ⟨F2, M2, Z, dx, dy, _, sr2, rx.mono s2, ry, h2, fun c q => ⟨c, rfl, k _ _ ⟨F2, M2, s1.trans s2, sr2, q⟩⟩⟩⟩⟩
theorem cmp2_read {o o2 : Cp} {c2 : Expr} {σ : L2.St} {H : Hp} {Q : VK} {F Z : Hp} {M : MH} {ρ : En} {Q' : D → MH → Prop} (sr : SR X.K F M Z H) (re : RX X tb C R F Z σ ρ) (hw : wpE C R (.cmp2 o a b o2 c') ρ M Q') (k : ∀ v H', KQ X.K F Z Q' v H' → Q v H') :
    tChain (rCpD X o) (rCpD X o2) (tD X tb C R (wpE C R a)) (tD X tb C R (wpE C R b)) (tD X tb C R (wpE C R c')) σ H Q := by
  simp only [wpE] at hw
  refine ⟨F, M, Z, ρ, _, sr, re, hw, fun x H1 ⟨F1, M1, dx, s1, sr1, rx, h1⟩ => ⟨F1, M1, Z, ρ, _, sr1, re.mono s1, h1, fun y H2 ⟨F2, M2, dy, s2, sr2, ry, h2⟩ =>
    ⟨F2, M2, Z, dx, dy, _, sr2, rx.mono s2, ry, h2, fun c q => ⟨c, rfl, ?_⟩⟩⟩⟩
  cases c with
  | true => exact ⟨F2, M2, Z, ρ, _, sr2, re.mono (s1.trans s2), q, fun z H3 ⟨F3, M3, dz, s3, sr3, rz, h3⟩ =>
      ⟨F3, M3, Z, dy, dz, _, sr3, ry.mono s3, rz, h3, fun c q => k _ _ ⟨F3, M3, _, (s1.trans s2).trans s3, sr3, .bl c, q⟩⟩⟩
  | false => exact k _ _ ⟨F2, M2, _, s1.trans s2, sr2, .bl _, q⟩
theorem je_cmp2 {o o2 : Cp} (hu : X.A.units + 65 < cLine) (hm : lastMarks [o.op, o2.op] [r, t] = false) (ha : PE X l (tD X tb C R (wpE C R a))) (hb : PE X r (tD X tb C R (wpE C R b))) (hc : PE X t (tD X tb C R (wpE C R c'))) :
    PE X (.Compare l [o.op, o2.op] [r, t] pos) (tD X tb C R (wpE C R (.cmp2 o a b o2 c'))) := by
  refine PE_imp (pe_chain (oc_cmp o hu) (oc_cmp o2 hu) ha hb hc hm) fun σ H Q h => ?_
  obtain ⟨F, M, Z, ρ, Q', sr, re, hw, k⟩ := h
  exact cmp2_read (c2 := t) sr re hw k
theorem jt_cmp2 {o o2 : Cp} (hu : X.A.units + 65 < cLine) (hm : lastMarks [o.op, o2.op] [r, t] = false) (ha : PE X l (tD X tb C R (wpE C R a))) (hb : PE X r (tD X tb C R (wpE C R b))) (hc : PE X t (tD X tb C R (wpE C R c'))) :
    PT X (.Compare l [o.op, o2.op] [r, t] pos) (tDt X tb C R (wpB' C R (.cmp2 o a b o2 c'))) := by
  refine PT_imp (pt_chain (oc_cmp o hu) (oc_cmp o2 hu) ha hb hc hm) fun σ H Q h => ?_
  obtain ⟨F, M, Z, ρ, Q', sr, re, hw, k⟩ := h
  refine cmp2_read (c2 := t) sr re hw fun v H' ⟨F', M', d, s', sr', rd, q⟩ => ?_
  obtain ⟨b, e, q⟩ := isB_inv q
  subst e
  cases rd
  exact ⟨b, rfl, k _ _ ⟨F', M', s', sr', q⟩⟩
/-- three in a chain -/
def tChain3 (r1 r2 r3 : R2) (ta tb tc td : TE) : TE := fun σ H Q => ta σ H fun x H1 => tb σ H1 fun y H2 => r1 x y H2 fun z H3 => ∃ k, z = .bl k ∧
  (if k = true then tc σ H3 fun w' H4 => r2 y w' H4 fun z2 H5 => ∃ k2, z2 = .bl k2 ∧ (if k2 = true then td σ H5 fun w2 H6 => r3 w' w2 H6 Q else Q (.bl false) H5) else Q (.bl false) H3)
theorem pe_chain3 {op op' op'' : CmpOp} {r1 r2 r3 : R2} {a b c d : Expr} {ta tb tc td : TE} (ho : OpR X (compareOp op) r1) (ho' : OpR X (compareOp op') r2) (ho'' : OpR X (compareOp op'') r3) (ha : PE X a ta) (hb : PE X b tb) (hc : PE X c tc) (hd : PE X d td)
    (hm : lastMarks [op, op', op''] [b, c, d] = false) : PE X (.Compare a [op, op', op''] [b, c, d] pos) (tChain3 r1 r2 r3 ta tb tc td) := by
  refine ⟨fun pins s σ H Q I h => ?_⟩
  refine Compare_chain (thn (ha.run pins s σ H _ I h) fun v s1 ⟨x, H1, I1, r1, q1⟩ => chain_link (thn (hb.run pins s1 σ H1 _ I1 q1) fun u s2 ⟨y, H2, I2, r2, q2⟩ =>
    thn (ho pins s2 σ H2 x y v u _ I2 r1 r2 q2) fun d s3 ⟨z, H3, I3, r3, k, e, q3⟩ => ?_)) hm
  subst e
  cases r3
  refine wpAny_truthy_bool ?_
  cases k with
  | false => exact ite_ff ⟨.bl false, H3, I3, rfl, q3⟩
  | true =>
    refine ite_tt (chain_link (thn (hc.run pins s3 σ H3 _ I3 q3) fun w' s4 ⟨z', H4, I4, r4, q4⟩ => thn (ho' pins s4 σ H4 y z' u w' _ I4 r2 r4 q4) fun d2 s5 ⟨z5, H5, I5, r5, k5, e5, q5⟩ => ?_))
    subst e5
    cases r5
    refine wpAny_truthy_bool ?_
    cases k5 with
    | false => exact ite_ff ⟨.bl false, H5, I5, rfl, q5⟩
    | true => exact ite_tt (chain_last (thn (hd.run pins s5 σ H5 _ I5 q5) fun w6 s6 ⟨z6, H6, I6, r6, q6⟩ => ho'' pins s6 σ H6 z' z6 w' w6 Q I6 r4 r6 q6))
theorem pt_chain3 {op op' op'' : CmpOp} {r1 r2 r3 : R2} {a b c d : Expr} {ta tb tc td : TE} (ho : OpR X (compareOp op) r1) (ho' : OpR X (compareOp op') r2) (ho'' : OpR X (compareOp op'') r3) (ha : PE X a ta) (hb : PE X b tb) (hc : PE X c tc) (hd : PE X d td)
    (hm : lastMarks [op, op', op''] [b, c, d] = false) : PT X (.Compare a [op, op', op''] [b, c, d] pos) (tTest (tChain3 r1 r2 r3 ta tb tc td)) := by
  refine ⟨fun pins s σ H Q I h => ?_⟩
  refine isTrue_chain (thn (ha.run pins s σ H _ I h) fun v s1 ⟨x, H1, I1, r1, q1⟩ => test_link (thn (hb.run pins s1 σ H1 _ I1 q1) fun u s2 ⟨y, H2, I2, r2, q2⟩ =>
    thn (ho pins s2 σ H2 x y v u _ I2 r1 r2 q2) fun d s3 ⟨z, H3, I3, r3, k, e, q3⟩ => ?_)) hm
  subst e
  cases r3
  refine wpAny_truthy_bool ?_
  cases k with
  | false =>
    obtain ⟨k', e', q'⟩ := q3
    cases e'
    exact ite_ff ⟨H3, I3, q'⟩
  | true =>
    refine ite_tt (test_link (thn (hc.run pins s3 σ H3 _ I3 q3) fun w' s4 ⟨z', H4, I4, r4, q4⟩ => thn (ho' pins s4 σ H4 y z' u w' _ I4 r2 r4 q4) fun d2 s5 ⟨z5, H5, I5, r5, k5, e5, q5⟩ => ?_))
    subst e5
    cases r5
    refine wpAny_truthy_bool ?_
    cases k5 with
    | false =>
      obtain ⟨k', e', q'⟩ := q5
      cases e'
      exact ite_ff ⟨H5, I5, q'⟩
    | true =>
      refine ite_tt (test_last (thn (hd.run pins s5 σ H5 _ I5 q5) fun w6 s6 ⟨z6, H6, I6, r6, q6⟩ => thn (ho'' pins s6 σ H6 z' z6 w' w6 _ I6 r4 r6 q6) fun d7 s7 ⟨z7, H7, I7, r7, k7, e7, q7⟩ => ?_))
      subst e7
      cases r7
      exact wpAny_truthy_bool ⟨H7, I7, q7⟩
theorem cmp3_read {o o2 o3 : Cp} {σ : L2.St} {H : Hp} {Q : VK} {F Z : Hp} {M : MH} {ρ : En} {Q' : D → MH → Prop} (sr : SR X.K F M Z H) (re : RX X tb C R F Z σ ρ) (hw : wpE C R (.cmp3 o a b o2 c' o3 d') ρ M Q') (k : ∀ v H', KQ X.K F Z Q' v H' → Q v H') :
    tChain3 (rCpD X o) (rCpD X o2) (rCpD X o3) (tD X tb C R (wpE C R a)) (tD X tb C R (wpE C R b)) (tD X tb C R (wpE C R c')) (tD X tb C R (wpE C R d')) σ H Q := by
  simp only [wpE] at hw
  refine ⟨F, M, Z, ρ, _, sr, re, hw, fun x H1 ⟨F1, M1, dx, s1, sr1, rx, h1⟩ => ⟨F1, M1, Z, ρ, _, sr1, re.mono s1, h1, fun y H2 ⟨F2, M2, dy, s2, sr2, ry, h2⟩ =>
    ⟨F2, M2, Z, dx, dy, _, sr2, rx.mono s2, ry, h2, fun c q => ⟨c, rfl, ?_⟩⟩⟩⟩
  cases c with
  | true =>
    refine ⟨F2, M2, Z, ρ, _, sr2, re.mono (s1.trans s2), q, fun z H3 ⟨F3, M3, dz, s3, sr3, rz, h3⟩ => ⟨F3, M3, Z, dy, dz, _, sr3, ry.mono s3, rz, h3, fun c q => ⟨c, rfl, ?_⟩⟩⟩
    cases c with
    | true => exact ⟨F3, M3, Z, ρ, _, sr3, re.mono ((s1.trans s2).trans s3), q, fun z H4 ⟨F4, M4, du, s4, sr4, ru, h4⟩ =>
        ⟨F4, M4, Z, dz, du, _, sr4, rz.mono s4, ru, h4, fun c q => k _ _ ⟨F4, M4, _, ((s1.trans s2).trans s3).trans s4, sr4, .bl c, q⟩⟩⟩
    | false => exact k _ _ ⟨F3, M3, _, (s1.trans s2).trans s3, sr3, .bl _, q⟩
  | false => exact k _ _ ⟨F2, M2, _, s1.trans s2, sr2, .bl _, q⟩
theorem je_cmp3 {o o2 o3 : Cp} (hu : X.A.units + 65 < cLine) (hm : lastMarks [o.op, o2.op, o3.op] [r, t, u] = false) (ha : PE X l (tD X tb C R (wpE C R a))) (hb : PE X r (tD X tb C R (wpE C R b))) (hc : PE X t (tD X tb C R (wpE C R c'))) (hd : PE X u (tD X tb C R (wpE C R d'))) :
    PE X (.Compare l [o.op, o2.op, o3.op] [r, t, u] pos) (tD X tb C R (wpE C R (.cmp3 o a b o2 c' o3 d'))) := by
  refine PE_imp (pe_chain3 (oc_cmp o hu) (oc_cmp o2 hu) (oc_cmp o3 hu) ha hb hc hd hm) fun σ H Q h => ?_
  obtain ⟨F, M, Z, ρ, Q', sr, re, hw, k⟩ := h
  exact cmp3_read sr re hw k
theorem jt_cmp3 {o o2 o3 : Cp} (hu : X.A.units + 65 < cLine) (hm : lastMarks [o.op, o2.op, o3.op] [r, t, u] = false) (ha : PE X l (tD X tb C R (wpE C R a))) (hb : PE X r (tD X tb C R (wpE C R b))) (hc : PE X t (tD X tb C R (wpE C R c'))) (hd : PE X u (tD X tb C R (wpE C R d'))) :
    PT X (.Compare l [o.op, o2.op, o3.op] [r, t, u] pos) (tDt X tb C R (wpB' C R (.cmp3 o a b o2 c' o3 d'))) := by
  refine PT_imp (pt_chain3 (oc_cmp o hu) (oc_cmp o2 hu) (oc_cmp o3 hu) ha hb hc hd hm) fun σ H Q h => ?_
  obtain ⟨F, M, Z, ρ, Q', sr, re, hw, k⟩ := h
  refine cmp3_read sr re hw fun v H' ⟨F', M', d, s', sr', rd, q⟩ => ?_
  obtain ⟨b, e, q⟩ := isB_inv q
  subst e
  cases rd
  exact ⟨b, rfl, k _ _ ⟨F', M', s', sr', q⟩⟩
variable {x : Expr} {xs : List Expr} {e : Ex} {es : Es}
theorem ja_nil : PA X [] (tDs X tb C R (wpEs C R .nil)) := PA_imp pa_nil fun σ H Q ⟨F, M, Z, ρ, Q', sr, re, hw, k⟩ => k _ _ ⟨F, M, [], Same.refl F, sr, .nil, by simpa only [wpEs] using hw⟩
theorem ja_cons (hs : noStar x = true) (ha : PE X x (tD X tb C R (wpE C R e))) (hr : PA X xs (tDs X tb C R (wpEs C R es))) : PA X (x :: xs) (tDs X tb C R (wpEs C R (.cons e es))) := by
  refine PA_imp (pa_cons ha hr (star_of hs)) fun σ H Q h => ?_
  obtain ⟨F, M, Z, ρ, Q', sr, re, hw, k⟩ := h
  simp only [wpEs] at hw
  exact ⟨F, M, Z, ρ, _, sr, re, hw, fun x H1 ⟨F1, M1, dx, s1, sr1, rx, h1⟩ => ⟨F1, M1, Z, ρ, _, sr1, re.mono s1, h1, fun vs H2 ⟨F2, M2, ds, s2, sr2, rs, h2⟩ =>
    k _ _ ⟨F2, M2, _, s1.trans s2, sr2, .cons (rx.mono s2) rs, h2⟩⟩⟩
theorem je_tup {kk : Nat} (ha : PA X xs (tDs X tb C R (wpEs C R es))) : PE X (.Tuple xs kk pos) (tD X tb C R (wpE C R (.tup es))) := by
  refine ⟨fun pins s σ H Q I h => ?_⟩
  obtain ⟨F, M, Z, ρ, Q', sr, re, hw, k⟩ := h
  simp only [wpE] at hw
  refine wpAny_Tuple_spliced (thn (ha.run pos pins s σ H _ I ⟨F, M, Z, ρ, _, sr, re, hw, fun vs H1 q => q⟩) fun us s1 ⟨vs, H1, I1, r, F1, M1, ds, s1', sr1, rs, hz, h1⟩ => ⟨by rw [← r.length, rs.len]; exact hz, ?_⟩)
  exact newTup (t' := s1.toks) sr1 I1 r rs (by rw [rs.len]; exact hz) h1 (tD_then s1' k)
theorem je_lst {m : Bool} (ha : PA X xs (tDs X tb C R (wpEs C R es))) : PE X (.List xs pos) (tD X tb C R (wpE C R (.lst m es))) := by
  refine PE_imp (pe_lst ha) fun σ H Q h => ?_
  obtain ⟨F, M, Z, ρ, Q', sr, re, hw, k⟩ := h
  simp only [wpE] at hw
  exact ⟨F, M, Z, ρ, _, sr, re, hw, fun vs H1 ⟨F1, M1, ds, s1, sr1, rs, hz, h1⟩ => ⟨by rw [rs.len]; exact hz, fun p hp => k _ _ ((mkL_new sr1 rs hp h1).back s1)⟩⟩
theorem run_FG {k : Nat} {f : Addr} {fd : FuncData} {ps : List Str} {sp : Obj → Sp} {pins : List (Addr × Obj)} {σ : L2.St} {H : Hp} {s : Shared} {Q : VK} {E : XK} {us : List Value} {vs : List V} {oe : Obj} (F : FG X.prog X.w X.K X.mg X.base k e0 f fd ps sp) (hsm : X.base.get? sysModules ≠ none) (hr : L2H.RoomH (k + 2) X.A)
    (hh : e0 = none → X.A.handled = none) (hp : ∀ p, e0 = some p → (p.1, oe) ∈ X.pn ∧ L2H.Hot1 X.A (p.1, oe)) (hg : X.A.guards = some []) (hb : Binds X.K fd ps []) (tk : L2N.Takes X fun cls d σ' H' => σ' = σ ∧ E cls d H')
    (I : Inv X pins σ H s) (r : Vals vs us) (h : sp oe vs H Q E) : wpAny (model X.prog X.w) X.A (call (.ref f) us) (EP X pins σ Q) X.xe s := by
  have hl : us.length = ps.length := by rw [← r.length]; exact F.len _ _ _ _ _ h
  have b := hb s us I.kIn (by rw [List.append_nil]; exact hl)
  rw [List.append_nil] at b
  refine wpAny_call (codeAny_mono (F.run hsm X.A X.stack s H ⟨us, []⟩ us vs Q E oe ⟨hr, hh, fun p e => ?_⟩ hg I.env0 b r h) fun r s' hq => ?_)
  · obtain ⟨hp, hot⟩ := hp p e
    have P1 := I.pin (p.1, oe) (List.mem_append_left _ hp)
    exact ⟨hot, P1.1, P1.2.1, fun hm => (List.mem_cons.mp (I.stkSub p.1 hm)).elim P1.2.2.1 P1.2.2.2.1, P1.2.2.2.2⟩
  cases r with
  | error e =>
    refine L2N.passAt (W := fun cls d σ' H' => σ' = σ ∧ E cls d H') tk σ pins H s e s' I ?_
    have h2 : L2N.CX X.prog X.w X.stack H s E e s' := hq
    obtain ⟨a, B, H', cls, d, q1, q2, q3, q4, q5, q6, q7, q8⟩ := h2
    exact ⟨a, B, H', cls, d, q1, q2, q3, q4, q5, q6, q7, rfl, q8⟩
  | ok fl =>
    cases fl with
    | ret u => exact I.after hq
    | next => exact False.elim hq
    | brk => exact False.elim hq
    | cont => exact False.elim hq
theorem exc_pick {α : Type} {p : Option α} {B : α → Obj → Prop} (h : ∀ q, p = some q → ∃ oe, B q oe) : ∃ oe, ∀ q, p = some q → B q oe := by
  cases p with
  | none => exact ⟨{ cls := .none, dict := none, data := .fields #[], slots := #[] }, fun q e => nomatch e⟩
  | some q =>
    obtain ⟨oe, h⟩ := h q rfl
    exact ⟨oe, fun q' e => by cases e; exact h⟩
theorem je_call (c : CK P G tb n e0 N sc X) (hC : C = scX P G n e0) {f : Nat} {m : Str} {p : Pos} (h1 : tb.fnm f = some m) (h2 : glB sc m = true) (h3 : okN m = true) (hs : ∀ y ∈ x :: xs, noStar y = true) (ha : PA X (x :: xs) (tDs X tb C R (wpEs C R es))) :
    PE X (.Call (.Name m p) (x :: xs) [] pos) (tD X tb C R (wpE C R (.call f es))) := by
  obtain ⟨addr, fd, ps, hm, hk, hb, hF⟩ := c.call f m h1
  refine ⟨fun pins s σ H Q I h => ?_⟩
  obtain ⟨F, M, Z, ρ, Q', sr, re, hw, k⟩ := h
  simp only [wpE] at hw
  refine wpAny_Call_Name_kw (ld_glob I (c.gl h2) hm ?_ (okN_of h3).1)
  refine PySem.W.callWith_K (h₀ := X.base) I.ok.mod.kin hk (thn (ha.run pos pins s σ H _ I ⟨F, M, Z, ρ, _, sr, re, hw, fun vs H' q => q⟩) fun us s1 ⟨vs, H1, I1, r, q⟩ => ⟨I1.kIn, ?_⟩)
    (star_of (hs x List.mem_cons_self)) (any_of fun y hy => hs y (List.mem_cons_of_mem _ hy))
  obtain ⟨F1, M1, ds, s1', sr1, rs, h1⟩ := q
  obtain ⟨oe, hoe⟩ := exc_pick re.hx
  rw [hC] at h1 hoe
  refine run_FG (E := KX X.K tb.cs F1 Z R) hF c.sm c.room c.hdl (fun p e => ⟨(hoe p e).1, (hoe p e).2.1⟩) c.gd hb (re.mono s1').tk I1 r ⟨F1, M1, Z, ds, Q', R, sr1, rs, fun p e => ((hoe p e).2.2).mono s1', h1, tD_then s1' k, fun cls d H' q => q⟩
end
end T
set_option Elab.async false
set_option linter.all false
set_option maxRecDepth 100000
set_option maxHeartbeats 4000000
namespace T
open PySem PySem.Spec PyProof.Rows L2 HT
section
variable {P : Nat → Option Fn} {G : Nat → Option D} {tb : Tb} {n : Nat} {e0 : Option (Addr × Xc)} {N : List Str} {sc : Scope} {X : Cx} {R : Xc → MH → Prop} {C : SC}
variable {a b i : Ex} {l r t u x y : Expr} {xs : List Expr} {e : Ex} {es : Es} {pos : Pos}
theorem bi_read {m : Bool} {b : Bi} : ∀ σ H Q, tD X tb C R (wpE C R (.bi m b es)) σ H Q → tCB (rBiD X m b) (tDs X tb C R (wpEs C R es)) σ H Q := fun σ H Q ⟨F, M, Z, ρ, Q', sr, re, hw, k⟩ => by
  simp only [wpE] at hw
  exact ⟨F, M, Z, ρ, _, sr, re, hw, fun vs H1 ⟨F1, M1, ds, s1, sr1, rs, h1⟩ => ⟨F1, M1, Z, ds, Q', sr1, rs, h1, tD_then s1 k⟩⟩
theorem je_biB (c : CK P G tb n e0 N sc X) {m : Bool} {b : Bi} {nm : Str} {id : String} {p : Pos} (hr : CallR X (.builtin id) (rBiD X m b)) (hn : nm ∈ bltNames) (hg : glB sc nm = true) (hv : bootBuiltins nm = some (.builtin id)) (h1 : nm ≠ "__name__") (h2 : (nm == ("__debug__" : Str)) = false)
    (hs : ∀ y ∈ x :: xs, noStar y = true) (ha : PA X (x :: xs) (tDs X tb C R (wpEs C R es))) : PE X (.Call (.Name nm p) (x :: xs) [] pos) (tD X tb C R (wpE C R (.bi m b es))) :=
  PE_imp (pe_callB hr (c.gl hg) (c.blt nm hn) hv ha h1 h2 (star_of (hs x List.mem_cons_self)) (any_of fun y hy => hs y (List.mem_cons_of_mem _ hy))) bi_read
theorem je_biT (c : CK P G tb n e0 N sc X) {m : Bool} {b : Bi} {nm : Str} {id : String} {p : Pos} (hr : CallR X (.type id) (rBiD X m b)) (hn : nm ∈ bltNames) (hg : glB sc nm = true) (hv : bootBuiltins nm = some (.type id)) (h1 : nm ≠ "__name__") (h2 : (nm == ("__debug__" : Str)) = false)
    (hs : ∀ y ∈ x :: xs, noStar y = true) (ha : PA X (x :: xs) (tDs X tb C R (wpEs C R es))) : PE X (.Call (.Name nm p) (x :: xs) [] pos) (tD X tb C R (wpE C R (.bi m b es))) :=
  PE_imp (pe_callTy hr (c.gl hg) (c.blt nm hn) hv ha h1 h2 (star_of (hs x List.mem_cons_self)) (any_of fun y hy => hs y (List.mem_cons_of_mem _ hy))) bi_read
theorem rep_inv {x y : D} {k : List D → Prop} (h : repD x y k) : ∃ xs n, x = .lst xs ∧ y = .int n ∧ (0 ≤ n ∧ n < 2 ^ 60 ∧ xs.length * n.toNat ≤ sizeLine) ∧ k (List.replicate n.toNat xs).flatten := by
  cases x <;> cases y <;> first
    | exact h.elim
    | exact ⟨_, _, rfl, rfl, h⟩
def rRepC (X : Cx) : R2 := fun x y H Q => ∃ F M Z dx dy Q', SR X.K F M Z H ∧ Rep X.K F x dx ∧ Rep X.K F y dy ∧ repD (vw M dx) (vw M dy) (fun zs => mkL true zs M Q') ∧ ∀ v H', KQ X.K F Z Q' v H' → Q v H'
theorem or_rep : OpR X (binaryOp .Mult) (rRepC X) := by
  intro pins s σ H x y v u Q I rx ry h
  obtain ⟨F, M, Z, dx, dy, Q', sr, hx, hy, h, k⟩ := h
  obtain ⟨xs, n, e1, e2, ⟨h0, h1, h2⟩, q⟩ := rep_inv h
  obtain ⟨a, vs, rfl, ha, ra⟩ := vw_lst sr hx e1
  have ey := vw_int hy e2
  subst ey
  exact op_rep pins s σ H _ _ v u Q I rx ry ⟨a, n, vs, rfl, rfl, ha, by omega, by omega, by rw [ra.len]; exact h2, fun p hp => k _ _ (mkL_new sr (ra.replicate _) hp q)⟩
theorem je_mulC (ha : PE X l (tD X tb C R (wpE C R a))) (hb : PE X r (tD X tb C R (wpE C R b))) : PE X (.BinOp l .Mult r pos) (tD X tb C R (wpE C R (.mulC a b))) := by
  refine PE_imp (pe_op or_rep ha hb) fun σ H Q h => ?_
  obtain ⟨F, M, Z, ρ, Q', sr, re, hw, k⟩ := h
  simp only [wpE] at hw
  exact ⟨F, M, Z, ρ, _, sr, re, hw, fun x H1 ⟨F1, M1, dx, s1, sr1, rx, h1⟩ => ⟨F1, M1, Z, ρ, _, sr1, re.mono s1, h1, fun y H2 ⟨F2, M2, dy, s2, sr2, ry, h2⟩ =>
    ⟨F2, M2, Z, dx, dy, Q', sr2, rx.mono s2, ry, h2, tD_then (s1.trans s2) k⟩⟩⟩
/-- list(range(n)) -/
theorem rgV_nat {k : Int} : rgV 0 k = (List.range k.toNat).map fun i : Nat => V.int i := by
  unfold rgV
  rw [Int.sub_zero]
  refine List.map_congr_left fun i _ => ?_
  rw [Int.zero_add]
theorem rep_range {K : PySem.W.Frag} {F : Hp} (f : Nat → Int) : ∀ l : List Nat, RepA K F (l.map fun i => V.int (f i)) (l.map fun i => D.int (f i))
  | [] => .nil
  | i :: r => .cons (.int _) (rep_range f r)
theorem je_lrg (c : CK P G tb n e0 N sc X) (hh : tb.hot = false) {m : Bool} {p q pos2 : Pos} (hg : glB sc "list" = true) (hg2 : glB sc "range" = true) (hs : noStar x = true) (ha : PE X x (tD X tb C R (wpE C R e))) :
    PE X (.Call (.Name "list" p) [.Call (.Name "range" q) [x] [] pos2] [] pos) (tD X tb C R (wpE C R (.bi m .listrange (.cons e .nil)))) := by
  have h1 := prg_1 (p := q) (pos := pos2) (c.gl hg2) (c.blt _ (by decide)) ha (star_of hs)
  refine PE_imp (pe_listRg (c.calm hh) (c.gl hg) (c.blt _ (by decide)) h1) fun σ H Q h => ?_
  obtain ⟨F, M, Z, ρ, Q', sr, re, hw, k⟩ := h
  simp only [wpE, wpEs] at hw
  refine ⟨F, M, Z, ρ, _, sr, re, hw, fun v H1 ⟨F1, M1, dx, s1, sr1, rx, h1⟩ => ?_⟩
  cases dx <;> first
    | exact h1.elim
    | skip
  rename_i k'
  cases rx
  obtain ⟨⟨hz0, hz⟩, h1⟩ := h1
  have hsz := sizeLine_eq
  refine ⟨k', rfl, ⟨by omega, by omega, by omega, by omega, by omega⟩, fun q hq => k _ _ ?_⟩
  rw [rgV_nat]
  exact (mkL_new sr1 (rep_range (fun i => (i : Int)) _) hq h1).back s1
/-- list(range(i, j)) -/
theorem je_lrg2 (c : CK P G tb n e0 N sc X) (hh : tb.hot = false) {m : Bool} {p q pos2 : Pos} {y : Expr} {b : Ex} (hg : glB sc "list" = true) (hg2 : glB sc "range" = true) (hs : noStar x = true) (hs2 : noStar y = true) (ha : PE X x (tD X tb C R (wpE C R e))) (hb : PE X y (tD X tb C R (wpE C R b))) :
    PE X (.Call (.Name "list" p) [.Call (.Name "range" q) [x, y] [] pos2] [] pos) (tD X tb C R (wpE C R (.bi m .listrange (.cons e (.cons b .nil))))) := by
  have h1 := prg_2 (p := q) (pos := pos2) (c.gl hg2) (c.blt _ (by decide)) ha hb (star_of hs) (star_of hs2) (by rw [star_of hs2]; rfl)
  refine PE_imp (pe_listRg (c.calm hh) (c.gl hg) (c.blt _ (by decide)) h1) fun σ H Q h => ?_
  obtain ⟨F, M, Z, ρ, Q', sr, re, hw, k⟩ := h
  simp only [wpE, wpEs] at hw
  refine ⟨F, M, Z, ρ, _, sr, re, hw, fun v H1 ⟨F1, M1, dx, s1, sr1, rx, h1⟩ => ⟨F1, M1, Z, ρ, _, sr1, re.mono s1, h1, fun v2 H2 ⟨F2, M2, dy, s2, sr2, ry, h2⟩ => ?_⟩⟩
  have rx' := rx.mono s2
  cases dx <;> first
    | exact h2.elim
    | skip
  cases dy <;> first
    | exact h2.elim
    | skip
  cases rx
  cases ry
  obtain ⟨⟨h3, h4, h5, h6, h7⟩, h2⟩ := h2
  have hsz := sizeLine_eq
  refine ⟨_, _, rfl, rfl, ⟨by omega, by omega, by omega, by omega, by omega⟩, fun q hq => k _ _ ?_⟩
  exact (mkL_new sr2 (rep_range (fun t => _ + (t : Int)) _) hq h2).back (s1.trans s2)
theorem ty_of {K : PySem.W.Frag} {F Z H : Hp} {M : MH} {v : V} {d : D} (sr : SR K F M Z H) (r : Rep K F v d) (h : (vw M d).isRef = false) (h2 : ∀ ns, vw M d ≠ .scr ns) : TyX K H v (.type (vw M d).ty) := by
  cases r with
  | non => exact .base .non
  | bl b => exact .base (.bl b)
  | int b => exact .base (.int b)
  | str b => exact .base (.str b)
  | lst e r => exact .base (.lst (sr.f _ _ e))
  | tup e r =>
    rcases e with ⟨o, e, _⟩ | ⟨o, its, n, e, ec, _⟩
    · exact .fTuple (sr.f _ _ e)
    · exact .kTuple e ec
  | dK e r => exact .base (.dK (sr.f _ _ e))
  | dT e r => exact .base (.dT (sr.f _ _ e))
  | scr e => exact absurd rfl (h2 _)
  | ref a =>
    simp only [vw] at h ⊢
    cases q : M a with
    | none => rw [q] at h; simp [D.isRef] at h
    | some c =>
      obtain ⟨_, _, o, h1, h3⟩ := sr.m a c q
      cases h3 with
      | lst r => exact .base (.lst h1)
      | dK r => exact .base (.dK h1)
      | dT r => exact .base (.dT h1)
      | dt r => rw [q] at h; simp [D.isRef] at h
theorem kit_any {K : PySem.W.Frag} {d : D} (h : d.isRef = false) (h2 : ∀ ns, d ≠ .scr ns) : ∀ ts : List Ty, PySem.W.kitAny K (.type d.ty) (ts.map fun t => Value.type t.nm) = some (ts.any (isTy d))
  | [] => kitAny_nil
  | t :: ts => by
    rw [List.map_cons, List.any_cons]
    refine kitAny_cons (kit_isTy h h2 t) (fun e => ?_) fun e => ?_
    · rw [e, Bool.false_or]; exact kit_any h h2 ts
    · rw [e, Bool.true_or]
theorem isNm_of {nm : Str} {x : Expr} (h : isNm nm sc x = true) : ∃ p, x = .Name nm p ∧ glB sc nm = true := by
  cases x <;> first
    | exact absurd (show false = true from h) Bool.false_ne_true
    | skip
  rename_i m p
  obtain ⟨h1, h2⟩ := da h
  subst h1
  exact ⟨p, rfl, h2⟩
theorem pe_ty (c : CK P G tb n e0 N sc X) {t : Ty} {x : Expr} (h : isNm (.ofString t.nm) sc x = true) : PE X x (tC (.ty t.nm)) := by
  obtain ⟨p, rfl, h2⟩ := isNm_of h
  cases t <;> exact pe_bltn (c.gl h2) (c.blt _ (by decide)) (by decide +kernel) rfl (by decide) (by decide)
theorem pa_tys (c : CK P G tb n e0 N sc X) : ∀ {ts : List Ty} {xs : List Expr}, ckTys sc ts xs = true → PA X xs (fun _ H Q => Q (ts.map fun t => V.ty t.nm) H)
  | [], [], _ => pa_nil
  | [], _ :: _, h => absurd (show false = true from h) Bool.false_ne_true
  | _ :: _, [], h => absurd (show false = true from h) Bool.false_ne_true
  | t :: ts, x :: xs, h => by
    obtain ⟨h1, h2⟩ := ba (show (isNm (.ofString t.nm) sc x && ckTys sc ts xs) = true from h)
    obtain ⟨p, e, _⟩ := isNm_of h1
    refine PA_imp (pa_cons (pe_ty c h1) (pa_tys c h2) (star_of (by rw [e]; rfl))) fun σ H Q q => q
theorem clsV_tys : ∀ ts : List Ty, Paired ClsV (ts.map fun t => V.ty t.nm) (ts.map fun t => Value.type t.nm)
  | [] => .nil
  | t :: ts => .cons (.ty _) (clsV_tys ts)
theorem je_isi1 (c : CK P G tb n e0 N sc X) {ty : Ty} {p : Pos} (hg : glB sc "isinstance" = true) (hs : noStar x = true) (ha : PE X x (tD X tb C R (wpE C R e))) (ht : isNm (.ofString ty.nm) sc y = true) :
    PE X (.Call (.Name "isinstance" p) [x, y] [] pos) (tD X tb C R (wpE C R (.isi e [ty]))) := by
  obtain ⟨p', ey, _⟩ := isNm_of ht
  have ys : noStar y = true := by rw [ey]; rfl
  refine PE_imp (pe_callB call_isi (c.gl hg) (c.blt _ (by decide)) boot_isinstance (pa_cons ha (pa_cons (pe_ty c ht) pa_nil (star_of ys)) (star_of hs)) (by decide) (by decide) (star_of hs) (any_of fun z hz => ?_)) fun σ H Q h => ?_
  · have : z = y := by simpa using hz
    rw [this]; exact ys
  obtain ⟨F, M, Z, ρ, Q', sr, re, hw, k⟩ := h
  simp only [wpE] at hw
  refine ⟨F, M, Z, ρ, _, sr, re, hw, fun v H1 ⟨F1, M1, dx, s1, sr1, rx, ⟨h0, h0', _⟩, h1⟩ => ?_⟩
  refine ⟨v, _, _, _, _, rfl, .ty _, ty_of sr1 rx h0 h0', kit_isTy h0 h0' ty, k _ _ ⟨F1, M1, _, s1, sr1, .bl _, ?_⟩⟩
  simpa using h1
theorem je_isiN (c : CK P G tb n e0 N sc X) {ts : List Ty} {p p2 : Pos} {kk : Nat} (hg : glB sc "isinstance" = true) (hs : noStar x = true) (ha : PE X x (tD X tb C R (wpE C R e))) (ht : ckTys sc ts xs = true) :
    PE X (.Call (.Name "isinstance" p) [x, .Tuple xs kk p2] [] pos) (tD X tb C R (wpE C R (.isi e ts))) := by
  refine PE_imp (pe_callB call_isiT (c.gl hg) (c.blt _ (by decide)) boot_isinstance (pa_cons ha (pa_cons (pe_tup (pa_tys c ht)) pa_nil (star_of rfl)) (star_of hs)) (by decide) (by decide) (star_of hs) (any_of fun z hz => ?_)) fun σ H Q h => ?_
  · have : z = .Tuple xs kk p2 := by simpa using hz
    rw [this]; rfl
  obtain ⟨F, M, Z, ρ, Q', sr, re, hw, k⟩ := h
  simp only [wpE] at hw
  refine ⟨F, M, Z, ρ, _, sr, re, hw, fun v H1 ⟨F1, M1, dx, s1, sr1, rx, ⟨h0, h0', hz⟩, h1⟩ => ?_⟩
  refine ⟨by rw [List.length_map]; exact hz, fun q hq => ?_⟩
  obtain ⟨sF, sr2⟩ := sr1.layF (o := .tup (ts.map fun t => V.ty t.nm)) hq
  exact ⟨v, q, _, _, _, _, rfl, upd_same, clsV_tys ts, ty_of sr2 (rx.mono sF) h0 h0', kit_any h0 h0' ts, k _ _ ⟨_, M1, _, s1.trans sF, sr2, .bl _, h1⟩⟩
theorem je_idx (hs : noSlice y = true) (ha : PE X x (tD X tb C R (wpE C R a))) (hi : PE X y (tD X tb C R (wpE C R i))) : PE X (.Subscript x y pos) (tD X tb C R (wpE C R (.idx a i))) := by
  refine PE_imp (pe_ix ix_D ha hi (plainIx_of hs)) fun σ H Q h => ?_
  obtain ⟨F, M, Z, ρ, Q', sr, re, hw, k⟩ := h
  simp only [wpE] at hw
  refine ⟨F, M, Z, ρ, _, sr, re, hw, fun v H1 ⟨F1, M1, dx, s1, sr1, rx, h1⟩ => ⟨F1, M1, Z, ρ, _, sr1, re.mono s1, h1, fun w H2 ⟨F2, M2, dy, s2, sr2, ry, h2⟩ => ?_⟩⟩
  have e : ixD (vw M2 dx) (vw M2 dy) (fun d => Q' d M2) := by
    obtain ⟨xs, i, j, d, e1, e2, _⟩ := ix_inv h2
    rw [e2] at h2
    rw [e2]
    exact h2
  exact ⟨F2, M2, Z, dx, dy, fun d => Q' d M2, sr2, rx.mono s2, ry, e, fun v d rd q => k _ _ ⟨F2, M2, d, s1.trans s2, sr2, rd, q⟩⟩
theorem jo_non : PO X none (tDo X tb C R fun ρ M Q => wpO C R .non ρ M fun l M1 => optI l fun o => Q o M1) := PO_imp po_none fun σ H Q ⟨F, M, Z, ρ, Q', sr, re, hw, k⟩ => k _ _ ⟨F, M, Same.refl F, sr, by simpa only [wpO, optI] using hw⟩
theorem jo_som (ha : PE X x (tD X tb C R (wpE C R a))) : PO X (some x) (tDo X tb C R fun ρ M Q => wpO C R (.som a) ρ M fun l M1 => optI l fun o => Q o M1) := by
  refine PO_imp (po_some ha) fun σ H Q h => ?_
  obtain ⟨F, M, Z, ρ, Q', sr, re, hw, k⟩ := h
  simp only [wpO] at hw
  refine ⟨F, M, Z, ρ, _, sr, re, hw, fun v H1 ⟨F1, M1, dx, s1, sr1, rx, h1⟩ => ?_⟩
  cases dx <;> first
    | exact h1.elim
    | skip
  cases rx
  exact ⟨_, rfl, k _ _ ⟨F1, M1, s1, sr1, h1⟩⟩
theorem je_sl {lo hi : Eo} {lx hx : Option Expr} {p2 : Pos} (ha : PE X x (tD X tb C R (wpE C R a))) (hl : PO X lx (tDo X tb C R fun ρ M Q => wpO C R lo ρ M fun l M1 => optI l fun o => Q o M1)) (hh : PO X hx (tDo X tb C R fun ρ M Q => wpO C R hi ρ M fun l M1 => optI l fun o => Q o M1)) :
    PE X (.Subscript x (.Slice lx hx none p2) pos) (tD X tb C R (wpE C R (.sl a lo hi))) := by
  refine PE_imp (pe_slice sl_D ha hl hh) fun σ H Q h => ?_
  obtain ⟨F, M, Z, ρ, Q', sr, re, hw, k⟩ := h
  simp only [wpE] at hw
  exact ⟨F, M, Z, ρ, _, sr, re, hw, fun v H1 ⟨F1, M1, dx, s1, sr1, rx, h1⟩ => ⟨F1, M1, Z, ρ, _, sr1, re.mono s1, h1, fun o H2 ⟨F2, M2, s2, sr2, h2⟩ =>
    ⟨F2, M2, Z, ρ, _, sr2, re.mono (s1.trans s2), h2, fun o2 H3 ⟨F3, M3, s3, sr3, h3⟩ => ⟨F3, M3, Z, dx, Q', sr3, rx.mono (s2.trans s3), h3, tD_then ((s1.trans s2).trans s3) k⟩⟩⟩⟩
theorem je_rev {kk : Nat} {p1 p2 p3 : Pos} (ha : PE X x (tD X tb C R (wpE C R a))) : PE X (.Subscript x (.Slice none none (some (.UnaryOp .USub (.Constant (.int 1) kk p1) p2)) p3) pos) (tD X tb C R (wpE C R (.rev a))) := by
  refine ⟨fun pins s σ H Q I h => ?_⟩
  obtain ⟨F, M, Z, ρ, Q', sr, re, hw, k⟩ := h
  simp only [wpE] at hw
  refine Subscript_ (thn (ha.run pins s σ H _ I ⟨F, M, Z, ρ, _, sr, re, hw, fun v H' q => q⟩) fun v s1 ⟨vx, H1, I1, r1, q1⟩ => ?_)
  obtain ⟨F1, M1, dx, s1', sr1, rx, h1⟩ := q1
  have hst : PO X (some (.UnaryOp .USub (.Constant (.int 1) kk p1) p2)) (tPart (tUn (rU fun i => .int (-i)) (tC (.int 1)))) := po_some (pe_un un_neg pe_int)
  refine wpAny_Slice (thn (po_none.run pins s1 σ H1 (fun o H2 => o = none ∧ H2 = H1) I1 ⟨rfl, rfl⟩) fun vl s2 ⟨l, H2, I2, pl, el, e2⟩ => ?_)
  subst el e2
  refine thn (po_none.run pins s2 σ H2 (fun o H3 => o = none ∧ H3 = H2) I2 ⟨rfl, rfl⟩) fun vu s3 ⟨u, H3, I3, pu, eu, e3⟩ => ?_
  subst eu e3
  refine thn (hst.run pins s3 σ H3 (fun o H4 => o = some (-1) ∧ H4 = H3) I3 ⟨1, rfl, -1, rfl, rfl, rfl⟩) fun vs s4 ⟨o, H4, I4, ps, eo, e4⟩ => ?_
  subst eo e4
  have I5 : Inv X pins σ H4 { s4 with heap := s4.heap.push { cls := .type "slice", data := .fields #[vl, vu, vs] } } := I4.kept (t' := s4.toks) fun b ob q => Heap.get?_push_of_some _ q
  have hfr := I5.hok.fresh (Nat.le_refl _)
  cases ev : vw M1 dx with
  | lst ds =>
    rw [ev] at h1
    obtain ⟨a, ws, rfl, hx, ra⟩ := vw_lst sr1 rx ev
    cases r1
    obtain ⟨its, r, ht, hz⟩ := I5.list (SqL.of hx)
    have hlen := r.length
    show wpAny (model X.prog X.w) X.A (subscriptTail x (.Slice none none (some (.UnaryOp .USub (.Constant (.int 1) kk p1) p2)) p3) (.ref a) (.ref s4.heap.objs.size)) (EP X pins σ Q) X.xe { s4 with heap := s4.heap.push { cls := .type "slice", data := .fields #[vl, vu, vs] } }
    refine tail_any (ops := [.ref a, .ref s4.heap.objs.size]) ht.isList.typeIs (PySem.slot_list_getitem.lookup) ?_ (by with_unfolding_all rfl)
    refine wpAny_getItem_list_slice ht.isList (Heap.IsSliceOf.new _ vl vu vs) pl pu ps (by decide) ?_ (by rw [List.size_toArray]; omega)
    rw [PySem.W.krv_pick]
    obtain ⟨sF, sr'⟩ := sr1.layF (o := .lst ws.reverse) hfr
    refine ⟨.ref _, _, I5.laid (t' := s4.toks) (o := .lst ws.reverse) (fun b ob q => Heap.get?_push_of_some _ q) (Nat.le_refl _) ?_, rfl, k _ _ ⟨_, M1, _, s1'.trans sF, sr', .lst upd_same (ra.rev.mono sF), h1⟩⟩
    exact ⟨by rw [List.length_reverse]; exact hz, _, 0, r.reverse, Heap.get?_push_size _ rfl⟩
  | tup ds =>
    rw [ev] at h1
    obtain ⟨a, ws, rfl, hx, ra⟩ := vw_tup rx ev
    cases r1
    obtain ⟨its, r, ht, hz⟩ := I5.tuple (SqT.mono sr1.f hx.sqt)
    have hlen := r.length
    cases pl
    cases pu
    obtain ⟨tk, rfl⟩ : ∃ tk, vs = .int (-1) tk := by cases ps; exact ⟨_, rfl⟩
    show wpAny (model X.prog X.w) X.A (subscriptTail x (.Slice none none (some (.UnaryOp .USub (.Constant (.int 1) kk p1) p2)) p3) (.ref a) (.ref s4.heap.objs.size)) (EP X pins σ Q) X.xe { s4 with heap := s4.heap.push { cls := .type "slice", data := .fields #[.none, .none, .int (-1) tk] } }
    refine tail_any (ops := [.ref a, .ref s4.heap.objs.size]) ht.typeIs (PyProof.Rows.slot_tuple_getitem.lookup) ?_ (by with_unfolding_all rfl)
    refine getItem_tuple_rev ht (Heap.IsSliceOf.new _ .none .none (.int (-1) tk)) ?_ (by omega)
    exact newTup (t' := s4.toks) sr1 I5 r.reverse ra.rev (by rw [List.length_reverse]; exact hz) h1 (tD_then s1' k)
  | _ => rw [ev] at h1; exact h1.elim
end
end T
set_option Elab.async false
set_option linter.all false
set_option maxRecDepth 100000
set_option maxHeartbeats 4000000
namespace T
open PySem PySem.Spec PyProof.Rows L2 HT
section
variable {P : Program} {w : World} {A : Around} {E : Value → Shared → Prop}
/-- the empty set, new -/
def emp (w : World) : Obj where
  cls := .type "set"
  dict := none
  data := .set #[] 0 (.fresh 0 0 (!w.params.followText "set-order"))
/-- what a new set's filling leaves -/
def Fill (w : World) (s : Shared) (S : Addr) (ns : List Int) (r : Value) (s2 : Shared) : Prop :=
  r = .none ∧ ∃ h' tk c, s2 = { s with heap := h', toks := tk } ∧ SetR w h' S (fun j => decide (j ∈ ns)) c ∧ c ≤ ns.length ∧
    ∀ b o, b ≠ S → s.heap.get? b = some o → h'.get? b = some o
set_option maxHeartbeats 8000000 in
theorem fill_list {R : PySem.Fin → Shared → Prop} {s : Shared} {S l : Addr} {items : Array Value} (ns : List Int) (hh : A.handled = none) (hS : s.heap.get? S = some (emp w)) (hl : s.heap.IsList l items) (hit : IntsAre items.toList ns) (hb : ns.length + 1 < scanBound) (hq : ∀ s2, Fill w s S ns .none s2 → R (.done (.ret .none)) s2) :
    wpAny (model P w) A (Builtin.«set.__init__» ⟨[.ref S, .ref l], []⟩) R E s := by
  have hz : items.size = ns.length := by
    have := IntsAre.length hit
    simpa using this
  have hl0 := hl
  have hne : S ≠ l := by
    rintro rfl
    obtain ⟨o, e, c, _⟩ := hl
    rw [hS] at e
    cases e
    exact nomatch (show (Value.type "set") = Value.type "list" from c)
  obtain ⟨⟨cl, dc, dt, so⟩, e, c, m, d⟩ := hl
  simp only at c d
  subst c d
  have g1 := PySem.F.sub_list_set
  have g2 := PySem.F.sub_list_frozenset
  have g3 : (Value.type "list" == Value.type "dict") = false := by decide
  have lS : S < s.heap.objs.size := Heap.lt_size hS
  have ll : l < s.heap.objs.size := Heap.lt_size e
  unfold Builtin.«set.__init__» noKeywords Builtin.Frozenset.updateFrom
  generalize hI : pyIter = I
  wp_walk
  subst hI
  refine wpAny_pyIter_list hl0 (wpAny_bind (wpAny_runValue ?_))
  have nl : l ≠ s.heap.objs.size := Nat.ne_of_lt ll
  have nS : S ≠ s.heap.objs.size := Nat.ne_of_lt lS
  have W := Walks.list (prog := P) (w := w) (A := A.in1) (by simp [hh]) s.heap.objs.size l nl items
  refine set_update_ints W.toS S (by simp [nS, hne]) ns hz hb (fun i v q => ?val) items.size 0 _ (by omega) (by omega) ?st ?new fun s2 c2 mv hc hR => ?_
  case st => exact ⟨⟨_, Heap.get?_push_size _ rfl, rfl, rfl⟩, hl0.push _⟩
  case new => exact ⟨0, Nat.le_refl 0, setR_new_at (Heap.get?_push_of_some _ hS)⟩
  case val =>
    have q' : items.toList[i]? = some v := by rw [Array.getElem?_toList]; exact q
    have hi : i < ns.length := by
      have := (Array.getElem?_eq_some_iff.mp q).1
      omega
    obtain ⟨t, ht⟩ := PyProof.Rows.IntsAre.int_at hit i v q'
    have e2 : ns[i]? = some ns[i] := List.getElem?_eq_getElem hi
    refine ⟨ns[i], t, e2, ?_⟩
    rw [ht, List.getD_eq_getElem?_getD, e2, Option.getD_some]
  obtain ⟨h2, gg, dr, tk, os⟩ := s2
  have q1 : gg = s.gens := mv.gens
  have q2 : dr = s.drawn := mv.drawn
  have q3 : os = s.os := mv.os
  subst q1 q2 q3
  show wpAny _ _ (pure ()) _ _ _
  refine wpAny_pure ?_
  show wpAny _ _ (ret Value.none) _ _ _
  refine wpAny_pure (hq _ ⟨rfl, h2, tk, c2, rfl, hR, by omega, fun b o nb hbo => ?_⟩)
  have bb : b ≠ s.heap.objs.size := Nat.ne_of_lt (Heap.lt_size hbo)
  exact mv.heap b o (by simp [nb, bb]) (Heap.get?_push_of_some _ hbo)
set_option maxHeartbeats 8000000 in
theorem call_listR {s : Shared} {l : Addr} {items : Array Value} (ns : List Int) {Q : Value → Shared → Prop} (hh : A.handled = none) (hl : s.heap.IsList l items) (hit : IntsAre items.toList ns) (hb : ns.length + 1 < scanBound)
    (h : ∀ (h' : Heap) (tk c : Nat), SetR w h' s.heap.objs.size (fun j => decide (j ∈ ns)) c → c ≤ ns.length → (∀ b o, s.heap.get? b = some o → h'.get? b = some o) → Q (.ref s.heap.objs.size) { s with heap := h', toks := tk }) :
    wpAny (model P w) A (call (.type "set") [.ref l]) Q E s := by
  obtain ⟨c, tl, mr⟩ := PySem.F.called_set.mro
  have f1 := PySem.F.called_set.made
  have f2 := PySem.F.called_set.sub
  have f3 := PySem.F.called_set.notType
  have f4 := PySem.F.called_set.canCreate
  have f5 := PySem.F.typeCall_set_1 (.ref l)
  refine wpAny_call (codeAny_of_tree ?_)
  show wpAny _ _ (callAny (.type "set") _) _ _ _
  refine wpAny_pure ⟨Code.quiet_builtin _ (by decide +kernel), codeAny_builtin PySem.F.entry_type_call ?_⟩
  rw [Around.under_plain (weight_type_call_type "set" [.ref l] []) rfl]
  repeat (any_goals (first | assumption | wp_step))
  refine codeAny_mono (code_set_led1 (.ref l) (E := E) (Q₁ := fun o s1 => o = .ref s.heap.objs.size ∧ s1 = { s with heap := s.heap.push (emp w) }) ⟨rfl, rfl⟩) fun r s1 hr => ?_
  match r, hr with
  | .error _, hr => exact hr
  | .ok (.ret _), ⟨e1, e2⟩ =>
    subst e1 e2
    have hS : (s.heap.push (emp w)).get? s.heap.objs.size = some (emp w) := Heap.get?_push_size _ rfl
    have hT : Shared.TypeIs { s with heap := s.heap.push (emp w) } (.ref s.heap.objs.size) "set" := ⟨_, hS, rfl⟩
    have f6 := PySem.F.called_set.init.lookup
    have f7 := PySem.F.called_set.init.bind (.ref s.heap.objs.size)
    repeat (any_goals (first | assumption | wp_step))
    refine codeAny_mono (codeAny_call_builtin (R := wants (Fill w { s with heap := s.heap.push (emp w) } s.heap.objs.size ns) E) PySem.F.called_set.init.plain PySem.F.entry_set_init (check_set_init_1 hT ?_)) fun r s2 hr => ?_
    · exact fill_list ns (by simp [hh]) hS (hl.push _) hit hb fun s2 q => q
    match r, hr with
    | .error _, hr => exact hr
    | .ok (.ret _), ⟨e1, h', tk, c, e2, hR, hc, hk⟩ =>
      subst e1 e2
      repeat (any_goals (first | assumption | wp_step))
      exact h h' tk c hR hc fun b o q => hk b o (Nat.ne_of_lt (Heap.lt_size q)) (Heap.get?_push_of_some _ q)
end
theorem set_of {X : Cx} {A : Around} {E : Value → Shared → Prop} {pins : List (Addr × Obj)} {σ : L2.St} {F Z H : Hp} {M : MH} {s : Shared} {v : Value} {x : V} {d : D} {xs : List D} {is : List Int} {Q : Value → Shared → Prop} (hd : A.handled = none) (I : Inv X pins σ H s) (sr : SR X.K F M Z H) (rd : Rep X.K F x d) (rv : RelV x v)
    (e : vw M d = .lst xs ∨ vw M d = .tup xs) (q : ints? xs = some is) (hb : is.length + 1 < scanBound)
    (h : ∀ (h' : Heap) (tk c : Nat), SetR X.w h' s.heap.objs.size (fun j => decide (j ∈ is)) c → c ≤ is.length → (∀ b o, s.heap.get? b = some o → h'.get? b = some o) → Q (.ref s.heap.objs.size) { s with heap := h', toks := tk }) :
    wpAny (model X.prog X.w) A (call (.type "set") [v]) Q E s := by
  have e2 := ints_of q
  subst e2
  rcases e with e | e
  · obtain ⟨a, vs, rfl, ha, ra⟩ := vw_lst sr rd e
    cases rv
    rw [RepA.toInts ra] at ha
    obtain ⟨its, r, pl, hz⟩ := I.list (SqL.of ha)
    have hi := r.ints
    obtain ⟨o, n, po, pc, _, pd⟩ := pl
    exact call_listR is hd ⟨o, po, pc, n, pd⟩ (by simpa using hi) hb h
  · obtain ⟨a, vs, rfl, ha, ra⟩ := vw_tup rd e
    cases rv
    rw [RepA.toInts ra] at ha
    obtain ⟨its, r, pl, hz⟩ := I.tuple (SqT.mono sr.f ha.sqt)
    have hi := r.ints
    exact call_set_tupI is hd (show s.heap.IsTuple a its.toArray from pl) (by simpa using hi) hb h
end T
set_option Elab.async false
set_option linter.all false
set_option maxRecDepth 100000
set_option maxHeartbeats 4000000
namespace T
open PySem PySem.Spec PyProof.Rows L2 HT
section
variable {X : Cx}
/-- a list of ints, read -/
theorem ints_at {K : PySem.W.Frag} {F Z H : Hp} {M : MH} {v : V} {d : D} {xs : List D} {is : List Int} (sr : SR K F M Z H) (rv : Rep K F v d) (e : vw M d = .lst xs) (q : ints? xs = some is) : ∃ a, v = .ref a ∧ SqL K H a (is.map V.int) := by
  obtain ⟨a, vs, rfl, ha, ra⟩ := vw_lst sr rv e
  have e2 := ints_of q
  subst e2
  rw [RepA.toInts ra] at ha
  exact ⟨a, rfl, SqL.of ha⟩
theorem cb_sum (hc : X.calm = true) (m : Bool) : CallR X (.builtin "sum") (rBiD X m .sum) := by
  intro pins s σ H xs us Q I r h
  obtain ⟨F, M, Z, ds, Q', sr, ra, h, k⟩ := h
  match ds, h with
  | [d], h =>
    obtain ⟨v, rfl, rv⟩ := ra.one
    simp only [biD] at h
    split at h
    case h_2 => exact h.elim
    rename_i xs e
    split at h
    case h_2 => exact h.elim
    rename_i is q
    obtain ⟨a, rfl, ha⟩ := ints_at sr rv e q
    exact cr_sum hc pins s σ H _ us Q I r ⟨a, is, rfl, ha, k _ _ (.of sr (.int _) h)⟩
theorem cb_min1 (hc : X.calm = true) (m : Bool) : CallR X (.builtin "min") (rBiD X m .min1) := by
  intro pins s σ H xs us Q I r h
  obtain ⟨F, M, Z, ds, Q', sr, ra, h, k⟩ := h
  match ds, h with
  | [d], h =>
    obtain ⟨v, rfl, rv⟩ := ra.one
    simp only [biD] at h
    split at h
    case h_2 => exact h.elim
    rename_i xs e
    split at h
    case h_2 => exact h.elim
    rename_i is q
    obtain ⟨a, rfl, ha⟩ := ints_at sr rv e q
    exact cr_min hc pins s σ H _ us Q I r ⟨a, is, rfl, ha, h.1, fun m hm hle => k _ _ (.of sr (.int _) (h.2 m hm hle))⟩
theorem cb_max1 (hc : X.calm = true) (m : Bool) : CallR X (.builtin "max") (rBiD X m .max1) := by
  intro pins s σ H xs us Q I r h
  obtain ⟨F, M, Z, ds, Q', sr, ra, h, k⟩ := h
  match ds, h with
  | [d], h =>
    obtain ⟨v, rfl, rv⟩ := ra.one
    simp only [biD] at h
    split at h
    case h_2 => exact h.elim
    rename_i xs e
    split at h
    case h_2 => exact h.elim
    rename_i is q
    obtain ⟨a, rfl, ha⟩ := ints_at sr rv e q
    exact cr_max hc pins s σ H _ us Q I r ⟨a, is, rfl, ha, h.1, fun m hm hle => k _ _ (.of sr (.int _) (h.2 m hm hle))⟩
theorem cb_min2 (hc : X.calm = true) (m : Bool) : CallR X (.builtin "min") (rBiD X m .min2) := by
  intro pins s σ H xs us Q I r h
  obtain ⟨F, M, Z, ds, Q', sr, ra, h, k⟩ := h
  match ds, h with
  | [.int i, .int j], h =>
    obtain ⟨v, w, rfl, rv, rw'⟩ := ra.two
    cases rv
    cases rw'
    exact call_min2 hc pins s σ H _ us Q I r ⟨i, j, rfl, k _ _ (.of sr (.int _) h)⟩
theorem cb_max2 (hc : X.calm = true) (m : Bool) : CallR X (.builtin "max") (rBiD X m .max2) := by
  intro pins s σ H xs us Q I r h
  obtain ⟨F, M, Z, ds, Q', sr, ra, h, k⟩ := h
  match ds, h with
  | [.int i, .int j], h =>
    obtain ⟨v, w, rfl, rv, rw'⟩ := ra.two
    cases rv
    cases rw'
    exact call_max2 hc pins s σ H _ us Q I r ⟨i, j, rfl, k _ _ (.of sr (.int _) h)⟩
end
section
variable {P : Nat → Option Fn} {G : Nat → Option D} {tb : Tb} {n : Nat} {e0 : Option (Addr × Xc)} {N : List Str} {sc : Scope} {X : Cx} {R : Xc → MH → Prop} {C : SC}
variable {x : Expr} {e : Ex} {pos : Pos}
/-- tuple(range(n)) -/
theorem je_trg (c : CK P G tb n e0 N sc X) (hh : tb.hot = false) {m : Bool} {p q pos2 : Pos} (hg : glB sc "tuple" = true) (hg2 : glB sc "range" = true) (hs : noStar x = true) (ha : PE X x (tD X tb C R (wpE C R e))) :
    PE X (.Call (.Name "tuple" p) [.Call (.Name "range" q) [x] [] pos2] [] pos) (tD X tb C R (wpE C R (.bi m .tuprange (.cons e .nil)))) := by
  have hr := prg_1 (p := q) (pos := pos2) (c.gl hg2) (c.blt _ (by decide)) ha (star_of hs)
  refine ⟨fun pins s σ H Q I h => ?_⟩
  obtain ⟨F, M, Z, ρ, Q', sr, re, hw, k⟩ := h
  simp only [wpE, wpEs] at hw
  refine Call_ (ld_blt I (c.gl hg) (c.blt _ (by decide)) boot_tuple (PyProof.Rows.callWith_type1 (args_cons (thn (hr pins s σ H (fun a b H1 => a = 0 ∧ RgOk a b ∧ ∃ F1 M1, Same F F1 ∧ SR X.K F1 M1 Z H1 ∧ Q' (.tup ((List.range b.toNat).map fun i : Nat => .int i)) M1) I ?_) fun x s1 ⟨r, a, b, t, u, v, H1, ex, hr, I1, e0, ok, q1⟩ => args_nil ?_) rfl) rfl))
  · refine ⟨F, M, Z, ρ, _, sr, re, hw, fun v H1 ⟨F1, M1, dx, s1, sr1, rx, h1⟩ => ?_⟩
    cases dx <;> first
      | exact h1.elim
      | skip
    cases rx
    obtain ⟨⟨hz0, hz⟩, h1⟩ := h1
    have hsz := sizeLine_eq
    exact ⟨_, rfl, rfl, ⟨by omega, by omega, by omega, by omega, by omega⟩, F1, M1, s1, sr1, h1⟩
  subst ex e0
  obtain ⟨b1, b2, b3, b4, b5⟩ := ok
  obtain ⟨F1, M1, s1', sr1, h1⟩ := q1
  refine call_tuple_range (n := (b - 0).toNat) (I1.ok.hd (c.calm hh)) hr (small_one b1 b2 b3 b4) (rangeSize_nat 0 b) b5 fun h' tk acc hk hi => ?_
  have I2 : Inv X pins σ H1 { s1 with heap := h', toks := tk } := I1.kept hk
  have ra : RepA X.K F1 (rgV 0 b) ((List.range b.toNat).map fun i : Nat => .int i) := by
    rw [rgV_nat]
    exact rep_range (fun i => (i : Int)) _
  have fin := newTup (X := X) (t' := tk) sr1 I2 (vals_rg hi) ra (by rw [rgV_length, sizeLine_eq]; omega) h1 (tD_then s1' k)
  rw [Array.toArray_toList] at fin
  exact fin
/-- sorted(set(x)), x a tuple of ints -/
theorem je_sset (c : CK P G tb n e0 N sc X) (hh : tb.hot = false) {m : Bool} {p q pos2 : Pos} (hg : glB sc "sorted" = true) (hg2 : glB sc "set" = true) (hs : noStar x = true) (ha : PE X x (tD X tb C R (wpE C R e))) :
    PE X (.Call (.Name "sorted" p) [.Call (.Name "set" q) [x] [] pos2] [] pos) (tD X tb C R (wpE C R (.bi m .sortedset (.cons e .nil)))) := by
  refine ⟨fun pins s σ H Q I h => ?_⟩
  obtain ⟨F, M, Z, ρ, Q', sr, re, hw, k⟩ := h
  simp only [wpE, wpEs] at hw
  refine Call_ (ld_blt I (c.gl hg) (c.blt _ (by decide)) (show bootBuiltins "sorted" = some (.builtin "sorted") by decide +kernel) ?_)
  refine PyProof.Rows.callWith_builtin1 (PyProof.Rows.args_cons ?_ rfl) rfl rfl
  refine Call_ (ld_blt I (c.gl hg2) (c.blt _ (by decide)) PyProof.Rows.boot_set ?_)
  refine PyProof.Rows.callWith_type1 (PyProof.Rows.args_cons (thn (ha.run pins s σ H _ I ⟨F, M, Z, ρ, _, sr, re, hw, fun v H1 q => q⟩) fun v s1 ⟨vx, H1, I1, r1, F1, M1, d, s1', sr1, rd, h1⟩ => PyProof.Rows.args_nil ?_) (star_of hs)) (star_of hs) rfl
  simp only [biD] at h1
  obtain ⟨xs, e, h1⟩ := seq_inv h1
  split at h1
  case h_2 => exact h1.elim
  rename_i is qq
  obtain ⟨h64, h1⟩ := h1
  refine set_of (I1.ok.hd (c.calm hh)) I1 sr1 rd r1 e qq (by unfold scanBound; omega) fun h' tk cc hS hle hk => PyProof.Rows.args_nil ?_
  have I2 : Inv X pins σ H1 { s1 with heap := h', toks := tk } := I1.kept hk
  refine sorted_set hS (I1.ok.hd (c.calm hh)) (by omega) fun s' p' out cnt ns hk2 hg' ho hp ho' hints hpw hmem hn => ?_
  have hnz : (ns.map V.int).length ≤ sizeLine := by rw [List.length_map, hn, sizeLine_eq]; omega
  have hfr : H1 p' = none := I2.hok.fresh hp
  have J : Inv X pins σ (upd H1 p' (.lst (ns.map V.int))) { ({ s1 with heap := h', toks := tk } : Shared) with heap := s'.heap, gens := s'.gens, drawn := s'.drawn, toks := s'.toks } :=
    I2.call (ch := []) (Un.laid hk2 hp hfr) (I2.hok.laid hk2 hp ⟨hnz, out.toList, cnt, vals_of_ints hints, ho'⟩) (by rw [hg']; exact I2.bare) (fun _ z => nomatch z)
  have es : s' = { ({ s1 with heap := h', toks := tk } : Shared) with heap := s'.heap, gens := s'.gens, drawn := s'.drawn, toks := s'.toks } := by
    cases s'
    cases s1
    cases ho
    rfl
  rw [es]
  exact ⟨.ref p', _, J, rfl, k _ _ ((mkL_new sr1 (RepA.ints ns) hfr (h1 ns hpw fun y => by rw [hmem]; simp)).back s1')⟩
/-- len(set(x)), x a tuple of ints -/
theorem je_lset (c : CK P G tb n e0 N sc X) (hh : tb.hot = false) {m : Bool} {p q pos2 : Pos} (hg : glB sc "len" = true) (hg2 : glB sc "set" = true) (hs : noStar x = true) (ha : PE X x (tD X tb C R (wpE C R e))) :
    PE X (.Call (.Name "len" p) [.Call (.Name "set" q) [x] [] pos2] [] pos) (tD X tb C R (wpE C R (.bi m .lenset (.cons e .nil)))) := by
  refine ⟨fun pins s σ H Q I h => ?_⟩
  obtain ⟨F, M, Z, ρ, Q', sr, re, hw, k⟩ := h
  simp only [wpE, wpEs] at hw
  refine Call_ (ld_blt I (c.gl hg) (c.blt _ (by decide)) PySem.boot_len ?_)
  refine PyProof.Rows.callWith_builtin1 (PyProof.Rows.args_cons ?_ rfl) rfl rfl
  refine Call_ (ld_blt I (c.gl hg2) (c.blt _ (by decide)) PyProof.Rows.boot_set ?_)
  refine PyProof.Rows.callWith_type1 (PyProof.Rows.args_cons (thn (ha.run pins s σ H _ I ⟨F, M, Z, ρ, _, sr, re, hw, fun v H1 q => q⟩) fun v s1 ⟨vx, H1, I1, r1, F1, M1, d, s1', sr1, rd, h1⟩ => PyProof.Rows.args_nil ?_) (star_of hs)) (star_of hs) rfl
  simp only [biD] at h1
  obtain ⟨xs, e, h1⟩ := seq_inv h1
  split at h1
  case h_2 => exact h1.elim
  rename_i is qq
  obtain ⟨h4, h1⟩ := h1
  refine set_of (I1.ok.hd (c.calm hh)) I1 sr1 rd r1 e qq (by unfold scanBound; omega) fun h' tk cc hS hle hk => PyProof.Rows.args_nil ?_
  have I2 : Inv X pins σ H1 { s1 with heap := h', toks := tk } := I1.kept hk
  obtain ⟨o, es, ep, t, ho, hex, hd, hgd, hnd, hmem, _, hf, hn, _, _⟩ := hS
  refine call_len_set ho hex hd hf (by rw [hn]; omega) ⟨.int cc, H1, I2.tok _, ⟨_, by rw [hn]⟩, k _ _ ⟨F1, M1, .int ((cc : Nat) : Int), s1', sr1, .int _, ?_⟩⟩
  have e3 := h1 (es.toList.map keyOf) hnd fun y => by rw [← hmem]; simp
  rw [List.length_map, Array.length_toList, hn] at e3
  exact e3
end
end T
set_option Elab.async false
set_option linter.all false
set_option maxRecDepth 100000
set_option maxHeartbeats 4000000
namespace T
open PySem PySem.Spec PyProof.Rows L2 HT
section
variable {X : Cx} {pins : List (Addr × Obj)} {σ : L2.St} {H : Hp} {s : Shared}
theorem inv_nsm (I : Inv X pins σ H s) (hsm : X.base.get? sysModules ≠ none) {a : Addr} {o : HO} (h : H a = some o) : a ≠ sysModules := fun e => by
  subst e
  cases q : X.base.get? sysModules with
  | none => exact hsm q
  | some b =>
    have := (I.bs _ b q).2
    rw [h] at this; cases this
theorem dct_none {ks : List Ky} {vs : List D} (h : D.shw (.dct ks vs) = true) : ks = [] ∧ vs = [] := by
  cases ks <;> cases vs <;> simp [D.shw] at h <;> exact ⟨rfl, rfl⟩
mutual
theorem Rep.reads (I : Inv X pins σ H s) (hsm : X.base.get? sysModules ≠ none) : ∀ (d : D) (v : V) (u : Value), Rep X.K H v d → d.shw = true → RelV v u → ∃ as, Reads s.heap u d.toP as ∧ sysModules ∉ as
  | .non, _, _, h, _, r => by
    cases h; cases r
    exact ⟨_, by simp only [D.toP]; exact Reads.none, by simp⟩
  | .bl b, _, _, h, _, r => by
    cases h; cases r
    exact ⟨_, by simp only [D.toP]; exact Reads.bool b, by simp⟩
  | .int i, _, _, h, _, r => by
    cases h
    obtain ⟨t, rfl⟩ := r
    exact ⟨_, by simp only [D.toP]; exact Reads.int i t, by simp⟩
  | .str x, _, _, h, _, r => by
    cases h
    obtain ⟨t, rfl⟩ := r
    exact ⟨_, by simp only [D.toP]; exact Reads.str x t, by simp⟩
  | .lst ds, _, _, h, p, r => by
    cases h with
    | lst hs ha =>
      cases r
      obtain ⟨its, rv, ⟨o, n, ho, hc, _, hd⟩, _⟩ := I.list (SqL.of hs)
      obtain ⟨as, hr, hn⟩ := Rep.readsAll I hsm ds _ its ha (by simpa only [D.shw] using p) rv
      refine ⟨_, by simp only [D.toP]; exact Reads.list ho hc hd hr, ?_⟩
      simp only [List.mem_cons, not_or]
      exact ⟨Ne.symm (inv_nsm I hsm hs), hn⟩
  | .tup ds, _, _, h, p, r => by
    cases h with
    | tup hs ha =>
      cases r
      obtain ⟨its, rv, ⟨o, ho, hc, n, hd⟩, _⟩ := I.tuple hs.sqt
      obtain ⟨as, hr, hn⟩ := Rep.readsAll I hsm ds _ its ha (by simpa only [D.shw] using p) rv
      exact ⟨_, by simp only [D.toP]; exact Reads.tuple ho hc hd hr, hn⟩
  | .dct ks vs, v, u, h, p, r => by
    obtain ⟨rfl, rfl⟩ := dct_none p
    have e : D.toP (.dct [] []) = .dict [] := rfl
    rw [e]
    generalize hk : ([] : List Ky) = ks0 at h
    generalize hv : ([] : List D) = vs0 at h
    cases h with
    | @dK a kvs ds hs ha =>
      cases kvs with
      | cons => simp at hk
      | nil =>
        cases r
        obtain ⟨_, hS, ws, rr, o, es, ep, ho, ⟨hc, _⟩, hd, _, hp, _⟩ : ([] : List (Key × V)).length ≤ sizeLine ∧ (a == sysModules) = false ∧ ∃ vs, KV [] vs ∧ s.heap.DictOf (mixKind X.prog X.w) a vs := I.hok _ _ hs
        cases rr
        have hes : es.toList = [] := by
          cases hq : es.toList with
          | nil => rfl
          | cons y ys => rw [hq] at hp; cases hp
        refine ⟨_, Reads.dict (as := []) (bs := []) ho hc hd (by rw [hes]; exact .nil) (by rw [hes]; exact .nil), ?_⟩
        simp only [List.append_nil, List.mem_cons, List.not_mem_nil, or_false]
        exact Ne.symm (inv_nsm I hsm hs)
    | @dT a kvs ds hs ha =>
      cases kvs with
      | cons => simp at hk
      | nil =>
        cases r
        obtain ⟨_, hS, ws, rr, o, es, ep, ho, ⟨hc, _⟩, hd, hp, _⟩ : ([] : List (List Key × V)).length ≤ sizeLine ∧ (a == sysModules) = false ∧ ∃ xs : List (List Key × Addr × Value), Paired _ [] xs ∧ _ := I.hok _ _ hs
        cases rr
        have hes : es.toList = [] := by simpa using hp
        refine ⟨_, Reads.dict (as := []) (bs := []) ho hc hd (by rw [hes]; exact .nil) (by rw [hes]; exact .nil), ?_⟩
        simp only [List.append_nil, List.mem_cons, List.not_mem_nil, or_false]
        exact Ne.symm (inv_nsm I hsm hs)
  | .ref _, _, _, _, p, _ => by simp [D.shw] at p
  | .scr _, _, _, _, p, _ => by simp [D.shw] at p
theorem Rep.readsAll (I : Inv X pins σ H s) (hsm : X.base.get? sysModules ≠ none) : ∀ (ds : List D) (vs : List V) (us : List Value), RepA X.K H vs ds → shws ds = true → Vals vs us → ∃ as, ReadsAll s.heap us (toPs ds) as ∧ sysModules ∉ as
  | [], _, _, h, _, r => by
    cases h; cases r
    exact ⟨_, by simp only [toPs]; exact ReadsAll.nil, by simp⟩
  | d :: ds, _, _, h, p, r => by
    simp only [shws, Bool.and_eq_true] at p
    cases h with
    | cons h1 h2 =>
      cases r with
      | cons r1 r2 =>
        obtain ⟨as, q1, n1⟩ := Rep.reads I hsm d _ _ h1 p.1 r1
        obtain ⟨bs, q2, n2⟩ := Rep.readsAll I hsm ds _ _ h2 p.2 r2
        exact ⟨_, by simp only [toPs]; exact ReadsAll.cons q1 q2, by simp [n1, n2]⟩
end
/-- what stands at a value, as data -/
theorem vw_rep {K : PySem.W.Frag} {F Z H : Hp} {M : MH} {v : V} {d : D} (sr : SR K F M Z H) (r : Rep K F v d) : Rep K H v (vw M d) := by
  cases d with
  | ref a =>
    obtain rfl : v = .ref a := by cases r; rfl
    simp only [vw]
    cases q : M a with
    | none => exact .ref a
    | some c =>
      obtain ⟨_, _, o, h1, h2⟩ := sr.m a _ q
      cases h2 with
      | lst r => exact .lst h1 (r.mono sr.f)
      | dK r => exact .dK h1 (r.mono sr.f)
      | dT r => exact .dT h1 (r.mono sr.f)
      | dt r => exact .ref a
  | _ => exact r.mono sr.f
theorem cb_repr (hg : X.A.guards = some []) (hu : X.A.units + 65 < cLine) (hsm : X.base.get? sysModules ≠ none) (m : Bool) : CallR X (.builtin "repr") (rBiD X m .repr) := by
  intro pins s σ H xs us Q I r h
  obtain ⟨F, M, Z, ds, Q', sr, ra, h, k⟩ := h
  match ds, h with
  | [x], ⟨⟨h1, h2, h3, h4⟩, h⟩ =>
    obtain ⟨v, rfl, rv⟩ := ra.one
    obtain ⟨u, rfl, r1⟩ := vals1 r
    have rep := vw_rep sr rv
    obtain ⟨as, rd, hn⟩ := Rep.reads I hsm _ _ _ rep h1 r1
    have fin : ∀ h' t tk, (∀ b o, s.heap.get? b = some o → h'.get? b = some o) → EP X pins σ Q (.str (vw M x).toP.shown t) { s with heap := h', toks := tk } := fun h' t tk hk =>
      ⟨.str _, H, I.kept hk, ⟨t, rfl⟩, k _ _ (.of sr (.str _) h)⟩
    have ref : ∀ a, u = .ref a → wpAny (model X.prog X.w) X.A (call (.builtin "repr") [u]) (EP X pins σ Q) X.xe s := fun a e => by
      subst e
      exact PySem.repr_of_reads' rd h2 (fun _ => hn) hg (by omega) (fun _ _ e => e) fin h4
    generalize vw M x = d at *
    cases d with
    | non =>
      cases rep; cases r1
      exact PySem.P.repr_of_none (fin s.heap _ _ fun _ _ e => e)
    | bl b =>
      cases rep; cases r1
      exact PySem.P.repr_of_bool (fin s.heap _ _ fun _ _ e => e)
    | int i =>
      cases rep
      obtain ⟨t, rfl⟩ := r1
      exact PySem.P.repr_of_int (by simpa [D.toP, PyData.showable] using h2) (fin s.heap _ _ fun _ _ e => e)
    | str y =>
      cases rep
      obtain ⟨t, rfl⟩ := r1
      exact PySem.P.repr_of_str (fin s.heap _ _ fun _ _ e => e) h4
    | lst ps =>
      cases rep
      exact ref _ r1
    | tup ps =>
      cases rep
      exact ref _ r1
    | dct ks vs =>
      cases rep <;> exact ref _ r1
    | ref _ => simp [D.shw] at h1
    | scr _ => simp [D.shw] at h1
end
end T
set_option Elab.async false
set_option linter.all false
set_option maxRecDepth 100000
set_option maxHeartbeats 4000000
namespace T
open PySem PySem.Spec PyProof.Rows L2 HT
abbrev LK (P : Program) (w : World) := tupleKind (leafKind P w)
theorem num_inj : ∀ {a b : List Int}, a.map Leaf.num = b.map Leaf.num → a = b
  | [], [], _ => rfl
  | [], _ :: _, h => by simp at h
  | _ :: _, [], h => by simp at h
  | x :: a, y :: b, h => by
    simp only [List.map_cons, List.cons.injEq, Leaf.num.injEq] at h
    rw [h.1, num_inj h.2]
theorem keyN_inv {kd : D} {ks : List Int} (h : keyN kd = some ks) : ∃ xs, kd = .tup xs ∧ numsN xs = some ks := by
  cases kd <;> first
    | cases h
    | exact ⟨_, rfl, h⟩
theorem items_num {P : Program} {w : World} {K : PySem.W.Frag} {F : Hp} : ∀ {xs : List D} {ks : List Int} {vs : List V} {us : List Value}, numsN xs = some ks → RepA K F vs xs → Vals vs us → ItemsAre (leafKind P w) (ks.map Leaf.num) us
  | [], ks, vs, us, h, r, rv => by
    simp only [numsN, Option.some.injEq] at h
    subst h
    cases r
    cases rv
    exact .nil
  | d :: xs, ks, vs, us, h, r, rv => by
    cases r with
    | cons r1 r2 =>
    cases rv with
    | cons e1 e2 =>
    have hd : (∃ b, d = .bl b) ∨ ∃ i, d = .int i := by
      cases d <;> first
        | exact .inl ⟨_, rfl⟩
        | exact .inr ⟨_, rfl⟩
        | cases h
    rcases hd with ⟨b, rfl⟩ | ⟨i, rfl⟩
    · simp only [numsN, Option.map_eq_some_iff] at h
      obtain ⟨l, hl, rfl⟩ := h
      cases r1
      cases e1
      exact .cons (show decide ((if b = true then 1 else 0) = b2i b) = true by cases b <;> rfl) (items_num hl r2 e2)
    · simp only [numsN, Option.map_eq_some_iff] at h
      obtain ⟨l, hl, rfl⟩ := h
      cases r1
      obtain ⟨t, rfl⟩ := e1
      exact .cons (show decide (i = i) = true by simp) (items_num hl r2 e2)
section
variable {X : Cx} {F Z H : Hp} {M : MH} {pins : List (Addr × Obj)} {σ : L2.St} {s : Shared}
/-- a key's tuple -/
theorem key_is {x : V} {kd : D} {ks : List Int} (sr : SR X.K F M Z H) (I : Inv X pins σ H s) (r : Rep X.K F x kd) (h : keyN kd = some ks) : ∃ b, x = .ref b ∧ (LK X.prog X.w).is s.heap (ks.map Leaf.num) b := by
  obtain ⟨xs, rfl, hx⟩ := keyN_inv h
  cases r with
  | tup ht ra =>
    rename_i b vs
    obtain ⟨its, rv, ⟨o, ho, hc, n, hd⟩, _⟩ := I.tuple (SqT.mono sr.f ht.sqt)
    exact ⟨b, rfl, o, its.toArray, n, ho, hc, hd, items_num (us := its) hx ra rv⟩
/-- entries, as they stand -/
abbrev Ent := List (List Int × Addr × V)
abbrev EntV := List (List Leaf × Addr × Value)
def PrE (xs : Ent) (ys : EntV) : Prop := Paired (fun p q => q.1 = p.1.map Leaf.num ∧ q.2.1 = p.2.1 ∧ RelV p.2.2 q.2.2) xs ys
theorem PrE.len {xs : Ent} {ys : EntV} (h : PrE xs ys) : xs.length = ys.length := Paired.length h
/-- a dict cell -/
theorem cell_dt {a : Addr} {es : List (D × D)} {ep : Nat} (sr : SR X.K F M Z H) (I : Inv X pins σ H s) (q : M a = some (.dt es ep)) :
    ∃ xs ys, H a = some (dtO a xs ep) ∧ RepD X.K F es xs ∧ PrE xs ys ∧ (a == sysModules) = false ∧ es.length ≤ sizeLine ∧ ys.length = es.length ∧
      ∃ o as, s.heap.get? a = some o ∧ o.ExactDict ∧ o.data = .dict as ep ∧ as.toList = ys.map (entryOfKey (LK X.prog X.w)) ∧ (ys.map (·.1)).Nodup := by
  obtain ⟨_, _, o, hH, rc⟩ := sr.m a _ q
  cases rc with
  | dt rd =>
    rename_i xs
    obtain ⟨c1, c2, ys, c3, ob, as, e1, e2, e3, e4, e5⟩ := (I.hok a _ hH).1
    refine ⟨xs, ys, hH, rd, c3, c1, ?_, ?_, ob, as, e1, e2, e3, e4 _ _, e5⟩
    · rw [← rd.len]; exact c2
    · rw [← rd.len]; exact (PrE.len c3).symm
/-- its keys stand -/
theorem keys_is : ∀ {es : List (D × D)} {xs : Ent} {ys : EntV}, SR X.K F M Z H → Inv X pins σ H s → RepD X.K F es xs → PrE xs ys → ∀ y ∈ ys, (LK X.prog X.w).is s.heap y.1 y.2.1
  | _, _, _, sr, I, .nil, p => by
    intro y hy
    cases p
    simp at hy
  | _, _, _, sr, I, .cons h1 h2 h3 rd, p => by
    intro y hy
    cases p with
    | cons e pr =>
    rcases List.mem_cons.mp hy with rfl | hy
    · obtain ⟨b, eb, q⟩ := key_is sr I h2 h1
      cases eb
      rw [e.1, e.2.1]
      exact q
    · exact keys_is sr I rd pr y hy
theorem cell_dict {a : Addr} {es : List (D × D)} {ep : Nat} (sr : SR X.K F M Z H) (I : Inv X pins σ H s) (q : M a = some (.dt es ep)) :
    ∃ xs ys, H a = some (dtO a xs ep) ∧ RepD X.K F es xs ∧ PrE xs ys ∧ (a == sysModules) = false ∧ es.length ≤ sizeLine ∧ ys.length = es.length ∧ s.heap.DictOfH (LK X.prog X.w) a ys := by
  obtain ⟨xs, ys, h1, h2, h3, h4, h5, h6, o, as, e1, e2, e3, e4, e5⟩ := cell_dt sr I q
  exact ⟨xs, ys, h1, h2, h3, h4, h5, h6, o, as, ep, e1, e2, e3, e4, keys_is sr I h2 h3, e5⟩
/-- what stands at a key -/
theorem dt_find {K : PySem.W.Frag} (ks : List Int) : ∀ {es : List (D × D)} {xs : Ent} {ys : EntV}, RepD K F es xs → PrE xs ys →
    (dtGet es ks = none ∧ atKey ys (ks.map Leaf.num) = none) ∨ ∃ d b v u, dtGet es ks = some d ∧ atKey ys (ks.map Leaf.num) = some (b, u) ∧ RelV v u ∧ Rep K F v d
  | _, _, _, .nil, p => by
    cases p
    exact .inl ⟨rfl, rfl⟩
  | _, _, _, .cons (kd := kd) (vd := vd) (ks := k2) h1 h2 h3 rd, p => by
    cases p with
    | cons e pr =>
    rename_i q l2
    obtain ⟨q1, q2, q3⟩ := q
    obtain ⟨e1, e2, e3⟩ := e
    simp only at e1 e2 e3
    subst e1 e2
    by_cases hk : k2 = ks
    · subst hk
      refine .inr ⟨vd, q2, _, q3, ?_, ?_, e3, h3⟩
      · simp [dtGet, h1]
      · simp [atKey]
    · have c1 : ¬ keyN kd = some ks := fun z => hk (by rw [h1] at z; exact Option.some.inj z)
      have c2 : ¬ k2.map Leaf.num = ks.map Leaf.num := fun z => hk (num_inj z)
      rcases dt_find ks rd pr with ⟨a1, a2⟩ | ⟨d, b, v, u, a1, a2, a3, a4⟩
      · refine .inl ⟨?_, ?_⟩
        · simpa [dtGet, List.find?_cons, c1] using a1
        · simpa [atKey, List.find?_cons, c2] using a2
      · refine .inr ⟨d, b, v, u, ?_, ?_, a3, a4⟩
        · simpa [dtGet, List.find?_cons, c1] using a1
        · simpa [atKey, List.find?_cons, c2] using a2
def putX (k : List Int) (v : V) (x : List Int × Addr × V) : List Int × Addr × V := if x.1 = k then (x.1, x.2.1, v) else x
theorem rd_map {K : PySem.W.Frag} {k : List Int} {v : V} {vd : D} (rv : Rep K F v vd) : ∀ {es : List (D × D)} {xs : Ent}, RepD K F es xs → RepD K F (es.map fun e => if keyN e.1 = some k then (e.1, vd) else e) (xs.map (putX k v))
  | _, _, .nil => .nil
  | _, _, .cons (ks := k2) h1 h2 h3 rd => by
    simp only [List.map_cons]
    by_cases hk : k2 = k
    · subst hk
      rw [if_pos h1]
      unfold putX
      rw [if_pos rfl]
      exact .cons h1 h2 rv (rd_map rv rd)
    · have c1 : ¬ keyN _ = some k := fun z => hk (by rw [h1] at z; exact Option.some.inj z)
      rw [if_neg c1]
      unfold putX
      rw [if_neg hk]
      exact .cons h1 h2 h3 (rd_map rv rd)
theorem pr_map {k : List Int} {v : V} {u : Value} (e : RelV v u) : ∀ {xs : Ent} {ys : EntV}, PrE xs ys → PrE (xs.map (putX k v)) (ys.map (putAt (k.map Leaf.num) u))
  | _, _, .nil => .nil
  | _, _, .cons (a := x) (b := y) h pr => by
    simp only [List.map_cons]
    refine .cons ?_ (pr_map e pr)
    obtain ⟨h1, h2, h3⟩ := h
    unfold putX putAt
    by_cases hk : x.1 = k
    · rw [if_pos hk, if_pos (by rw [h1, hk])]
      exact ⟨h1, h2, e⟩
    · rw [if_neg hk, if_neg (fun z => hk (num_inj (by rw [← h1]; exact z)))]
      exact ⟨h1, h2, h3⟩
theorem rd_snoc {K : PySem.W.Frag} {k : List Int} {b : Addr} {v : V} {kd vd : D} (hk : keyN kd = some k) (rk : Rep K F (.ref b) kd) (rv : Rep K F v vd) : ∀ {es : List (D × D)} {xs : Ent}, RepD K F es xs → RepD K F (es ++ [(kd, vd)]) (xs ++ [(k, b, v)])
  | _, _, .nil => .cons hk rk rv .nil
  | _, _, .cons h1 h2 h3 rd => .cons h1 h2 h3 (rd_snoc hk rk rv rd)
/-- a store -/
theorem dt_put {K : PySem.W.Frag} {k : List Int} {b : Addr} {v : V} {u : Value} {kd vd : D} (hk : keyN kd = some k) (rk : Rep K F (.ref b) kd) (rv : Rep K F v vd) (e : RelV v u) {es : List (D × D)} {xs : Ent} {ys : EntV} (rd : RepD K F es xs) (pr : PrE xs ys) :
    ∃ xs', RepD K F (dtPut es kd k vd) xs' ∧ PrE xs' (storedH ys (k.map Leaf.num) b u) := by
  unfold dtPut storedH
  rcases dt_find k rd pr with ⟨a1, a2⟩ | ⟨d, b', v', u', a1, a2, _, _⟩
  · rw [a1, a2]
    exact ⟨_, rd_snoc hk rk rv rd, Paired.snoc pr ⟨rfl, rfl, e⟩⟩
  · rw [a1, a2]
    exact ⟨_, rd_map rv rd, pr_map e pr⟩
theorem len_dtPut (es : List (D × D)) (kd : D) (k : List Int) (vd : D) : (dtPut es kd k vd).length ≤ es.length + 1 := by
  unfold dtPut
  split <;> simp
/-- hashes of tuples of numbers hang on no program and no world -/
theorem hash_num (P P' : Program) (w w' : World) (ks : List Int) : (LK P w).hash (ks.map Leaf.num) = (LK P' w').hash (ks.map Leaf.num) := by
  have e1 : ∀ i : Int, (leafKind P w).hash (.num i) = (leafKind P' w').hash (.num i) := by
    intro i
    have h : NestedKey.hash w (.num i) = NestedKey.hash w' (.num i) := by simp only [NestedKey.hash]
    delta leafKind
    exact h
  have e : (ks.map Leaf.num).map (leafKind P w).hash = (ks.map Leaf.num).map (leafKind P' w').hash := by
    rw [List.map_map, List.map_map]
    exact List.map_congr_left fun i _ => e1 i
  have u : ∀ (P : Program) (w : World), (LK P w).hash (ks.map Leaf.num) = tupleKeyHash (leafKind P w) (ks.map Leaf.num) := fun _ _ => rfl
  rw [u, u]
  unfold tupleKeyHash
  rw [e]
theorem entry1 {P P' : Program} {w w' : World} {x : List Int × Addr × V} {y : List Leaf × Addr × Value} (h : y.1 = x.1.map Leaf.num) : entryOfKey (LK P w) y = entryOfKey (LK P' w') y := by
  obtain ⟨y1, y2, y3⟩ := y
  simp only at h
  subst h
  exact congrArg (fun z => (⟨z, .ref y2, y3⟩ : DictEntry)) (hash_num P P' w w' x.1)
theorem entry_num {P P' : Program} {w w' : World} {xs : Ent} {ys : EntV} (h : PrE xs ys) : ys.map (entryOfKey (LK P w)) = ys.map (entryOfKey (LK P' w')) := by
  refine List.map_congr_left fun y hy => ?_
  have : ∀ {xs : Ent} {ys : EntV}, PrE xs ys → ∀ y ∈ ys, ∃ x : List Int × Addr × V, y.1 = x.1.map Leaf.num := by
    intro xs ys h
    induction h with
    | nil => intro y hy; simp at hy
    | cons h1 _ ih =>
      intro y hy
      rcases List.mem_cons.mp hy with rfl | hy
      · exact ⟨_, h1.1⟩
      · exact ih y hy
  obtain ⟨x, hx⟩ := this h y hy
  exact entry1 hx
theorem dtOn_inv {d k : D} {f : Addr → List (D × D) → List Int → Prop} (h : dtOn M d k f) : ∃ a es ep ks, d = .ref a ∧ keyN k = some ks ∧ M a = some (.dt es ep) ∧ f a es ks := by
  unfold dtOn at h
  split at h
  case h_2 => exact h.elim
  rename_i a ks hk
  split at h
  case h_2 => exact h.elim
  rename_i es ep hM
  exact ⟨a, es, ep, ks, rfl, hk, hM, h⟩
theorem rp_ref {K : PySem.W.Frag} {x : V} {a : Addr} (r : Rep K F x (.ref a)) : x = .ref a := by cases r; rfl
def rDin (X : Cx) (neg : Bool) : R2 := fun x y H Q => ∃ F M Z dk dd, ∃ k : Bool → Prop, SR X.K F M Z H ∧ Rep X.K F x dk ∧ Rep X.K F y dd ∧ (dtOn M dd dk fun _ es ks => k ((dtGet es ks).isSome != neg)) ∧ ∀ b, k b → Q (.bl b) H
theorem op_din (hu : X.A.units + 1 < cLine) (neg : Bool) : OpR X (compareOp (if neg then CmpOp.NotIn else .In)) (rDin X neg) := by
  intro pins s σ H x y v u Q I rx ry h
  obtain ⟨F, M, Z, dk, dd, k, sr, hx, hy, h, kk⟩ := h
  obtain ⟨a, es, ep, ks, rfl, hk, hM, h⟩ := dtOn_inv h
  obtain rfl := rp_ref hy
  cases ry
  obtain ⟨b, rfl, kb⟩ := key_is sr I hx hk
  cases rx
  obtain ⟨xs, ys, h1, h2, h3, h4, h5, h6, hd⟩ := cell_dict sr I hM
  have e : (atKey ys (ks.map Leaf.num)).isSome = (dtGet es ks).isSome := by
    rcases dt_find ks h2 h3 with ⟨a1, a2⟩ | ⟨d, b', v', u', a1, a2, _, _⟩ <;> rw [a1, a2] <;> rfl
  have ev : (valueAt (pairsH ys) (ks.map Leaf.num)).isSome = (dtGet es ks).isSome := by rw [valueAt_pairsH, Option.isSome_map, e]
  cases neg with
  | false =>
    refine in_keyed (tupleKind_room_in1 hu) kb h4 ⟨ys, hd, rfl⟩ ?_
    rw [ev]
    exact ⟨.bl _, H, I.tok _, rfl, kk _ (by simpa using h)⟩
  | true =>
    refine notIn_keyed (tupleKind_room_in1 hu) kb h4 ⟨ys, hd, rfl⟩ ?_
    rw [ev]
    exact ⟨.bl _, H, I.tok _, rfl, kk _ (by simpa using h)⟩
/-- d[k] -/
theorem pe_dtget {o i : Expr} {td ty : TE} {pos : Pos} (hu : X.A.units + 1 < cLine) (ho : PE X o td) (hi : PE X i ty) (hs : NoSl i) : PE X (.Subscript o i pos) (fun σ H Q => td σ H fun x H1 => ty σ H1 fun y H2 =>
    ∃ F M Z dk dd, ∃ k : D → Prop, SR X.K F M Z H2 ∧ Rep X.K F y dk ∧ Rep X.K F x dd ∧ (dtOn M dd dk fun _ es ks => (match dtGet es ks with | some d => k d | none => False)) ∧ ∀ v d, Rep X.K F v d → k d → Q v H2) := by
  refine ⟨fun pins s σ H Q I h => ?_⟩
  refine subD_of PySem.F.slot_dict_getitem.lookup hs (thn (ho.run pins s σ H _ I h) fun u s1 ⟨x, H1, I1, rx, q1⟩ => thn (hi.run pins s1 σ H1 _ I1 q1) fun iv s2 ⟨y, H2, I2, ry, F, M, Z, dk, dd, k, sr, hy, hx, h, kk⟩ => ?_)
  obtain ⟨a, es, ep, ks, rfl, hk, hM, h⟩ := dtOn_inv h
  obtain rfl := rp_ref hx
  cases rx
  obtain ⟨b, rfl, kb⟩ := key_is sr I2 hy hk
  cases ry
  obtain ⟨xs, ys, h1, h2, h3, h4, h5, h6, hd⟩ := cell_dict sr I2 hM
  refine ⟨hd.typeIs, ?_⟩
  rcases dt_find ks h2 h3 with ⟨a1, a2⟩ | ⟨d, b', v', u', a1, a2, a3, a4⟩
  · rw [a1] at h
    exact h.elim
  · rw [a1] at h
    refine getItem_keyed (tupleKind_room_in1 hu) kb ⟨ys, hd, rfl⟩ (v := u') (by rw [valueAt_pairsH, a2]; rfl) ?_
    exact ⟨v', H2, I2.tok _, a3, kk _ _ a4 h⟩
/-- after a write -/
theorem dt_after {a b : Addr} {es : List (D × D)} {ep : Nat} {ks : List Int} {kd vd : D} {v : V} {u : Value} {xs : Ent} {ys : EntV} {h' : Heap} {t' : Nat} (sr : SR X.K F M Z H) (I : Inv X pins σ H s) (hM : M a = some (.dt es ep)) (hH : H a = some (dtO a xs ep)) (rd : RepD X.K F es xs) (pr : PrE xs ys)
    (c1 : (a == sysModules) = false) (hl : es.length < sizeLine) (hk : keyN kd = some ks) (rk : Rep X.K F (.ref b) kd) (rv : Rep X.K F v vd) (e : RelV v u) (hd : h'.DictOfH (LK X.prog X.w) a (storedH ys (ks.map Leaf.num) b u)) (hs : Heap.SameBut a s.heap h') :
    ∃ ep' H', Inv X pins σ H' { s with heap := h', toks := t' } ∧ SR X.K F (M.set a (.dt (dtPut es kd ks vd) ep')) Z H' := by
  obtain ⟨xs', rd', pr'⟩ := dt_put hk rk rv e rd pr
  have hz : xs'.length ≤ sizeLine := by
    have := len_dtPut es kd ks vd
    rw [rd'.len]; omega
  have hex : ∃ q, h'.get? a = some q := let ⟨q, _, _, hq, _⟩ := hd; ⟨q, hq⟩
  obtain ⟨o, as, ep', e1, e2, e3, e4, _, e5⟩ := hd
  have ob : ∀ H', ObjOk X.prog X.w H' h' a (dtO a xs' ep') := fun H' => dtO_ok ⟨c1, hz, _, pr', o, as, e1, e2, e3, fun P w => by rw [e4]; exact entry_num pr', e5⟩
  exact ⟨ep', _, d_write I (by rw [hH]; exact True.intro) hs hex (ob _), sr.put hM (.dt rd')⟩
/-- d[k] = v -/
def rSetD (X : Cx) : TSet := fun o i v H Q => ∃ F M Z a es ep kx ks vd, o = .ref a ∧ SR X.K F M Z H ∧ Rep X.K F i (.tup kx) ∧ Rep X.K F v vd ∧ M a = some (.dt es ep) ∧ numsN kx = some ks ∧ es.length < sizeLine ∧
  ∀ ep' H', SR X.K F (M.set a (.dt (dtPut es (.tup kx) ks vd) ep')) Z H' → Q H'
theorem set_dt (hu : X.A.units + 1 < cLine) : PSet X (rSetD X) := by
  intro pins s σ H o i v ov iv u Q I ro ri rv h
  obtain ⟨F, M, Z, a, es, ep, kx, ks, vd, rfl, sr, hi, hv, hM, hk, hl, q⟩ := h
  cases ro
  obtain ⟨b, rfl, kb⟩ := key_is sr I hi (show keyN (.tup kx) = some ks from hk)
  cases ri
  obtain ⟨xs, ys, h1, h2, h3, h4, h5, h6, hd⟩ := cell_dict sr I hM
  refine wpAny_setItem_heap (hsz := by rw [h6]; omega) (tupleKind_room_in1 hu) kb hd fun h' hd' hs => ?_
  obtain ⟨ep', H', I', sr'⟩ := dt_after (kd := .tup kx) sr I hM h1 h2 h3 h4 hl (show keyN (.tup kx) = some ks from hk) hi hv rv hd' hs
  exact ⟨H', I', q _ _ sr'⟩
end
end T
set_option Elab.async false
set_option linter.all false
set_option maxRecDepth 100000
set_option maxHeartbeats 4000000
namespace T
open PySem PySem.Spec PyProof.Rows L2 HT
section
variable {X : Cx}
theorem attrBase_of {o : Expr} {m : Str} {env : Env} {w : Sem Value} (h : noCall0 o = true) : attributeBase o m env w = w := by
  unfold attributeBase
  split
  · cases h
  · rfl
/-- what a method may be asked of -/
def tyX (K : PySem.W.Frag) (T : String) (x : V) (H : Hp) : Prop := (T = "list" ∧ ∃ a xs, x = .ref a ∧ SqL K H a xs) ∨ (T = "tuple" ∧ ∃ a xs, x = .ref a ∧ TupS K H a xs) ∨ (T = "dict" ∧ ∃ a xs ep, x = .ref a ∧ H a = some (dtO a xs ep))
theorem tyX_is {pins : List (Addr × Obj)} {σ : L2.St} {H : Hp} {s : Shared} {T : String} {x : V} {v : Value} (I : Inv X pins σ H s) (r : RelV x v) (ty : tyX X.K T x H) :
    s.TypeIs v T ∧ ∀ a, v = .ref a → ∃ ob, s.heap.get? a = some ob ∧ ob.dict = none := by
  rcases ty with ⟨rfl, p, xs, rfl, hq⟩ | ⟨rfl, p, xs, rfl, hq⟩ | ⟨rfl, p, xs, ep, rfl, hq⟩
  · cases r
    obtain ⟨its, _, pl, _⟩ := I.list hq
    refine ⟨pl.isList.typeIs, fun a e => ?_⟩
    cases e
    obtain ⟨o, n, e, c, hd, _⟩ := pl
    exact ⟨o, e, hd⟩
  · cases r
    rcases hq with ⟨o, e, hd⟩ | ⟨o, its, n, hk, hc, hd, _⟩
    · obtain ⟨e1, e2⟩ := (show s.heap.get? p = some o ∧ _ from I.hok p _ e)
      obtain ⟨its, r, pl, hz⟩ := I.tuple (.inl (.inr ⟨o, e⟩))
      obtain ⟨o', e', hc', _⟩ := pl
      rw [e1] at e'
      cases e'
      refine ⟨⟨o, e1, hc'⟩, fun a e => ?_⟩
      cases e
      exact ⟨o, e1, hd⟩
    · refine ⟨⟨o, I.kIn p o hk, hc⟩, fun a e => ?_⟩
      cases e
      exact ⟨o, I.kIn _ o hk, hd⟩
  · cases r
    obtain ⟨_, _, ys, _, o, as, e1, e2, _⟩ := (I.hok p _ hq).1
    refine ⟨⟨o, e1, e2.1⟩, fun a e => ?_⟩
    cases e
    exact ⟨o, e1, e2.2.1⟩
/-- a method that the type chooses -/
def MtOk (X : Cx) (nm : Str) (x : V) (H : Hp) (r : V → List V → Hp → VK → Prop) : Prop := ∃ T id, PlainAttrs T ∧ Slot T nm id ∧ typeOf (.builtin id) = pure (.type "method_descriptor") ∧ MtR X id r ∧ tyX X.K T x H
def tML (X : Cx) (nm : Str) (to : TE) (t : TA) : TE := fun σ H Q => to σ H fun x H1 => ∃ r, MtOk X nm x H1 r ∧ t σ H1 fun xs H2 => r x xs H2 Q
variable {o e : Expr} {es : List Expr} {to : TE} {t : TA} {nm : Str} {apos cpos : Pos}
theorem pe_ml0 (ho : PE X o to) (hb : noCall0 o = true) (hline : (apos.endLine == cpos.line) = true) : PE X (.Call (.Attribute o nm apos) [] [] cpos) (tML X nm to fun _ H Q => Q [] H) := by
  refine ⟨fun pins s σ H Q I h => ?_⟩
  refine wpAny_Call_method0_late (attrBase_of hb) hline (thn (ho.run pins s σ H _ I h) fun v s1 ⟨x, H1, I1, r1, r, ⟨T, id, pa, slot, hty, hm, ty⟩, q1⟩ => ?_)
  obtain ⟨h1, h2⟩ := tyX_is I1 r1 ty
  exact ⟨T, id, pa, slot, hty, h1, h2, Calls.callWith_builtin rfl (PySem.evalArgs_none (hm pins s1 σ H1 x [] v [] Q I1 r1 .nil q1))⟩
theorem pe_ml (ho : PE X o to) (ha : PA X (e :: es) t) (hb : noCall0 o = true) (hline : (apos.endLine == cpos.line) = true) (hst : ∀ y ∈ e :: es, noStar y = true) (hlen : (e :: es).length < 30) :
    PE X (.Call (.Attribute o nm apos) (e :: es) [] cpos) (tML X nm to t) := by
  refine ⟨fun pins s σ H Q I h => ?_⟩
  refine wpAny_Call_method_late (attrBase_of hb) ?_ hline rfl (thn (ho.run pins s σ H _ I h) fun v s1 ⟨x, H1, I1, r1, r, ⟨T, id, pa, slot, hty, hm, ty⟩, q1⟩ => ?_)
  · rw [all_of hst]
    show (true && decide ((e :: es).length + 0 + 0 < 30)) = true
    rw [Bool.true_and]
    exact decide_eq_true (by omega)
  · obtain ⟨h1, h2⟩ := tyX_is I1 r1 ty
    refine ⟨T, id, pa, slot, hty, h1, h2, ?_⟩
    have hA := ha.run cpos pins s1 σ H1 _ I1 q1
    have hs := star_of (xs := es) (env := X.env) (hst e List.mem_cons_self)
    rw [hs] at hA ⊢
    refine Calls.callWith_builtin (by show (false || (backTo cpos (starEach es X.env)).any (·.1)) = false; rw [any_of fun y hy => hst y (List.mem_cons_of_mem _ hy)] <;> rfl) (Calls.evalArgs_plain ?_)
    exact thn hA fun us s2 ⟨vs, H2, I2, r2, q2⟩ => hm pins s2 σ H2 x vs v us Q I2 r1 r2 q2
/-- t.index(x), the first place of an equal one -/
def rIndexT (K : PySem.W.Frag) : V → List V → Hp → VK → Prop := fun x xs H Q => ∃ (a : Addr) (y : V) (d : PyData) (ds : List PyData) (j : Nat) (z : PyData), x = V.ref a ∧ xs = [y] ∧ Dp K H (V.ref a) (.tuple ds) ∧ Dp K H y d ∧
  SeqAt.shaped (.tuple ds) = true ∧ SeqAt.shaped d = true ∧ ds[j]? = some z ∧ PyData.eqv z d = true ∧ (∀ (m : Nat) (z' : PyData), m < j → ds[m]? = some z' → PyData.eqv z' d = false) ∧ Q (.int (j : Nat)) H
theorem mt_indexT (hu : X.A.units + 65 < cLine) : MtR X "tuple.index" (rIndexT X.K) := by
  intro pins s σ H x xs v us Q I rx rxs h
  obtain ⟨a, y, d, ds, j, z, rfl, rfl, hl, hy, sl, sd, hz, hzj, hno, q⟩ := h
  cases rx
  cases rxs with
  | cons ry rt =>
    rename_i uy ut
    cases rt
    obtain ⟨bs, r1⟩ := Dp.reads I d y uy hy ry
    have hxs : PyData.canLayAll0 ds = true := SeqAt.canLay_of_shaped sl
    have hroom : X.A.units + 1 + min (PyData.depthAll ds) d.depth < cLine := room_in_shaped sd hu
    cases hl with
    | tup hs ha =>
      obtain ⟨its, rv, ⟨⟨cls, dd, data, sls⟩, ho, hc, n, hdt⟩, hlen⟩ := I.tuple hs
      simp only at hc hdt
      subst hc hdt
      obtain ⟨as, h4⟩ := Dp.readsAll I ds _ its ha rv
      have hn : its.length = ds.length := SeqAt.ReadsAll.length ds its as h4
      have hmap : its.map (SeqAt.readOf s.heap) = ds := SeqAt.readsAll_map ds its as hxs h4
      have hvl := rv.length
      have hsl := sizeLine_eq
      obtain ⟨hjd, _⟩ := List.getElem?_eq_some_iff.mp hz
      have hjl : j < its.length := by omega
      have hj : j < its.toArray.size := by simpa using hjl
      have at_ : ∀ (m : Nat) (hm : m < its.toArray.size) (z' : PyData), ds[m]? = some z' → SeqAt.readOf s.heap its.toArray[m] = z' := by
        intro m hm z' hz'
        have hml : m < its.length := by simpa using hm
        rw [← hmap, List.getElem?_map, List.getElem?_eq_getElem hml] at hz'
        have e1 : SeqAt.readOf s.heap its[m] = z' := Option.some.inj (show some (SeqAt.readOf s.heap its[m]) = some z' from hz')
        simpa using e1
      refine call_meets PySem.F.slot_tuple_index ⟨_, ho, rfl⟩ PySem.F.entry_tuple_index (PySem.F.args_tuple_index_2 _ _)
        (TI.tuple_indexAt a its.toArray n dd sls uy (fun u => PyData.eqv (SeqAt.readOf s.heap u) d) j hj ?_ ?_) ⟨ho, SeqAt.items_eqAt (vs := its.toArray) (show ReadsAll s.heap its.toArray.toList ds as from h4) r1 hxs (SeqAt.canLay_of_shaped sd) hroom, ?_⟩
      · show PyData.eqv (SeqAt.readOf s.heap its.toArray[j]) d = true
        rw [at_ j hj z hz]
        exact hzj
      · intro m hm hmj
        have hmd : m < ds.length := by omega
        have hz' : ds[m]? = some ds[m] := List.getElem?_eq_getElem hmd
        show PyData.eqv (SeqAt.readOf s.heap its.toArray[m]) d = false
        rw [at_ m hm _ hz']
        exact hno m _ hmj hz'
      · exact ⟨.int (j : Nat), H, I.tok _, ⟨_, rfl⟩, q⟩
end
section
variable {K : PySem.W.Frag} {F Z H : Hp} {M : MH}
theorem toPs_get : ∀ (ds : List D) (i : Nat), (toPs ds)[i]? = (ds[i]?).map D.toP
  | [], i => by simp [toPs]
  | d :: r, 0 => by simp [toPs]
  | d :: r, i + 1 => by simp [toPs, toPs_get r i]
theorem find_get {xs : List D} {d : D} {j : Nat} (h : xs.findIdx? (fun z => D.eqv z d) = some j) : ∃ z, (toPs xs)[j]? = some z ∧ PyData.eqv z d.toP = true ∧ ∀ (m : Nat) (z' : PyData), m < j → (toPs xs)[m]? = some z' → PyData.eqv z' d.toP = false := by
  obtain ⟨hj, e, hno⟩ := List.findIdx?_eq_some_iff_getElem.mp h
  refine ⟨(xs[j]).toP, by rw [toPs_get, List.getElem?_eq_getElem hj]; rfl, e, fun m z' hm hz => ?_⟩
  rw [toPs_get, List.getElem?_eq_getElem (by omega)] at hz
  cases hz
  have := hno m hm
  simpa [D.eqv] using this
theorem mp_ref {x : V} {a : Addr} (r : Rep K F x (.ref a)) : x = .ref a := by cases r; rfl
end
def rMtD (X : Cx) (m : Mt) : V → List V → Hp → VK → Prop := fun x vs H Q => ∃ F M Z dx ds Q', SR X.K F M Z H ∧ Rep X.K F x dx ∧ RepA X.K F vs ds ∧ mtD m dx ds M Q' ∧ ∀ v H', KQ X.K F Z Q' v H' → Q v H'
section
variable {X : Cx}
theorem RepA.zero {K : PySem.W.Frag} {F : Hp} {vs : List V} (r : RepA K F vs []) : vs = [] := by cases r; rfl
theorem get_last {α : Type} {xs : List α} {d : α} (h : xs.getLast? = some d) : xs[xs.length - 1]? = some d := by rw [List.getLast?_eq_getElem?] at h; exact h
theorem RepA.dropLast {K : PySem.W.Frag} {F : Hp} {vs : List V} {ds : List D} (r : RepA K F vs ds) : RepA K F vs.dropLast ds.dropLast := by
  rw [List.dropLast_eq_take, List.dropLast_eq_take, r.len]
  exact r.take _
theorem md_append : MtR X "list.append" (rMtD X .append) := by
  intro pins s σ H x vs v us Q I rx rxs h
  obtain ⟨F, M, Z, dx, ds, Q', sr, hx, hs, h, k⟩ := h
  unfold mtD at h
  split at h <;> first
    | exact h.elim
    | contradiction
    | skip
  rename_i a d _
  split at h
  case h_2 => exact h.elim
  rename_i xs hM
  obtain ⟨hz, h⟩ := h
  obtain rfl := mp_ref hx
  obtain ⟨w, rfl, hw⟩ := hs.one
  obtain ⟨ws, hH, ra⟩ := cell_lst sr hM
  refine mt_append pins s σ H _ _ v us Q I rx rxs ⟨a, ws, w, rfl, rfl, hH, by rw [ra.len]; exact hz, k _ _ ?_⟩
  exact ⟨F, _, .non, Same.refl F, sr.put hM (.lst (ra.app (.cons hw .nil))), .non, h⟩
theorem md_pop0 : MtR X "list.pop" (rMtD X .pop0) := by
  intro pins s σ H x vs v us Q I rx rxs h
  obtain ⟨F, M, Z, dx, ds, Q', sr, hx, hs, h, k⟩ := h
  unfold mtD at h
  split at h <;> first
    | exact h.elim
    | contradiction
    | skip
  rename_i a _
  split at h
  case h_2 => exact h.elim
  rename_i xs hM
  split at h
  case h_2 => exact h.elim
  rename_i d hd
  obtain rfl := mp_ref hx
  obtain rfl := hs.zero
  obtain ⟨ws, hH, ra⟩ := cell_lst sr hM
  obtain ⟨y, hy, ry⟩ := ra.get (get_last hd)
  rw [← ra.len] at hy
  refine mt_pop pins s σ H _ _ v us Q I rx rxs ⟨a, ws, y, rfl, rfl, hH, hy, k _ _ ?_⟩
  exact ⟨F, _, d, Same.refl F, sr.put hM (.lst ra.dropLast), ry, h⟩
theorem md_pop : MtR X "list.pop" (rMtD X .pop) := by
  intro pins s σ H x vs v us Q I rx rxs h
  obtain ⟨F, M, Z, dx, ds, Q', sr, hx, hs, h, k⟩ := h
  unfold mtD at h
  split at h <;> first
    | exact h.elim
    | contradiction
    | skip
  rename_i a i _
  split at h
  case h_2 => exact h.elim
  rename_i xs hM
  obtain ⟨⟨h0, h1⟩, h⟩ := h
  split at h
  case h_2 => exact h.elim
  rename_i d hd
  obtain rfl := mp_ref hx
  obtain ⟨w, rfl, hw⟩ := hs.one
  cases hw
  obtain ⟨ws, hH, ra⟩ := cell_lst sr hM
  obtain ⟨y, hy, ry⟩ := ra.get hd
  have hlt : i.toNat < ws.length := (List.getElem?_eq_some_iff.mp hy).1
  refine mt_popAt pins s σ H _ _ v us Q I rx rxs ⟨a, ws, i, i.toNat, y, rfl, rfl, hH, by omega, by omega, ?_, hy, k _ _ ?_⟩
  · unfold seqIndex?
    simp only
    split
    · omega
    · rw [if_pos (by simp; omega)]
  · exact ⟨F, _, d, Same.refl F, sr.put hM (.lst (ra.erase _)), ry, h⟩
theorem md_extend : MtR X "list.extend" (rMtD X .extend) := by
  intro pins s σ H x vs v us Q I rx rxs h
  obtain ⟨F, M, Z, dx, ds, Q', sr, hx, hs, h, k⟩ := h
  unfold mtD at h
  split at h <;> first
    | exact h.elim
    | contradiction
    | skip
  rename_i a y _
  split at h
  case h_2 => exact h.elim
  rename_i xs hM
  split at h
  case h_2 => exact h.elim
  rename_i ys hy
  obtain ⟨hz, h⟩ := h
  obtain rfl := mp_ref hx
  obtain ⟨w, rfl, hw⟩ := hs.one
  obtain ⟨ws, hH, ra⟩ := cell_lst sr hM
  obtain ⟨b, zs, rfl, hB, rb⟩ := vw_lst sr hw hy
  refine mt_extend pins s σ H _ _ v us Q I rx rxs ⟨a, b, ws, zs, rfl, rfl, hH, hB, by rw [ra.len, rb.len]; exact hz, k _ _ ?_⟩
  exact ⟨F, _, .non, Same.refl F, sr.put hM (.lst (ra.app rb)), .non, h⟩
theorem md_setd (hu : X.A.units + 1 < cLine) : MtR X "dict.setdefault" (rMtD X .setd) := by
  intro pins s σ H x vs v us Q I rx rxs h
  obtain ⟨F, M, Z, dx, ds, Q', sr, hx, hs, h, k⟩ := h
  unfold mtD at h
  split at h <;> first
    | exact h.elim
    | contradiction
    | skip
  rename_i kd vd _
  obtain ⟨a, es, ep, ks, rfl, hk, hM, hl, h⟩ := dtOn_inv h
  obtain rfl := mp_ref hx
  cases rx
  obtain ⟨w1, w2, rfl, r1, r2⟩ := hs.two
  cases rxs with
  | cons e1 rt =>
  cases rt with
  | cons e2 rt =>
  cases rt
  obtain ⟨b, rfl, kb⟩ := key_is sr I r1 hk
  cases e1
  obtain ⟨xs, ys, h1, h2, h3, h4, h5, h6, hd⟩ := cell_dict sr I hM
  refine call_setdefault_heap (hsz := by rw [h6]; omega) (tupleKind_room_in1 hu) kb h4 hd (fun p hp => ?_) fun hn h' hd' hs' => ?_
  · rcases dt_find ks h2 h3 with ⟨a1, a2⟩ | ⟨d, b', v', u', a1, a2, a3, a4⟩
    · rw [a2] at hp; cases hp
    · rw [a2] at hp; cases hp
      rw [a1] at h
      exact ⟨v', H, I.tok _, a3, k _ _ ⟨F, M, d, Same.refl F, sr, a4, h⟩⟩
  · rcases dt_find ks h2 h3 with ⟨a1, a2⟩ | ⟨d, b', v', u', a1, a2, a3, a4⟩
    · rw [a1] at h
      obtain ⟨ep', H', I', sr'⟩ := dt_after sr I hM h1 h2 h3 h4 hl hk r1 r2 e2 hd' hs'
      exact ⟨w2, H', I', e2, k _ _ ⟨F, _, vd, Same.refl F, sr', r2, h ep'⟩⟩
    · rw [a2] at hn; cases hn
theorem pure_vw {M : MH} {d : D} (h : d.pure = true) : vw M d = d := by
  cases d <;> first
    | rfl
    | (simp [D.pure] at h)
theorem idx_inv {x d : D} {k : Nat → Prop} (h : idxD x d k) : ∃ xs j, (x = .tup xs ∨ x = .lst xs) ∧ cmpble x ∧ cmpble d ∧ xs.findIdx? (fun z => D.eqv z d) = some j ∧ k j := by
  unfold idxD at h
  split at h
  · rename_i xs
    obtain ⟨⟨h1, h2⟩, h⟩ := h
    split at h
    · exact ⟨xs, _, .inl rfl, h1, h2, by assumption, h⟩
    · exact h.elim
  · rename_i xs
    obtain ⟨⟨h1, h2⟩, h⟩ := h
    split at h
    · exact ⟨xs, _, .inr rfl, h1, h2, by assumption, h⟩
    · exact h.elim
  · exact h.elim
theorem md_indexL (hu : X.A.units + 65 < cLine) : MtR X "list.index" (fun x vs H Q => ∃ F M Z dx ds Q', SR X.K F M Z H ∧ Rep X.K F x dx ∧ RepA X.K F vs ds ∧ (∃ xs, vw M dx = .lst xs) ∧ mtD .index dx ds M Q' ∧ ∀ v H', KQ X.K F Z Q' v H' → Q v H') := by
  intro pins s σ H x vs v us Q I rx rxs h
  obtain ⟨F, M, Z, dx, ds, Q', sr, hx, hs, ⟨xs, hv⟩, h, k⟩ := h
  unfold mtD at h
  split at h <;> first
    | exact h.elim
    | contradiction
    | skip
  rename_i d _
  obtain ⟨w, rfl, hw⟩ := hs.one
  obtain ⟨ys, j, e, c1, c2, hj, q⟩ := idx_inv h
  rw [hv] at e
  rcases e with e | e
  · cases e
  cases e
  obtain ⟨a, ws, rfl, _, _⟩ := vw_lst sr hx hv
  obtain ⟨z, z1, z2, z3⟩ := find_get hj
  have p1 := vw_dp sr hx c1.1
  have p2 := vw_dp sr hw (by rw [pure_vw c2.1]; exact c2.1)
  rw [hv] at p1 c1
  rw [pure_vw c2.1] at p2
  simp only [D.toP] at p1
  have sh := shaped_of c1
  simp only [D.toP] at sh
  exact mt_indexD hu pins s σ H _ _ v us Q I rx rxs ⟨a, w, d.toP, toPs xs, j, z, rfl, rfl, p1, p2, sh, shaped_of c2, z1, z2, z3, k _ _ (.of sr (.int _) q)⟩
mutual
theorem pure_plain : ∀ d : D, d.pure = true → d.toP.plain = true
  | .non, _ => rfl
  | .bl _, _ => rfl
  | .int _, _ => rfl
  | .str _, h => by simpa [D.toP, D.pure, PyData.plain] using h
  | .lst xs, h => by
    have := pures_plain xs (by simpa [D.pure] using h)
    simpa [D.toP, PyData.plain] using this
  | .tup xs, h => by
    have := pures_plain xs (by simpa [D.pure] using h)
    simpa [D.toP, PyData.plain] using this
  | .dct _ _, h => by cases h
  | .ref _, h => by cases h
  | .scr _, h => by cases h
theorem pures_plain : ∀ xs : List D, pures xs = true → PyData.plainAll (toPs xs) = true
  | [], _ => rfl
  | x :: r, h => by
    simp only [pures, Bool.and_eq_true] at h
    simp only [toPs, PyData.plainAll, Bool.and_eq_true]
    exact ⟨pure_plain x h.1, pures_plain r h.2⟩
end
theorem countP_toPs (d : D) : ∀ xs : List D, (toPs xs).countP (fun y => PyData.eqv y d.toP) = xs.countP fun z => D.eqv z d
  | [] => rfl
  | x :: r => by
    rw [toPs, List.countP_cons, List.countP_cons, countP_toPs d r]
    rfl
theorem md_count (hu : X.A.units + 65 < cLine) : MtR X "list.count" (rMtD X .count) := by
  intro pins s σ H x vs v us Q I rx rxs h
  obtain ⟨F, M, Z, dx, ds, Q', sr, hx, hs, h, k⟩ := h
  unfold mtD at h
  split at h <;> first
    | exact h.elim
    | contradiction
    | skip
  rename_i d _
  obtain ⟨w, rfl, hw⟩ := hs.one
  unfold cntD at h
  split at h
  case h_2 => exact h.elim
  rename_i xs hv
  obtain ⟨⟨c1, c2⟩, q⟩ := h
  obtain ⟨a, ws, rfl, hH, ra⟩ := vw_lst sr hx hv
  have p1 := vw_dp sr hx (by rw [hv]; exact c1.1)
  have p2 := vw_dp sr hw (by rw [pure_vw c2.1]; exact c2.1)
  rw [hv] at p1
  rw [pure_vw c2.1] at p2
  simp only [D.toP] at p1
  cases rx
  cases rxs with
  | cons ry rt =>
  cases rt
  obtain ⟨bs, r1⟩ := Dp.reads I d.toP w _ p2 ry
  cases p1 with
  | lst hs ha =>
  obtain ⟨its, rv, pl, hlen⟩ := I.list hs
  obtain ⟨as, h4⟩ := Dp.readsAll I _ _ its ha rv
  have sh := shaped_of c2
  have c2d := c2.2
  refine SeqAt.count_list_data (xs := toPs xs) (d := d.toP) pl.isList (by simpa using h4) r1 (pures_plain xs (by have := c1.1; simpa [D.pure] using this)) (pure_plain d c2.1) (room_in_shaped sh hu) ?_
  rw [countP_toPs]
  exact ⟨.int _, H, I.tok _, ⟨_, rfl⟩, k _ _ (.of sr (.int _) q)⟩
theorem md_indexT (hu : X.A.units + 65 < cLine) : MtR X "tuple.index" (fun x vs H Q => ∃ F M Z dx ds Q', SR X.K F M Z H ∧ Rep X.K F x dx ∧ RepA X.K F vs ds ∧ (∃ xs, vw M dx = .tup xs) ∧ mtD .index dx ds M Q' ∧ ∀ v H', KQ X.K F Z Q' v H' → Q v H') := by
  intro pins s σ H x vs v us Q I rx rxs h
  obtain ⟨F, M, Z, dx, ds, Q', sr, hx, hs, ⟨xs, hv⟩, h, k⟩ := h
  unfold mtD at h
  split at h <;> first
    | exact h.elim
    | contradiction
    | skip
  rename_i d _
  obtain ⟨w, rfl, hw⟩ := hs.one
  obtain ⟨ys, j, e, c1, c2, hj, q⟩ := idx_inv h
  rw [hv] at e
  rcases e with e | e
  case inr => cases e
  cases e
  obtain ⟨a, ws, rfl, _, _⟩ := vw_tup hx hv
  obtain ⟨z, z1, z2, z3⟩ := find_get hj
  have p1 := vw_dp sr hx c1.1
  have p2 := vw_dp sr hw (by rw [pure_vw c2.1]; exact c2.1)
  rw [hv] at p1 c1
  rw [pure_vw c2.1] at p2
  simp only [D.toP] at p1
  have sh := shaped_of c1
  simp only [D.toP] at sh
  exact mt_indexT hu pins s σ H _ _ v us Q I rx rxs ⟨a, w, d.toP, toPs xs, j, z, rfl, rfl, p1, p2, sh, shaped_of c2, z1, z2, z3, k _ _ (.of sr (.int _) q)⟩
end
section
variable {P : Nat → Option Fn} {G : Nat → Option D} {tb : Tb} {n : Nat} {e0 : Option (Addr × Xc)} {N : List Str} {sc : Scope} {X : Cx} {R : Xc → MH → Prop} {C : SC}
variable {a b : Ex} {o x : Expr} {xs : List Expr} {e : Ex} {es : Es} {pos apos : Pos}
theorem TupS.of {K : PySem.W.Frag} {F H : Hp} (s : ∀ a o, F a = some o → H a = some o) {a : Addr} {vs : List V} (h : TupS K F a vs) : TupS K H a vs := TupS.mono s h
/-- the method that a value of that type has -/
theorem ty_mt {m : Mt} (hu : X.A.units + 65 < cLine) {F Z H : Hp} {M : MH} {x : V} {dx : D} (sr : SR X.K F M Z H) (rx : Rep X.K F x dx) (h : tyM m dx M) : ∃ r, MtOk X m.nm x H r ∧ ∀ F' M' Z ds vs H' Q' Q, SR X.K F' M' Z H' → Rep X.K F' x dx → RepA X.K F' vs ds → mtD m dx ds M' Q' →
    (∀ v H'', KQ X.K F' Z Q' v H'' → Q v H'') → (∀ xs, vw M dx = .tup xs → vw M' dx = .tup xs) → (m = .index → ∀ xs, vw M dx = .lst xs → ∃ xs', vw M' dx = .lst xs') → r x vs H' Q := by
  have cell : ∀ {a : Addr}, dx = .ref a → (match M a with | some (.lst _) => True | _ => False) → tyX X.K "list" x H := fun {a} e h0 => by
    subst e
    obtain rfl := mp_ref rx
    split at h0
    case h_2 => exact h0.elim
    rename_i xs hM
    obtain ⟨ws, hH, _⟩ := cell_lst sr hM
    exact .inl ⟨rfl, a, ws, rfl, SqL.of hH⟩
  cases m with
  | append =>
    cases dx <;> first
      | exact h.elim
      | skip
    exact ⟨_, ⟨"list", "list.append", PySem.F.plainAttrs_list, PySem.F.slot_list_append, PySem.F.type_list_append, md_append, cell rfl h⟩, fun F' M' Z ds vs H' Q' Q s1 r1 ra h1 k _ _ => ⟨F', M', Z, _, ds, Q', s1, r1, ra, h1, k⟩⟩
  | pop0 =>
    cases dx <;> first
      | exact h.elim
      | skip
    exact ⟨_, ⟨"list", "list.pop", PySem.F.plainAttrs_list, PySem.F.slot_list_pop, PySem.F.type_list_pop, md_pop0, cell rfl h⟩, fun F' M' Z ds vs H' Q' Q s1 r1 ra h1 k _ _ => ⟨F', M', Z, _, ds, Q', s1, r1, ra, h1, k⟩⟩
  | pop =>
    cases dx <;> first
      | exact h.elim
      | skip
    exact ⟨_, ⟨"list", "list.pop", PySem.F.plainAttrs_list, PySem.F.slot_list_pop, PySem.F.type_list_pop, md_pop, cell rfl h⟩, fun F' M' Z ds vs H' Q' Q s1 r1 ra h1 k _ _ => ⟨F', M', Z, _, ds, Q', s1, r1, ra, h1, k⟩⟩
  | extend =>
    cases dx <;> first
      | exact h.elim
      | skip
    exact ⟨_, ⟨"list", "list.extend", PySem.F.plainAttrs_list, PySem.F.slot_list_extend, PySem.F.type_list_extend, md_extend, cell rfl h⟩, fun F' M' Z ds vs H' Q' Q s1 r1 ra h1 k _ _ => ⟨F', M', Z, _, ds, Q', s1, r1, ra, h1, k⟩⟩
  | count =>
    have h : (match vw M dx with | .lst _ => True | _ => False) := by cases dx <;> exact h
    split at h
    case h_2 => exact h.elim
    rename_i xs hv
    obtain ⟨a, ws, rfl, hH, _⟩ := vw_lst sr rx hv
    exact ⟨_, ⟨"list", "list.count", PySem.F.plainAttrs_list, PySem.F.slot_list_count, PySem.F.type_list_count, md_count hu, .inl ⟨rfl, a, ws, rfl, SqL.of hH⟩⟩, fun F' M' Z ds vs H' Q' Q s1 r1 ra h1 k _ _ => ⟨F', M', Z, _, ds, Q', s1, r1, ra, h1, k⟩⟩
  | setd =>
    cases dx <;> first
      | exact h.elim
      | skip
    rename_i a
    have h0 : (match M a with | some (.dt _ _) => True | _ => False) := h
    split at h0
    case h_2 => exact h0.elim
    rename_i es ep hM
    obtain rfl := mp_ref rx
    obtain ⟨_, _, o, hH, rc⟩ := sr.m a _ hM
    cases rc
    exact ⟨_, ⟨"dict", "dict.setdefault", PySem.F.plainAttrs_dict, PySem.F.slot_dict_setdefault, PySem.F.type_dict_setdefault, md_setd (by omega), .inr (.inr ⟨rfl, a, _, _, rfl, hH⟩)⟩, fun F' M' Z ds vs H' Q' Q s1 r1 ra h1 k _ _ => ⟨F', M', Z, _, ds, Q', s1, r1, ra, h1, k⟩⟩
  | index =>
    have h : (match vw M dx with | .tup _ => True | .lst _ => True | _ => False) := by cases dx <;> exact h
    split at h
    · rename_i xs hv
      obtain ⟨a, ws, rfl, ht, _⟩ := vw_tup rx hv
      exact ⟨_, ⟨"tuple", "tuple.index", PySem.F.plainAttrs_tuple, PySem.F.slot_tuple_index, PySem.F.type_tuple_index, md_indexT hu, .inr (.inl ⟨rfl, a, ws, rfl, TupS.of sr.f ht⟩)⟩, fun F' M' Z ds vs H' Q' Q s1 r1 ra h1 k t1 _ => ⟨F', M', Z, _, ds, Q', s1, r1, ra, ⟨xs, t1 xs hv⟩, h1, k⟩⟩
    · rename_i xs hv
      obtain ⟨a, ws, rfl, hH, _⟩ := vw_lst sr rx hv
      exact ⟨_, ⟨"list", "list.index", PySem.F.plainAttrs_list, PySem.F.slot_list_index, PySem.F.type_list_index, md_indexL hu, .inl ⟨rfl, a, ws, rfl, SqL.of hH⟩⟩, fun F' M' Z ds vs H' Q' Q s1 r1 ra h1 k _ t2 => ⟨F', M', Z, _, ds, Q', s1, r1, ra, t2 rfl xs hv, h1, k⟩⟩
    · exact h.elim
theorem vw_tup_keep {M M' : MH} {d : D} {xs : List D} (h : vw M d = .tup xs) : vw M' d = .tup xs := by
  cases d <;> first
    | exact h
    | skip
  simp only [vw] at h
  split at h <;> cases h
/-- no cell's list is asked after an index that changed it to another kind -/
theorem mt_keep {dx : D} {ds : List D} {M M' : MH} {Q' : D → MH → Prop} {xs : List D} (h : mtD .index dx ds M' Q') (hv : vw M dx = .lst xs) : ∃ xs', vw M' dx = .lst xs' := by
  unfold mtD at h
  split at h <;> first
    | exact h.elim
    | contradiction
    | skip
  obtain ⟨ys, j, e, _⟩ := idx_inv h
  rcases e with e | e
  · rw [vw_tup_keep (M' := M) e] at hv; cases hv
  · exact ⟨ys, e⟩
theorem ml_read {m : Mt} (hu : X.A.units + 65 < cLine) : ∀ σ H Q, tD X tb C R (wpE C R (.mth m a es)) σ H Q → tML X m.nm (tD X tb C R (wpE C R a)) (tDs X tb C R (wpEs C R es)) σ H Q := fun σ H Q ⟨F, M, Z, ρ, Q', sr, re, hw, k⟩ => by
  simp only [wpE] at hw
  refine ⟨F, M, Z, ρ, _, sr, re, hw, fun v H1 ⟨F1, M1, dx, s1, sr1, rx, ty, h1⟩ => ?_⟩
  obtain ⟨r, ok, hr⟩ := ty_mt hu sr1 rx ty
  refine ⟨r, ok, F1, M1, Z, ρ, _, sr1, re.mono s1, h1, fun vs H2 ⟨F2, M2, ds, s2, sr2, ra, h2⟩ => ?_⟩
  exact hr F2 M2 Z ds vs H2 Q' Q sr2 (rx.mono s2) ra h2 (tD_then (s1.trans s2) k) (fun xs => vw_tup_keep) fun e xs hv => by subst e; exact mt_keep h2 hv
theorem je_mth {m : Mt} (hu : X.A.units + 65 < cLine) (hb : noCall0 o = true) (hline : (apos.endLine == pos.line) = true) (hst : ∀ y ∈ xs, noStar y = true) (hlen : xs.length < 30) (ho : PE X o (tD X tb C R (wpE C R a))) (ha : PA X xs (tDs X tb C R (wpEs C R es))) (h0 : xs = [] → es = .nil) :
    PE X (.Call (.Attribute o m.nm apos) xs [] pos) (tD X tb C R (wpE C R (.mth m a es))) := by
  cases xs with
  | nil =>
    obtain rfl := h0 rfl
    refine PE_imp (pe_ml0 ho hb hline) fun σ H Q h => ?_
    have h := ml_read hu σ H Q h
    obtain ⟨F, M, Z, ρ, Q', sr, re, hw, k⟩ := h
    refine ⟨F, M, Z, ρ, Q', sr, re, hw, fun v H1 q => ?_⟩
    obtain ⟨r, ok, F, M, Z, ρ, Q', sr, re, hw, k⟩ := k v H1 q
    exact ⟨r, ok, k [] H1 ⟨F, M, [], Same.refl F, sr, .nil, by simpa only [wpEs] using hw⟩⟩
  | cons y ys => exact PE_imp (pe_ml ho ha hb hline hst hlen) (ml_read hu)
end
end T
set_option Elab.async false
set_option linter.all false
set_option maxRecDepth 100000
set_option maxHeartbeats 4000000
namespace T
open PySem PySem.Spec PyProof.Rows L2 HT
open Sem (wp)
theorem meets_enumerate_newB1 {v : Value} {o : Obj} {H : Heap → Prop} (B : Begins v o H) :
    Meets (Builtin.«enumerate.__new__» ⟨[.type "enumerate", v], []⟩) (fun _ R s => H s.heap ∧
      R (.ok (.ret (.ref (s.heap.push o).objs.size))) { s with heap := (s.heap.push o).push { cls := .type "enumerate", data := .fields #[.none, .bool false, .ref s.heap.objs.size, rawInt 0, .none, .none] } }) :=
  .of_wp fun prog w A R s h => by
    obtain ⟨hp, g, d, tk, os⟩ := s; obtain ⟨h1, h⟩ := h
    have hsub := sub_enumerate
    have q1 : ∀ {A' : Around} {E : Value → Shared → Prop} {Q : Value → Shared → Prop}, Q (.ref hp.objs.size) ⟨hp.push o, g, d, tk, os⟩ → wpAny (model prog w) A' (pyIter v) Q E ⟨hp, g, d, tk, os⟩ :=
      fun q => B.iter prog w _ _ ⟨hp, g, d, tk, os⟩ _ h1 q
    wp_walk using q1
    refine wpAny_stack_any fun st => wpAny_pure ?_
    split
    · rename_i c _ _ _ _ _
      cases (c == Value.type "enumerate")
      · wp_walk using q1
        exact ⟨_, rfl, h⟩
      · wp_walk using q1
        exact ⟨_, rfl, h⟩
    · wp_walk using q1
      exact ⟨_, rfl, h⟩
theorem enum_begins1 {prog : Program} {w : World} {A : Around} {E : Value → Shared → Prop} {s : Shared} {v : Value} {o : Obj} {H : Heap → Prop} {Q : Value → Shared → Prop} (B : Begins v o H) (h1 : H s.heap)
    (h : ∀ h', IsEnum h' (s.heap.objs.size + 1) s.heap.objs.size 0 .none → h'.get? s.heap.objs.size = some o → h'.objs.size = s.heap.objs.size + 2 →
      (∀ b o, s.heap.get? b = some o → h'.get? b = some o) → Q (.ref (s.heap.objs.size + 1)) { s with heap := h' }) :
    wpAny (model prog w) A (call (.type "enumerate") [v]) Q E s := by
  refine callType_new F.called_enumerate (by decide) (F.typeCall_enumerate_1 _) (F.newCall_enumerate_1 _) (fun obj => F.args_object_init_2 obj _) F.entry_enumerate_new
    (meets_enumerate_newB1 B) ⟨h1, ?_⟩
  have hz : (s.heap.push o).objs.size = s.heap.objs.size + 1 := Heap.size_push ..
  show _ ∧ _
  rw [hz]
  have he : IsEnum ((s.heap.push o).push { cls := .type "enumerate", data := .fields #[.none, .bool false, .ref s.heap.objs.size, rawInt 0, .none, .none] }) (s.heap.objs.size + 1) s.heap.objs.size 0 .none := by
    have := Heap.get?_push_size (s.heap.push o) (o := { cls := .type "enumerate", data := .fields #[.none, .bool false, .ref s.heap.objs.size, rawInt 0, .none, .none] }) rfl
    rw [hz] at this; exact this
  refine ⟨⟨_, he, rfl⟩, h _ he (Heap.get?_push_of_some _ (Heap.get?_push_size _ B.free)) (by rw [Heap.size_push, hz]) fun b o x => Heap.get?_push_of_some _ (Heap.get?_push_of_some _ x)⟩
/-- the tuple at a as it stands at each turn, each item in a new pair -/
def IteT (K : PySem.W.Frag) (a : Addr) : L2.It :=
  ⟨fun i H => ∃ (xs : List V) (x : V), SqT K H a xs ∧ xs[i]? = some x, fun i H v H' => ∃ T x, v = .ref T ∧ H T = none ∧ H' = upd H T (.tup [.int (i : Nat), x]) ∧ ∀ xs, SqT K H a xs → xs[i]? = some x, fun i H => ∃ xs : List V, SqT K H a xs ∧ xs.length ≤ i⟩
theorem turn_enumT {P : Program} {w : World} {K : PySem.W.Frag} {elts : List Expr} {kk : Nat} {tpos : Pos} (a e it : Addr) :
    Turn P w K (.Tuple elts kk tpos) (IteT K a) [e, it] e (fun i h => (∃ old, IsEnum h e it ((i : Nat) : Int) old) ∧ h.IsTupleIter it a i ∧ e ≠ it) where
  mem := by simp
  obj := fun i h st b hb => by
    obtain ⟨⟨old, he⟩, ⟨o, ho, hc, hd⟩, _⟩ := st
    have e' : b = e ∨ b = it := by simpa using hb
    rcases e' with z | z
    · rw [z]; exact ⟨_, he, fun v q => nomatch q⟩
    · rw [z]; exact ⟨o, ho, fun v q => by rw [hd] at q; cases q⟩
  keep := fun i h h' st k => let ⟨⟨old, he⟩, hi, hne⟩ := st; ⟨⟨old, k e (by simp) _ he⟩, hi.at fun o q => k it (by simp) o q, hne⟩
  item := by
    intro X hP hw hK hc i pins s σ H E I hf st hg
    subst hP hw hK
    obtain ⟨⟨old, he⟩, hit, hne⟩ := st
    obtain ⟨xs, x, hq, hx⟩ := hg
    obtain ⟨its, rv, p, hz⟩ := I.tuple hq
    obtain ⟨u, hu, ru⟩ := rv.get hx
    have p : s.heap.IsTuple a its.toArray := p
    have hel : e < s.heap.objs.size := Heap.lt_size he
    have hil : it < s.heap.objs.size := by obtain ⟨_, q, _⟩ := hit; exact Heap.lt_size q
    have hai : a ≠ it := fun z => by
      subst z
      obtain ⟨o1, e1, c1, _⟩ := hit
      obtain ⟨o2, e2, c2, _⟩ := p
      rw [e1] at e2; cases e2
      rw [c1] at c2; simp at c2
    have hae : a ≠ e := fun z => by
      subst z
      obtain ⟨o2, e2, c2, _⟩ := p
      rw [show s.heap.get? a = _ from he] at e2; cases e2
      simp at c2
    have hlt : i < its.toArray.size := by
      have := (List.getElem?_eq_some_iff.mp hu).1
      simpa using this
    refine wpAny_pyNext_enum_itemD (Draws.tuple (A := X.A.in1) (I.ok.hd hc) it a hai its.toArray) he ⟨hit, p⟩ hlt hne (by simp [hne, Ne.symm hae]) fun y h' tk hPy ho hit' hT hsz hk => ?_
    have hPy' : its.toArray[i]? = some y := hPy
    have e1 : y = u := by
      have : its[i]? = some y := by simpa using hPy'
      rw [hu] at this; cases this; rfl
    subst e1
    refine ⟨_, rfl, wpAny_letOwnedTupleGo_enum (s := { s with heap := h', toks := tk + 1 }) ho fun h'' he' sb => ?_⟩
    have hT2 : h''.get? s.heap.objs.size = some { cls := .type "tuple", data := .seq #[.int i tk, y] } := (sb.2 _ (Nat.ne_of_gt hel)).trans hT
    have new : ObjOk X.prog X.w (upd H s.heap.objs.size (.tup [.int (i : Nat), x])) h'' s.heap.objs.size (.tup [.int (i : Nat), x]) :=
      ⟨by show 2 ≤ sizeLine; decide, [.int i tk, y], .cons ⟨_, rfl⟩ (.cons ru .nil), ⟨_, hT2, rfl, _, rfl⟩⟩
    have I1 : Inv X pins σ (upd H s.heap.objs.size (.tup [.int (i : Nat), x])) { s with heap := h'', toks := tk + 1 } :=
      I.turnedNew (ch := [e, it]) (fun b ob hb q => (sb.2 b (fun z => hb (by simp [z]))).trans (hk b ob (fun z => hb (by simp [z])) (fun z => hb (by simp [z])) q)) hf (Nat.le_refl _) new
    refine ⟨.ref s.heap.objs.size, _, I1, rfl, ⟨_, x, rfl, I.hok.fresh (Nat.le_refl _), rfl, fun ys hy => by rw [I.tuple_inj hy hq]; exact hx⟩, ⟨⟨y, ?_⟩, hit'.1.at fun o q => (sb.2 it (Ne.symm hne)).trans q, hne⟩, fun b hb => ?_⟩
    · have e1 : ((i + 1 : Nat) : Int) = (i : Int) + 1 := by omega
      rw [e1]; exact he'
    · have hb' : b < s.heap.objs.size := by
        have e' : b = e ∨ b = it := by simpa using hb
        rcases e' with z | z
        · rw [z]; exact hel
        · rw [z]; exact hil
      rw [upd_ne (Nat.ne_of_lt hb')]
      exact (hf b hb).1
  done := by
    intro X hP hw hK hc i pins s σ H E I hf st hg
    subst hP hw hK
    obtain ⟨⟨old, he⟩, hit, hne⟩ := st
    obtain ⟨xs, hq, hx⟩ := hg
    obtain ⟨its, rv, p, hz⟩ := I.tuple hq
    obtain ⟨f0, f1, f2, f3, f4, f5⟩ := hf it (by simp)
    have hl := rv.length
    have p : s.heap.IsTuple a its.toArray := p
    have hT : s.TypeIs (.ref e) "enumerate" := ⟨_, he, rfl⟩
    unfold pyNext
    refine wpAny_bind (wpAny_attempt (wpAny_callSpecial?_slot (name := Str.ofString "__next__") hT F.slot_enumerate_next
      (wpAny_call_entry F.slot_enumerate_next hT F.entry_enumerate_next ?_ (F.args_enumerate_next_1 _))))
    show wpAny _ _ (field (.ref e) 2 >>= _) _ _ _
    refine wpAny_bind (wpAny_field he rfl (x := .ref it) rfl ?_)
    refine wpAny_bind (wpAny_nextOf_tuple_end (I.ok.hd hc) hit p (by simp; omega) fun h' x he' hx' => ?_)
    obtain ⟨o, ho, hcl⟩ := hx'
    refine wpAny_bind (wpAny_isInstance (T := "StopIteration") (b := true) ⟨o, ho, hcl⟩ isSubtype_stop ?_)
    exact wpAny_pure ⟨rfl, I.turned (t' := s.toks) (fun b o hb q => he' b o hb q) f0 f1 f3 f4 f5⟩
  self := fun A i s Q E st h => let ⟨⟨_, he⟩, _⟩ := st; wpAny_pyIter_enum he h
def iEnumA (K : PySem.W.Frag) (ta : TA) : TI := fun σ H R => ta σ H fun vs H1 => ∃ a xs, vs = [.ref a] ∧ ((SqL K H1 a xs ∧ (xs.length ≤ sizeLine → R (Ite K a) H1)) ∨ (SqT K H1 a xs ∧ (xs.length ≤ sizeLine → R (IteT K a) H1)))
theorem pi_enumA {X : Cx} {e : Expr} {ta : TA} {p pos tpos : Pos} {elts : List Expr} {kk : Nat} (hg : Gl X "enumerate") (hm : X.mg "enumerate" = none) (ha : PA X [e] ta) (hs : starEach [e] X.env = [(false, eval e X.env)] := by rfl) :
    PI X (.Tuple elts kk tpos) (.Call (.Name "enumerate" p) [e] [] pos) (iEnumA X.K ta) := by
  refine ⟨fun pins s σ H R I h => ?_⟩
  refine Call_ (ld_blt I hg hm boot_enumerate (PyProof.Rows.callWith_type1 (thn (ha.run pos pins s σ H _ I h) fun us s1 ⟨vs, H1, I1, r1, q1⟩ => ?_) hs rfl))
  obtain ⟨a, xs, ex, q⟩ := q1
  subst ex
  cases r1 with
  | cons r rr =>
    cases rr
    cases r
    have fp2 : ∀ b ∈ [s1.heap.objs.size + 1, s1.heap.objs.size], FpOk X pins H1 b := fun b hb => by
      have e' : b = s1.heap.objs.size + 1 ∨ b = s1.heap.objs.size := by simpa using hb
      have hle : s1.heap.objs.size ≤ b := by
        rcases e' with z | z
        · rw [z]; exact Nat.le_add_right _ _
        · rw [z]; exact Nat.le_refl _
      exact I1.fpOk hle (I1.hok.fresh hle)
    rcases q with ⟨hq, q⟩ | ⟨hq, q⟩
    · obtain ⟨its, rv, p', hz⟩ := I1.list hq
      refine call_enumerate_list p'.isList fun h' he hit hsz hk => wpAny_pyIter_enum he ?_
      have I2 : Inv X pins σ H1 { s1 with heap := h' } := I1.kept (t' := s1.toks) hk
      exact ⟨s1.heap.objs.size + 1, [s1.heap.objs.size + 1, s1.heap.objs.size], _, _, H1, rfl, I2, turn_enum a (s1.heap.objs.size + 1) s1.heap.objs.size, ⟨⟨.none, he⟩, hit, Nat.succ_ne_self _⟩, fp2, q hz⟩
    · obtain ⟨its, rv, p', hz⟩ := I1.tuple hq
      have p' : s1.heap.IsTuple a its.toArray := p'
      refine enum_begins1 (begins_tuple a its.toArray) p' fun h' he ho hsz hk => wpAny_pyIter_enum he ?_
      have I2 : Inv X pins σ H1 { s1 with heap := h' } := I1.kept (t' := s1.toks) hk
      exact ⟨s1.heap.objs.size + 1, [s1.heap.objs.size + 1, s1.heap.objs.size], _, _, H1, rfl, I2, turn_enumT a (s1.heap.objs.size + 1) s1.heap.objs.size, ⟨⟨.none, he⟩, ⟨_, ho, rfl, rfl⟩, Nat.succ_ne_self _⟩, fp2, q hz⟩
end T
set_option Elab.async false
set_option linter.all false
set_option maxRecDepth 100000
set_option maxHeartbeats 4000000
namespace T
open PySem PySem.Spec PyProof.Rows L2 HT RZ
/-- a target's value: an item of a walk may be a pair that the walk itself made -/
def RepW (K : PySem.W.Frag) (F : Hp) (g : Tg) (v : V) (d : D) : Prop := Rep K F v d ∨ ((∃ gs, g = .tp gs) ∧ ∃ a xs ds, v = .ref a ∧ SqT K F a xs ∧ RepA K F xs ds ∧ d = .tup ds)
def GQ (K : PySem.W.Frag) (F Z : Hp) (M : MH) (own : List Nat) (σ : L2.St) (Q' : En → Prop) (σ' : L2.St) (H' : Hp) : Prop := ∃ ρ', SR K F M Z H' ∧ RE K F σ' ρ' ∧ Q' ρ' ∧ ∀ vs, (∀ i ∈ own, i ∈ vs) → L2.wipe σ' vs = L2.wipe σ vs
def gD (X : Cx) (g : Tg) : TG := fun v σ H Q => ∃ F M Z ρ d Q', SR X.K F M Z H ∧ RE X.K F σ ρ ∧ RepW X.K F g v d ∧ g.put d ρ Q' ∧ ∀ σ' H', GQ X.K F Z M g.own σ Q' σ' H' → Q σ' H'
def gDs (X : Cx) (gs : Tgs) : TGs := fun vs σ H Q => ∃ F M Z ρ ds Q', SR X.K F M Z H ∧ RE X.K F σ ρ ∧ RepA X.K F vs ds ∧ gs.put ds ρ Q' ∧ ∀ σ' H', GQ X.K F Z M gs.own σ Q' σ' H' → Q σ' H'
theorem wipe_set {σ : L2.St} {i : Nat} {x : Option V} : ∀ {vs : List Nat}, i ∈ vs → L2.wipe (σ.set i x) vs = L2.wipe σ vs
  | v :: vs, h => by
    unfold L2.wipe
    by_cases hi : i ∈ vs
    · rw [wipe_set hi]
    · rcases List.mem_cons.mp h with e | e
      · subst e
        clear h
        have key : ∀ ws : List Nat, (L2.wipe (σ.set i x) ws).set i none = (L2.wipe σ ws).set i none := fun ws => by
          induction ws with
          | nil => simp [L2.wipe]
          | cons w ws ih =>
            unfold L2.wipe
            by_cases hw : w = i
            · subst hw
              simpa using ih
            · rw [List.set_comm _ _ hw, List.set_comm _ _ hw, ih]
        exact key vs
      · exact absurd e hi
section
variable {N : List Str} {sc : Scope} {X : Cx} {fn : Str → Bool}
theorem loc_of {n : Str} (hs : X.env.scope = sc) (hf : ∀ n, fn n = true → X.fn n = true) (h : locB sc fn n = true) : Loc X.env.scope n ∧ (X.fn n = true ∨ X.env.scope.names.lookup n = some .local) := by
  unfold locB at h
  rw [hs]
  split at h
  · rename_i e; exact ⟨.inl e, .inr e⟩
  · rename_i e; exact ⟨.inr e, .inl (hf _ h)⟩
  · cases h
theorem ckGs_len : ∀ {gs : Tgs} {xs : List Expr}, ckGs N sc fn gs xs = true → gs.len = xs.length ∧ ∀ x ∈ xs, noStar x = true
  | .nil, xs, h => by
    cases xs with
    | nil => exact ⟨rfl, fun x hx => by cases hx⟩
    | cons x r => exact absurd (show false = true from h) Bool.false_ne_true
  | .cons g r, [], h => absurd (show false = true from h) Bool.false_ne_true
  | .cons g r, x :: xs, h => by
    obtain ⟨h1, h2⟩ := ba (show (ckG N sc fn g x && ckGs N sc fn r xs) = true from h)
    obtain ⟨e, hs⟩ := ckGs_len h2
    refine ⟨by simp [Tgs.len, e], fun y hy => ?_⟩
    rcases List.mem_cons.mp hy with rfl | hy
    · cases g <;> cases y <;> first
        | rfl
        | exact absurd (show false = true from h1) Bool.false_ne_true
    · exact hs y hy
theorem assignEach_len {env : Env} : ∀ {xs : List Expr}, (∀ x ∈ xs, noStar x = true) → (assignEach xs env).length = xs.length ∧ (assignEach xs env).findIdx? (·.1) = none
  | [], _ => ⟨rfl, rfl⟩
  | x :: r, h => by
    obtain ⟨e1, e2⟩ := assignEach_len (env := env) fun y hy => h y (List.mem_cons_of_mem _ hy)
    rw [assignEach_of (h x List.mem_cons_self)]
    exact ⟨by simp [e1], by simp [List.findIdx?_cons, e2]⟩
theorem put_len : ∀ {gs : Tgs} {ds : List D} {ρ : En} {k : En → Prop}, gs.put ds ρ k → ds.length = gs.len ∨ False
  | .nil, [], _, _, _ => .inl rfl
  | .nil, _ :: _, _, _, h => by simp [Tgs.put] at h
  | .cons _ _, [], _, _, h => by simp [Tgs.put] at h
  | .cons g r, d :: ds, ρ, k, h => by
    simp only [Tgs.put] at h
    have aux : ∀ (g : Tg) (d : D) (ρ : En) (k : En → Prop), g.put d ρ k → ∃ ρ', k ρ' := fun g => by
      refine Tg.rec (motive_1 := fun g => ∀ (d : D) (ρ : En) (k : En → Prop), g.put d ρ k → ∃ ρ', k ρ') (motive_2 := fun gs => ∀ (ds : List D) (ρ : En) (k : En → Prop), gs.put ds ρ k → ∃ ρ', k ρ') ?_ ?_ ?_ ?_ g
      · intro i d ρ k h; simp only [Tg.put] at h; exact ⟨_, h⟩
      · intro gs ih d ρ k h
        simp only [Tg.put] at h
        split at h
        · exact ih _ _ _ h
        · exact ih _ _ _ h
        · exact h.elim
      · intro ds ρ k h
        cases ds with
        | nil => simp only [Tgs.put] at h; exact ⟨_, h⟩
        | cons => simp [Tgs.put] at h
      · intro g r ih1 ih2 ds ρ k h
        cases ds with
        | nil => simp [Tgs.put] at h
        | cons d ds =>
          simp only [Tgs.put] at h
          obtain ⟨ρ', h⟩ := ih1 _ _ _ h
          exact ih2 _ _ _ h
    obtain ⟨ρ', h'⟩ := aux g d ρ _ h
    rcases put_len h' with e | e
    · exact .inl (by simp [Tgs.len, e])
    · exact e.elim
/-- a name as the target: also while an exception is handled -/
theorem jgn (hN : X.N = N) (nd : N.Nodup) (hs : X.env.scope = sc) (hf : ∀ n, fn n = true → X.fn n = true) {i : Nat} {x : Expr} (h : ckG N sc fn (.nm i) x = true) : PG X x (gD X (.nm i)) := by
  cases x <;> first
    | exact absurd (show false = true from h) Bool.false_ne_true
    | skip
  rename_i n p
  obtain ⟨h1, h2⟩ := da (show (decide (N[i]? = some n) && locB sc fn n) = true from h)
  obtain ⟨l1, l2⟩ := loc_of hs hf h2
  have base := pg_name (X := X) (pos := p) (by rw [hN]; exact nd) (by rw [hN]; exact h1) l1 l2
  refine ⟨fun pins s σ H v u Q I r hq => base.run pins s σ H v u Q I r ?_⟩
  obtain ⟨F, M, Z, ρ, d, Q', sr, re, rw', hp, k⟩ := hq
  rcases rw' with rw' | ⟨⟨gs, e⟩, _⟩
  · simp only [Tg.put] at hp
    exact k _ _ ⟨_, sr, re.set i rw', hp, fun vs hv => wipe_set (hv i (by simp [Tg.own]))⟩
  · cases e
mutual
theorem jg (hN : X.N = N) (nd : N.Nodup) (hc : X.calm = true) (hs : X.env.scope = sc) (hf : ∀ n, fn n = true → X.fn n = true) : ∀ {g : Tg} {x : Expr}, ckG N sc fn g x = true → PG X x (gD X g)
  | .nm i, x, h => by
    cases x <;> first
      | exact absurd (show false = true from h) Bool.false_ne_true
      | skip
    rename_i n p
    obtain ⟨h1, h2⟩ := da (show (decide (N[i]? = some n) && locB sc fn n) = true from h)
    obtain ⟨l1, l2⟩ := loc_of hs hf h2
    have base := pg_name (X := X) (pos := p) (by rw [hN]; exact nd) (by rw [hN]; exact h1) l1 l2
    refine ⟨fun pins s σ H v u Q I r hq => base.run pins s σ H v u Q I r ?_⟩
    obtain ⟨F, M, Z, ρ, d, Q', sr, re, rw', hp, k⟩ := hq
    rcases rw' with rw' | ⟨⟨gs, e⟩, _⟩
    · simp only [Tg.put] at hp
      exact k _ _ ⟨_, sr, re.set i rw', hp, fun vs hv => wipe_set (hv i (by simp [Tg.own]))⟩
    · cases e
  | .tp gs, x, h => by
    cases x <;> first
      | exact absurd (show false = true from h) Bool.false_ne_true
      | skip
    rename_i xs kk p
    have h : ckGs N sc fn gs xs = true := h
    obtain ⟨hl, hst⟩ := ckGs_len h
    obtain ⟨a1, a2⟩ := assignEach_len (env := X.env) hst
    have base := pg_tup (X := X) (k := kk) (pos := p) (n := gs.len) hc (jgs hN nd hc hs hf h) (by rw [a1, hl]) a2
    have base2 := pg_lst (X := X) (k := kk) (pos := p) (n := gs.len) hc (jgs hN nd hc hs hf h) (by rw [a1, hl]) a2
    refine ⟨fun pins s σ H v u Q I r hq => ?_⟩
    obtain ⟨F, M, Z, ρ, d, Q', sr, re, rw', hp, k⟩ := hq
    have fin : ∀ {ds : List D} {xs : List V}, gs.put ds ρ Q' → RepA X.K F xs ds → xs.length = gs.len ∧ gDs X gs xs σ H Q := fun {ds xs} hp ra => by
      rcases put_len hp with e | e
      · exact ⟨by rw [ra.len, e], F, M, Z, ρ, ds, Q', sr, re, ra, hp, k⟩
      · exact e.elim
    rcases rw' with rw' | ⟨_, a, xs, ds, rfl, hq, ra, rfl⟩
    · simp only [Tg.put] at hp
      split at hp
      · rename_i ds
        cases rw' with
        | @tup a xs _ ht ra =>
          obtain ⟨e, q⟩ := fin hp ra
          exact base.run pins s σ H _ u Q I r ⟨a, xs, rfl, SqT.mono sr.f ht.sqt, e, q⟩
      · rename_i ds
        cases rw' with
        | @lst a xs _ ht ra =>
          obtain ⟨e, q⟩ := fin hp ra
          exact base2.run pins s σ H _ u Q I r ⟨a, xs, rfl, SqL.of (sr.f _ _ ht), e, q⟩
      · exact hp.elim
    · simp only [Tg.put] at hp
      obtain ⟨e, q⟩ := fin hp ra
      exact base.run pins s σ H _ u Q I r ⟨a, xs, rfl, SqT.mono sr.f hq, e, q⟩
theorem jgs (hN : X.N = N) (nd : N.Nodup) (hc : X.calm = true) (hs : X.env.scope = sc) (hf : ∀ n, fn n = true → X.fn n = true) : ∀ {gs : Tgs} {xs : List Expr}, ckGs N sc fn gs xs = true → PGs X xs (gDs X gs)
  | .nil, [], h => by
    have base := pgs_nil (X := X)
    refine ⟨fun pins s σ H vs us Q I r hq => base.run pins s σ H vs us Q I r ?_⟩
    obtain ⟨F, M, Z, ρ, ds, Q', sr, re, ra, hp, k⟩ := hq
    cases ds with
    | nil =>
      cases ra
      simp only [Tgs.put] at hp
      exact ⟨rfl, k _ _ ⟨_, sr, re, hp, fun _ _ => rfl⟩⟩
    | cons d ds => simp [Tgs.put] at hp
  | .nil, _ :: _, h => absurd (show false = true from h) Bool.false_ne_true
  | .cons g r, [], h => absurd (show false = true from h) Bool.false_ne_true
  | .cons g r, x :: xs, h => by
    have hst := (ckGs_len h).2
    obtain ⟨h1, h2⟩ := ba (show (ckG N sc fn g x && ckGs N sc fn r xs) = true from h)
    have base := pgs_cons (X := X) (jg hN nd hc hs hf h1) (jgs hN nd hc hs hf h2) (by rw [assignEach_of (hst x List.mem_cons_self)]; rfl)
    refine ⟨fun pins s σ H vs us Q I r hq => base.run pins s σ H vs us Q I r ?_⟩
    obtain ⟨F, M, Z, ρ, ds, Q', sr, re, ra, hp, k⟩ := hq
    cases ds with
    | nil => simp [Tgs.put] at hp
    | cons d ds =>
      cases ra with
      | cons rv ra =>
        simp only [Tgs.put] at hp
        refine ⟨_, _, rfl, F, M, Z, ρ, d, _, sr, re, .inl rv, hp, fun σ' H' ⟨ρ', sr', re', q', w'⟩ => ?_⟩
        refine ⟨F, M, Z, ρ', ds, Q', sr', re', ra, q', fun σ2 H2 ⟨ρ2, sr2, re2, q2, w2⟩ => k _ _ ⟨ρ2, sr2, re2, q2, fun ws hw => ?_⟩⟩
        rw [w2 ws fun i hi => hw i (by simp [Tgs.own, hi]), w' ws fun i hi => hw i (by simp [Tgs.own, hi])]
end
end
/-- J yields the items while G stands -/
structure Wk (K : PySem.W.Frag) (g : Tg) (F : Hp) (J : L2.It) (items : List D) (G : MH → Prop) : Prop where
  sz : items.length ≤ sizeLine
  go : ∀ F' M' Z' H' i, Same F F' → SR K F' M' Z' H' → G M' → i < items.length → J.go i H'
  stop : ∀ F' M' Z' H', Same F F' → SR K F' M' Z' H' → G M' → J.stop items.length H'
  yld : ∀ F' M' Z' H' i x H'' d, Same F F' → SR K F' M' Z' H' → G M' → items[i]? = some d → J.yld i H' x H'' → ∃ F'', Same F' F'' ∧ SR K F'' M' Z' H'' ∧ RepW K F'' g x d
def KQi (K : PySem.W.Frag) (g : Tg) (F Z : Hp) (Q' : List D → (MH → Prop) → MH → Prop) (J : L2.It) (H' : Hp) : Prop := ∃ F' M' items G, Same F F' ∧ SR K F' M' Z H' ∧ Wk K g F' J items G ∧ Q' items G M'
def tGi (K : PySem.W.Frag) (B : Hp → Hp → L2.St → En → Prop) (g : Tg) (wp : En → MH → (List D → (MH → Prop) → MH → Prop) → Prop) : TI := fun σ H R => ∃ F M Z ρ Q', SR K F M Z H ∧ B F Z σ ρ ∧ wp ρ M Q' ∧ ∀ J H', KQi K g F Z Q' J H' → R J H'
abbrev tDi (X : Cx) (tb : Tb) (C : SC) (R : Xc → MH → Prop) := tGi X.K (RX X tb C R)
abbrev tDid (X : Cx) (tb : Tb) (C : SC) (R : Xc → En → MH → Prop) := tGi X.K (RS X tb C R)
abbrev tDi0 (K : PySem.W.Frag) := tGi K fun F _ σ ρ => RE K F σ ρ
theorem PI_f {X : Cx} {tg iter : Expr} {tb : Tb} {C : SC} {g : Tg} {wp : En → MH → (List D → (MH → Prop) → MH → Prop) → Prop} (hC : C.exc = none) (h : PI X tg iter (tDi X tb C (fun _ _ => False) g wp)) : PI X tg iter (tDi0 X.K g wp) :=
  ⟨fun pins s σ H Q I ⟨F, M, Z, ρ, Q', sr, re, hw, k⟩ => h.run pins s σ H Q I ⟨F, M, Z, ρ, Q', sr, RX.f hC re, hw, k⟩⟩
theorem PI_imp {X : Cx} {tg iter : Expr} {t t' : TI} (h : PI X tg iter t) (i : ∀ σ H Q, t' σ H Q → t σ H Q) : PI X tg iter t' := ⟨fun pins s σ H Q I w => h.run pins s σ H Q I (i σ H Q w)⟩
section
variable {K : PySem.W.Frag} {g : Tg} {F Z H : Hp} {M : MH}
theorem wk_range {lo : Int} {n : Nat} (hz : n ≤ sizeLine) : Wk K g F (Itr lo n) ((List.range n).map fun i : Nat => .int (lo + (i : Int))) (fun _ => True) where
  sz := by simpa using hz
  go := fun F' M' Z' H' i _ _ _ hi => by show i < n; simpa using hi
  stop := fun F' M' Z' H' _ _ _ => by show n ≤ _; simp
  yld := fun F' M' Z' H' i x H'' d s sr _ hd y => by
    obtain ⟨e1, e2⟩ := y
    subst e1 e2
    have hi : i < n := by
      have := (List.getElem?_eq_some_iff.mp hd).1
      simpa using this
    have : d = .int (lo + (i : Int)) := by
      simp [hi] at hd
      exact hd.symm
    subst this
    exact ⟨F', Same.refl F', sr, .inl (.int _)⟩
/-- a list or a tuple that stands while G does -/
def Sq (b : Bool) (K : PySem.W.Frag) (H : Hp) (a : Addr) (vs : List V) : Prop := match b with
  | false => SqL K H a vs
  | true => SqT K H a vs
structure Src (K : PySem.W.Frag) (F : Hp) (b : Bool) (a : Addr) (xs : List D) (G : MH → Prop) : Prop where
  at_ : ∀ F' M' Z' H', Same F F' → SR K F' M' Z' H' → G M' → ∃ vs, Sq b K H' a vs ∧ RepA K F' vs xs
theorem src_of {x : V} {dx : D} {P : List D → (MH → Prop) → Prop} (sr : SR K F M Z H) (rx : Rep K F x dx) (h : itsD M dx P) : ∃ a xs G, x = .ref a ∧ Src K F dx.isTup a xs G ∧ G M ∧ P xs G := by
  cases rx with
  | @lst a vs ds e ra => exact ⟨a, ds, _, rfl, ⟨fun F' M' Z' H' s sr _ => ⟨vs, SqL.of (sr.f _ _ (s _ _ e)), ra.mono s⟩⟩, trivial, h⟩
  | @tup a vs ds e ra => exact ⟨a, ds, _, rfl, ⟨fun F' M' Z' H' s sr _ => ⟨vs, SqT.mono sr.f (SqT.mono s e.sqt), ra.mono s⟩⟩, trivial, h⟩
  | @scr a ns e => exact ⟨a, _, _, rfl, ⟨fun F' M' Z' H' s sr _ => ⟨_, SqL.mono sr.f (SqL.mono s e), .ints ns⟩⟩, trivial, h⟩
  | ref a =>
    simp only [itsD] at h
    split at h
    case h_2 => exact h.elim
    rename_i xs hM
    exact ⟨a, xs, _, rfl, ⟨fun F' M' Z' H' s sr hG => let ⟨vs, h1, h2⟩ := cell_lst sr hG; ⟨vs, SqL.of h1, h2⟩⟩, hM, h⟩
  | _ => exact h.elim
/-- the walk of each kind -/
def Itx (b : Bool) (K : PySem.W.Frag) (a : Addr) : L2.It := match b with
  | false => Itl K a
  | true => Itt K a
def Iex (b : Bool) (K : PySem.W.Frag) (a : Addr) : L2.It := match b with
  | false => Ite K a
  | true => IteT K a
theorem wk_src {b : Bool} {a : Addr} {xs : List D} {G : MH → Prop} (S : Src K F b a xs G) (hz : xs.length ≤ sizeLine) : Wk K g F (Itx b K a) xs G where
  sz := hz
  go := fun F' M' Z' H' i s sr hG hi => by
    obtain ⟨vs, hH, ra⟩ := S.at_ F' M' Z' H' s sr hG
    obtain ⟨v, hv, _⟩ := ra.get (List.getElem?_eq_getElem hi)
    cases b <;> exact ⟨vs, v, hH, hv⟩
  stop := fun F' M' Z' H' s sr hG => by
    obtain ⟨vs, hH, ra⟩ := S.at_ F' M' Z' H' s sr hG
    cases b <;> exact ⟨vs, hH, by rw [ra.len]; exact Nat.le_refl _⟩
  yld := fun F' M' Z' H' i x H'' d s sr hG hd y => by
    obtain ⟨vs, hH, ra⟩ := S.at_ F' M' Z' H' s sr hG
    obtain ⟨v, hv, rv⟩ := ra.get hd
    cases b <;> (
      obtain ⟨e1, e2⟩ := y
      subst e1
      have := e2 vs hH
      rw [hv] at this
      cases this
      exact ⟨F', Same.refl F', sr, .inl rv⟩)
theorem enum_item {xs : List D} {i : Nat} {d : D} (h : (xs.zipIdx.map fun p => D.tup [.int p.2, p.1])[i]? = some d) : ∃ e, xs[i]? = some e ∧ d = .tup [.int (i : Int), e] := by
  simp only [List.getElem?_map, List.getElem?_zipIdx] at h
  cases q : xs[i]? with
  | none => rw [q] at h; simp at h
  | some e =>
    rw [q] at h
    simp at h
    exact ⟨e, rfl, h.symm⟩
theorem wk_enum {gs : Tgs} {b : Bool} {a : Addr} {xs : List D} {G : MH → Prop} (S : Src K F b a xs G) (hz : xs.length ≤ sizeLine) : Wk K (.tp gs) F (Iex b K a) (xs.zipIdx.map fun p => .tup [.int p.2, p.1]) G where
  sz := by simpa using hz
  go := fun F' M' Z' H' i s sr hG hi => by
    obtain ⟨vs, hH, ra⟩ := S.at_ F' M' Z' H' s sr hG
    have hi : i < xs.length := by simpa using hi
    obtain ⟨v, hv, _⟩ := ra.get (List.getElem?_eq_getElem hi)
    cases b <;> exact ⟨vs, v, hH, hv⟩
  stop := fun F' M' Z' H' s sr hG => by
    obtain ⟨vs, hH, ra⟩ := S.at_ F' M' Z' H' s sr hG
    cases b <;> exact ⟨vs, hH, by rw [ra.len]; simp⟩
  yld := fun F' M' Z' H' i x H'' d s sr hG hd y => by
    obtain ⟨e, he, rfl⟩ := enum_item hd
    obtain ⟨vs, hH, ra⟩ := S.at_ F' M' Z' H' s sr hG
    obtain ⟨v, hv, rv⟩ := ra.get he
    cases b <;> (
      obtain ⟨T, w, rfl, hT, rfl, e2⟩ := y
      have := e2 vs hH
      rw [hv] at this
      cases this
      obtain ⟨sF, sr'⟩ := sr.layF (o := .tup [.int (i : Nat), v]) hT
      exact ⟨_, sF, sr', .inr ⟨⟨gs, rfl⟩, T, _, _, rfl, .inl (.inl upd_same), .cons (.int _) (.cons (rv.mono sF) .nil), rfl⟩⟩)
def Izx (b : Bool) (K : PySem.W.Frag) (a a' : Addr) : L2.It := match b with
  | false => Itz K a a'
  | true => ItzT K a a'
theorem zip_item {xs ys : List D} {i : Nat} {d : D} (h : ((xs.zip ys).map fun p => D.tup [p.1, p.2])[i]? = some d) : ∃ e f, xs[i]? = some e ∧ ys[i]? = some f ∧ d = .tup [e, f] := by
  simp only [List.getElem?_map] at h
  cases q : (xs.zip ys)[i]? with
  | none => rw [q] at h; simp at h
  | some p =>
    rw [q] at h
    simp at h
    obtain ⟨h1, h2⟩ := List.getElem?_zip_eq_some.mp q
    exact ⟨_, _, h1, h2, h.symm⟩
theorem wk_zip {gs : Tgs} {b : Bool} {a a' : Addr} {xs ys : List D} {G G' : MH → Prop} (S : Src K F b a xs G) (S' : Src K F b a' ys G') (hz : xs.length ≤ sizeLine) : Wk K (.tp gs) F (Izx b K a a') ((xs.zip ys).map fun p => .tup [p.1, p.2]) (fun M' => G M' ∧ G' M') where
  sz := by simp; omega
  go := fun F' M' Z' H' i s sr hG hi => by
    obtain ⟨vs, hH, ra⟩ := S.at_ F' M' Z' H' s sr hG.1
    obtain ⟨ws, hH', ra'⟩ := S'.at_ F' M' Z' H' s sr hG.2
    simp only [List.length_map, List.length_zip] at hi
    obtain ⟨v, hv, _⟩ := ra.get (List.getElem?_eq_getElem (show i < xs.length by omega))
    obtain ⟨w, hw, _⟩ := ra'.get (List.getElem?_eq_getElem (show i < ys.length by omega))
    cases b <;> exact ⟨vs, ws, v, w, hH, hH', hv, hw⟩
  stop := fun F' M' Z' H' s sr hG => by
    obtain ⟨vs, hH, ra⟩ := S.at_ F' M' Z' H' s sr hG.1
    obtain ⟨ws, hH', ra'⟩ := S'.at_ F' M' Z' H' s sr hG.2
    have l1 := ra.len
    have l2 := ra'.len
    cases b <;> exact ⟨vs, ws, hH, hH', by simp; omega⟩
  yld := fun F' M' Z' H' i x H'' d s sr hG hd y => by
    obtain ⟨e, f, he, hf, rfl⟩ := zip_item hd
    obtain ⟨vs, hH, ra⟩ := S.at_ F' M' Z' H' s sr hG.1
    obtain ⟨ws, hH', ra'⟩ := S'.at_ F' M' Z' H' s sr hG.2
    obtain ⟨v, hv, rv⟩ := ra.get he
    obtain ⟨w, hw, rw'⟩ := ra'.get hf
    cases b <;> (
      obtain ⟨T, v', w', rfl, hT, rfl, e1, e2⟩ := y
      have := e1 vs hH
      rw [hv] at this
      cases this
      have := e2 ws hH'
      rw [hw] at this
      cases this
      obtain ⟨sF, sr'⟩ := sr.layF (o := .tup [v, w]) hT
      exact ⟨_, sF, sr', .inr ⟨⟨gs, rfl⟩, T, _, _, rfl, .inl (.inl upd_same), .cons (rv.mono sF) (.cons (rw'.mono sF) .nil), rfl⟩⟩)
end
def iExA (K : PySem.W.Frag) (tl : TE) : TI := fun σ H R => tl σ H fun x H1 => ∃ b a xs, x = .ref a ∧ Sq b K H1 a xs ∧ (xs.length ≤ sizeLine → R (Itx b K a) H1)
theorem pi_exA {X : Cx} {tg l : Expr} {tl : TE} (hl : PE X l tl) : PI X tg l (iExA X.K tl) := by
  refine ⟨fun pins s σ H R I h => ?_⟩
  refine thn (hl.run pins s σ H _ I h) fun v s1 ⟨x, H1, I1, r1, q1⟩ => ?_
  obtain ⟨b, a, xs, e, hq, q⟩ := q1
  subst e
  cases r1
  cases b with
  | false =>
    obtain ⟨its, rv, p, hz⟩ := I1.list hq
    refine wpAny_pyIter_list p.isList ?_
    refine ⟨s1.heap.objs.size, [s1.heap.objs.size], _, _, H1, rfl, I1.kept (t' := s1.toks) fun b o e => Heap.get?_push_of_some _ e, turn_list a _, ⟨_, Heap.get?_push_size _ rfl, rfl, rfl⟩, fun b hb => ?_, q hz⟩
    have e : b = s1.heap.objs.size := by simpa using hb
    subst e
    exact I1.fpOk (Nat.le_refl _) (I1.hok.fresh (Nat.le_refl _))
  | true =>
    obtain ⟨its, rv, p, hz⟩ := I1.tuple hq
    refine wpAny_pyIter_tuple (show s1.heap.IsTuple a its.toArray from p) ?_
    refine ⟨s1.heap.objs.size, [s1.heap.objs.size], _, _, H1, rfl, I1.kept (t' := s1.toks) fun b o e => Heap.get?_push_of_some _ e, turn_tuple a _, ⟨_, Heap.get?_push_size _ rfl, rfl, rfl⟩, fun b hb => ?_, q hz⟩
    have e : b = s1.heap.objs.size := by simpa using hb
    subst e
    exact I1.fpOk (Nat.le_refl _) (I1.hok.fresh (Nat.le_refl _))
section
variable {P : Nat → Option Fn} {G : Nat → Option D} {tb : Tb} {n : Nat} {e0 : Option (Addr × Xc)} {N : List Str} {sc : Scope} {X : Cx} {R : Xc → MH → Prop} {C : SC}
variable {a b : Ex} {x y tg : Expr} {pos p tpos : Pos} {g : Tg} {elts : List Expr} {kk : Nat}
theorem ji_ex (ha : PE X x (tD X tb C R (wpE C R a))) : PI X tg x (tDi X tb C R g (wpI C R (.ex a))) := by
  refine PI_imp (pi_exA ha) fun σ H Q h => ?_
  obtain ⟨F, M, Z, ρ, Q', sr, re, hw, k⟩ := h
  simp only [wpI] at hw
  refine ⟨F, M, Z, ρ, _, sr, re, hw, fun v H1 ⟨F1, M1, dx, s1, sr1, rx, h1⟩ => ?_⟩
  obtain ⟨a, xs, G, rfl, S, hG, q⟩ := src_of sr1 rx h1
  obtain ⟨vs, hq, ra⟩ := S.at_ F1 M1 Z H1 (Same.refl F1) sr1 hG
  exact ⟨_, a, vs, rfl, hq, fun hz => k _ _ ⟨F1, M1, xs, G, s1, sr1, wk_src S (by rw [← ra.len]; exact hz), q⟩⟩
theorem ji_rng (c : CK P G tb n e0 N sc X) (hg : glB sc "range" = true) (hs : noStar x = true) (ha : PE X x (tD X tb C R (wpE C R a))) : PI X tg (.Call (.Name "range" p) [x] [] pos) (tDi X tb C R g (wpI C R (.rng a))) := by
  refine PI_imp (pi_range1 (c.gl hg) (c.blt _ (by decide)) (pa_cons ha pa_nil (star_of hs)) (star_of hs)) fun σ H Q h => ?_
  obtain ⟨F, M, Z, ρ, Q', sr, re, hw, k⟩ := h
  simp only [wpI] at hw
  refine ⟨F, M, Z, ρ, _, sr, re, hw, fun v H1 ⟨F1, M1, dx, s1, sr1, rx, h1⟩ => ?_⟩
  cases dx <;> first
    | exact h1.elim
    | skip
  cases rx
  obtain ⟨hz, hz0, h1⟩ := h1
  have hsz := sizeLine_eq
  exact ⟨_, rfl, by omega, by omega, k _ _ ⟨F1, M1, _, _, s1, sr1, wk_range (by omega), h1⟩⟩
theorem ji_rng2 (c : CK P G tb n e0 N sc X) (hg : glB sc "range" = true) (hs : noStar x = true) (hs2 : noStar y = true) (ha : PE X x (tD X tb C R (wpE C R a))) (hb : PE X y (tD X tb C R (wpE C R b))) : PI X tg (.Call (.Name "range" p) [x, y] [] pos) (tDi X tb C R g (wpI C R (.rng2 a b))) := by
  refine PI_imp (pi_range2 (c.gl hg) (c.blt _ (by decide)) (pa_cons ha (pa_cons hb pa_nil (star_of hs2)) (star_of hs)) (by rw [star_of hs, star_of hs2]; rfl) (star_of hs2)) fun σ H Q h => ?_
  obtain ⟨F, M, Z, ρ, Q', sr, re, hw, k⟩ := h
  simp only [wpI] at hw
  refine ⟨F, M, Z, ρ, _, sr, re, hw, fun v H1 ⟨F1, M1, dx, s1, sr1, rx, h1⟩ => ⟨F1, M1, Z, ρ, _, sr1, re.mono s1, h1, fun v2 H2 ⟨F2, M2, dy, s2, sr2, ry, h2⟩ => ?_⟩⟩
  cases dx <;> first
    | exact h2.elim
    | skip
  cases dy <;> first
    | exact h2.elim
    | skip
  cases rx
  cases ry
  obtain ⟨⟨h3, h4, h5, h6, h7⟩, h2⟩ := h2
  have hsz := sizeLine_eq
  exact ⟨_, _, rfl, by omega, k _ _ ⟨F2, M2, _, _, s1.trans s2, sr2, wk_range (by omega), h2⟩⟩
theorem ji_enu (c : CK P G tb n e0 N sc X) {gs : Tgs} (hg : glB sc "enumerate" = true) (hs : noStar x = true) (ha : PE X x (tD X tb C R (wpE C R a))) : PI X (.Tuple elts kk tpos) (.Call (.Name "enumerate" p) [x] [] pos) (tDi X tb C R (.tp gs) (wpI C R (.enu a))) := by
  refine PI_imp (pi_enumA (c.gl hg) (c.blt _ (by decide)) (pa_cons ha pa_nil (star_of hs)) (star_of hs)) fun σ H Q h => ?_
  obtain ⟨F, M, Z, ρ, Q', sr, re, hw, k⟩ := h
  simp only [wpI] at hw
  refine ⟨F, M, Z, ρ, _, sr, re, hw, fun v H1 ⟨F1, M1, dx, s1, sr1, rx, h1⟩ => ?_⟩
  obtain ⟨a, xs, G, rfl, S, hG, hz, q⟩ := src_of sr1 rx h1
  obtain ⟨vs, hq, ra⟩ := S.at_ F1 M1 Z H1 (Same.refl F1) sr1 hG
  refine ⟨a, vs, rfl, ?_⟩
  generalize dx.isTup = b at S hq
  cases b with
  | false => exact .inl ⟨hq, fun hz => k _ _ ⟨F1, M1, _, _, s1, sr1, wk_enum S (by rw [← ra.len]; exact hz), q⟩⟩
  | true => exact .inr ⟨hq, fun hz => k _ _ ⟨F1, M1, _, _, s1, sr1, wk_enum S (by rw [← ra.len]; exact hz), q⟩⟩
theorem ji_zip (c : CK P G tb n e0 N sc X) {gs : Tgs} (hg : glB sc "zip" = true) (hs : noStar x = true) (hs2 : noStar y = true) (ha : PE X x (tD X tb C R (wpE C R a))) (hb : PE X y (tD X tb C R (wpE C R b))) : PI X (.Tuple elts kk tpos) (.Call (.Name "zip" p) [x, y] [] pos) (tDi X tb C R (.tp gs) (wpI C R (.zip a b))) := by
  refine PI_imp (pi_zipA (c.gl hg) (c.blt _ (by decide)) (pa_cons ha (pa_cons hb pa_nil (star_of hs2)) (star_of hs)) (star_of hs) (any_of fun z hz => ?_)) fun σ H Q h => ?_
  · have : z = y := by simpa using hz
    rw [this]; exact hs2
  obtain ⟨F, M, Z, ρ, Q', sr, re, hw, k⟩ := h
  simp only [wpI] at hw
  refine ⟨F, M, Z, ρ, _, sr, re, hw, fun v H1 ⟨F1, M1, dx, s1, sr1, rx, h1⟩ => ⟨F1, M1, Z, ρ, _, sr1, re.mono s1, h1, fun v2 H2 ⟨F2, M2, dy, s2, sr2, ry, h2⟩ => ?_⟩⟩
  obtain ⟨a, xs, G, rfl, S, hG, h2⟩ := src_of sr2 (rx.mono s2) h2
  obtain ⟨a', ys, G', rfl, S', hG', ⟨hz, et⟩, h2⟩ := src_of sr2 ry h2
  obtain ⟨vs, hq, ra⟩ := S.at_ F2 M2 Z H2 (Same.refl F2) sr2 hG
  obtain ⟨ws, hq', ra'⟩ := S'.at_ F2 M2 Z H2 (Same.refl F2) sr2 hG'
  refine ⟨a, a', vs, ws, rfl, ?_⟩
  rw [← et] at S' hq'
  generalize dx.isTup = b at S S' hq hq'
  cases b with
  | false => exact .inl ⟨hq, hq', k _ _ ⟨F2, M2, _, _, s1.trans s2, sr2, wk_zip S S' hz, h2⟩⟩
  | true => exact .inr ⟨hq, hq', k _ _ ⟨F2, M2, _, _, s1.trans s2, sr2, wk_zip S S' hz, h2⟩⟩
end
end T
set_option Elab.async false
set_option linter.all false
set_option maxRecDepth 100000
set_option maxHeartbeats 4000000
namespace T
open PySem PySem.Spec PyProof.Rows L2 HT
section
variable {K : PySem.W.Frag} {F Z H : Hp} {M : MH}
theorem mkL_give {m : Bool} {p : Addr} {vs : List V} {ds : List D} {Q' : D → MH → Prop} (sr : SR K F M (upd Z p (.lst vs)) H) (hz : Z p = none) (ra : RepA K F vs ds) (q : mkL m ds M Q') : KQ K F Z Q' (.ref p) H := by
  unfold mkL at q
  cases m with
  | false =>
    rw [if_neg (by decide)] at q
    obtain ⟨sF, sr'⟩ := sr.giveF hz
    exact ⟨_, M, _, sF, sr', .lst upd_same (ra.mono sF), q⟩
  | true =>
    rw [if_pos rfl] at q
    obtain ⟨hM, sr'⟩ := sr.giveM hz (.lst ra)
    exact ⟨F, _, _, Same.refl F, sr', .ref p, q p hM⟩
end
theorem wipe_sub {σ : L2.St} {vs : List Nat} : ∀ {us : List Nat}, (∀ i ∈ us, i ∈ vs) → L2.wipe (L2.wipe σ us) vs = L2.wipe σ vs
  | [], _ => rfl
  | u :: us, h => by
    show L2.wipe ((L2.wipe σ us).set u none) vs = _
    rw [wipe_set (h u List.mem_cons_self)]
    exact wipe_sub fun i hi => h i (List.mem_cons_of_mem _ hi)
theorem wipe_wipe (σ : L2.St) (vs : List Nat) : L2.wipe (L2.wipe σ vs) vs = L2.wipe σ vs := wipe_sub fun _ h => h
section
variable {X : Cx} {C : SC} {R : Xc → En → MH → Prop} {g : Tg} {it : It} {c : Eo} {e : Ex} {m : Bool} {own : List Nat}
abbrev lcBody (C : SC) (g : Tg) (c : Eo) (e : Ex) (ρ : En) (own : List Nat) : List D → D → MH → (List D → MH → Prop) → Prop := fun acc x M' k => g.put x (wipeE ρ own) fun ρ' => wpT C (fun _ _ => False) c ρ' M' fun b M2 =>
        if b = true then wpE C (fun _ _ => False) e ρ' M2 fun d M3 => k (acc ++ [d]) M3 else k acc M2
theorem drop_at {α : Type} {xs : List α} {i : Nat} {d : α} (h : xs[i]? = some d) : xs.drop i = d :: xs.drop (i + 1) := by
  obtain ⟨hi, e⟩ := List.getElem?_eq_some_iff.mp h
  rw [← e]
  exact List.drop_eq_getElem_cons hi
/-- the reading of one clause -/
theorem lc_dep {B : Hp → Hp → L2.St → En → Prop} (hB : ∀ {F Z : Hp} {σ : L2.St} {ρ : En}, B F Z σ ρ → RE X.K F σ ρ) (hown : ∀ i ∈ g.own, i ∈ own) : ∀ σ H Q, tG X.K B (fun ρ M Q => wpI C (fun x M' => R x ρ M') it ρ M fun items G M1 => wpC G (lcBody C g c e ρ own) items [] M1 fun ds M2 => mkL m ds M2 Q) σ H Q →
    tLc (tGi X.K B g fun ρ => wpI C (fun x M' => R x ρ M') it ρ) (gD X g) (tDt0 X.K (wpT C (fun _ _ => False) c)) (tD0 X.K (wpE C (fun _ _ => False) e)) own σ H Q := fun σ H Q ⟨F, M, Z, ρ, Q', sr, re, hw, k⟩ => by
  refine ⟨F, M, Z, ρ, _, sr, re, hw, fun J H1 ⟨F1, M1, items, G, s1, sr1, wk, h1⟩ D hD => ?_⟩
  obtain ⟨_, _, hZ⟩ := sr1.new hD
  have re1 := (hB re).mono s1
  have rew := re1.wipe own
  refine ⟨fun i m H => ∃ F2 M2 vs acc, Same F1 F2 ∧ SR X.K F2 M2 (upd Z D (.lst vs)) H ∧ RepA X.K F2 vs acc ∧ m = items.length - i ∧ i ≤ items.length ∧ acc.length ≤ i ∧ wpC G (lcBody C g c e ρ own) (items.drop i) acc M2 fun ds M2 => mkL _ ds M2 Q', ⟨items.length, F1, M1, [], [], Same.refl F1, sr1.layZ hD, .nil, by simp, Nat.zero_le _, Nat.le_refl _, by simpa using h1⟩, ?_⟩
  rintro i m H2 ⟨F2, M2, vs, acc, s2, sr2, ra, rfl, hi, hl, hw⟩
  by_cases hlt : i < items.length
  · obtain ⟨d, hd⟩ : ∃ d, items[i]? = some d := ⟨_, List.getElem?_eq_getElem hlt⟩
    rw [drop_at hd] at hw
    simp only [wpC] at hw
    obtain ⟨hG, hw⟩ := hw
    refine .inr ⟨wk.go F2 M2 _ H2 i s2 sr2 hG hlt, fun H => ∃ F2 M2 vs acc, Same F1 F2 ∧ SR X.K F2 M2 (upd Z D (.lst vs)) H ∧ RepA X.K F2 vs acc ∧ acc.length ≤ i + 1 ∧ wpC G (lcBody C g c e ρ own) (items.drop (i + 1)) acc M2 fun ds M2 => mkL _ ds M2 Q',
      fun H' ⟨F3, M3, vs3, acc3, s3, sr3, ra3, hl3, hw3⟩ => ⟨items.length - (i + 1), by omega, F3, M3, vs3, acc3, s3, sr3, ra3, rfl, by omega, hl3, hw3⟩, fun x H3 y => ?_⟩
    obtain ⟨F3, s3, sr3, rx⟩ := wk.yld F2 M2 _ H2 i x H3 d s2 sr2 hG hd y
    refine ⟨F3, M2, _, _, d, _, sr3, rew.mono (s2.trans s3), rx, hw, fun σ4 H4 ⟨ρ4, sr4, re4, h4, w4⟩ => ⟨?_, ?_⟩⟩
    · rw [w4 own hown]
      exact wipe_wipe _ _
    · refine ⟨F3, M2, _, ρ4, _, sr4, re4, h4, fun b H5 ⟨F5, M5, s5, sr5, h5⟩ => ?_⟩
      cases b with
      | false =>
        simp only [Bool.false_eq_true, if_false] at h5 ⊢
        exact ⟨F5, M5, vs, acc, (s2.trans s3).trans s5, sr5, ra.mono (s3.trans s5), by omega, h5⟩
      | true =>
        simp only [if_true] at h5 ⊢
        refine ⟨F5, M5, _, ρ4, _, sr5, re4.mono s5, h5, fun v H6 ⟨F6, M6, dv, s6, sr6, rv, h6⟩ => ?_⟩
        refine ⟨vs, sr6.z _ _ upd_same, ?_, F6, M6, vs ++ [v], acc ++ [dv], ((s2.trans s3).trans s5).trans s6, ?_, ((ra.mono ((s3.trans s5).trans s6))).app (.cons rv .nil), ?_, h6⟩
        · have := ra.len
          have := wk.sz
          omega
        · exact sr6.putZ hZ
        · simp; omega
  · have e1 : i = items.length := by omega
    subst e1
    rw [List.drop_length] at hw
    simp only [wpC] at hw
    obtain ⟨hG, hw⟩ := hw
    refine .inl ⟨wk.stop F2 M2 _ H2 s2 sr2 hG, k _ _ ?_⟩
    exact (mkL_give sr2 hZ ra hw).back (s1.trans s2)
variable {g2 : Tg} {it2 : It} {c2 : Eo}
abbrev lc2Body (C : SC) (g : Tg) (c : Eo) (g2 : Tg) (it2 : It) (c2 : Eo) (e : Ex) (ρ : En) (own : List Nat) : List D → D → MH → (List D → MH → Prop) → Prop := fun acc x M' k => g.put x (wipeE ρ own) fun ρ' => wpT C (fun _ _ => False) c ρ' M' fun b M2 => if b = true then
          wpI C (fun _ _ => False) it2 ρ' M2 fun items2 G2 M3 => acc.length + items2.length ≤ sizeLine ∧ wpC G2 (lcBody C g2 c2 e ρ' g2.own) items2 acc M3 k
        else k acc M2
theorem lc2_dep {B : Hp → Hp → L2.St → En → Prop} (hB : ∀ {F Z : Hp} {σ : L2.St} {ρ : En}, B F Z σ ρ → RE X.K F σ ρ) (hown : ∀ i ∈ g.own, i ∈ own) (hown2 : ∀ i ∈ g2.own, i ∈ own) : ∀ σ H Q, tG X.K B (fun ρ M Q => wpI C (fun x M' => R x ρ M') it ρ M fun items G M1 => wpC G (lc2Body C g c g2 it2 c2 e ρ own) items [] M1 fun ds M2 => mkL m ds M2 Q) σ H Q →
    tLc2 (tGi X.K B g fun ρ => wpI C (fun x M' => R x ρ M') it ρ) (gD X g) (tDt0 X.K (wpT C (fun _ _ => False) c)) (tDi0 X.K g2 (wpI C (fun _ _ => False) it2)) (gD X g2) (tDt0 X.K (wpT C (fun _ _ => False) c2)) (tD0 X.K (wpE C (fun _ _ => False) e)) own g2.own σ H Q := fun σ H Q ⟨F, M, Z, ρ, Q', sr, re, hw, k⟩ => by
  refine ⟨F, M, Z, ρ, _, sr, re, hw, fun J H1 ⟨F1, M1, items, G, s1, sr1, wk, h1⟩ D hD => ?_⟩
  obtain ⟨_, _, hZ⟩ := sr1.new hD
  have re1 := (hB re).mono s1
  have rew := re1.wipe own
  refine ⟨fun i m H => ∃ F2 M2 vs acc, Same F1 F2 ∧ SR X.K F2 M2 (upd Z D (.lst vs)) H ∧ RepA X.K F2 vs acc ∧ m = items.length - i ∧ i ≤ items.length ∧ wpC G (lc2Body C g c g2 it2 c2 e ρ own) (items.drop i) acc M2 fun ds M2 => mkL _ ds M2 Q', ⟨items.length, F1, M1, [], [], Same.refl F1, sr1.layZ hD, .nil, by simp, Nat.zero_le _, by simpa using h1⟩, ?_⟩
  rintro i m H2 ⟨F2, M2, vs, acc, s2, sr2, ra, rfl, hi, hw⟩
  by_cases hlt : i < items.length
  · obtain ⟨d, hd⟩ : ∃ d, items[i]? = some d := ⟨_, List.getElem?_eq_getElem hlt⟩
    rw [drop_at hd] at hw
    simp only [wpC] at hw
    obtain ⟨hG, hw⟩ := hw
    refine .inr ⟨wk.go F2 M2 _ H2 i s2 sr2 hG hlt, fun H => ∃ F2 M2 vs acc, Same F1 F2 ∧ SR X.K F2 M2 (upd Z D (.lst vs)) H ∧ RepA X.K F2 vs acc ∧ wpC G (lc2Body C g c g2 it2 c2 e ρ own) (items.drop (i + 1)) acc M2 fun ds M2 => mkL _ ds M2 Q',
      fun H' ⟨F3, M3, vs3, acc3, s3, sr3, ra3, hw3⟩ => ⟨items.length - (i + 1), by omega, F3, M3, vs3, acc3, s3, sr3, ra3, rfl, by omega, hw3⟩, fun x H3 y => ?_⟩
    obtain ⟨F3, s3, sr3, rx⟩ := wk.yld F2 M2 _ H2 i x H3 d s2 sr2 hG hd y
    refine ⟨F3, M2, _, _, d, _, sr3, rew.mono (s2.trans s3), rx, hw, fun σ4 H4 ⟨ρ4, sr4, re4, h4, w4⟩ => ⟨?_, ?_⟩⟩
    · rw [w4 own hown]
      exact wipe_wipe _ _
    · refine ⟨F3, M2, _, ρ4, _, sr4, re4, h4, fun b H5 ⟨F5, M5, s5, sr5, h5⟩ => ?_⟩
      cases b with
      | false =>
        simp only [Bool.false_eq_true, if_false] at h5 ⊢
        exact ⟨F5, M5, vs, acc, (s2.trans s3).trans s5, sr5, ra.mono (s3.trans s5), h5⟩
      | true =>
        simp only [if_true] at h5 ⊢
        refine ⟨F5, M5, _, ρ4, _, sr5, re4.mono s5, h5, fun J2 H6 ⟨F6, M6, items2, G2, s6, sr6, wk2, hz2, h6⟩ => ?_⟩
        have rew2 := (re4.mono (s5.trans s6)).wipe g2.own
        refine ⟨fun j m H => ∃ F7 M7 vs7 acc7, Same F6 F7 ∧ SR X.K F7 M7 (upd Z D (.lst vs7)) H ∧ RepA X.K F7 vs7 acc7 ∧ m = items2.length - j ∧ j ≤ items2.length ∧ acc7.length ≤ acc.length + j ∧ wpC G2 (lcBody C g2 c2 e ρ4 g2.own) (items2.drop j) acc7 M7 (fun acc' M' => wpC G (lc2Body C g c g2 it2 c2 e ρ own) (items.drop (i + 1)) acc' M' fun ds M2 => mkL _ ds M2 Q'),
          ⟨items2.length, F6, M6, vs, acc, Same.refl F6, sr6, ra.mono ((s3.trans s5).trans s6), by simp, Nat.zero_le _, Nat.le_refl _, by simpa using h6⟩, ?_⟩
        rintro j m H7 ⟨F7, M7, vs7, acc7, s7, sr7, ra7, rfl, hj, hl, hw7⟩
        by_cases hlt2 : j < items2.length
        · obtain ⟨d2, hd2⟩ : ∃ d, items2[j]? = some d := ⟨_, List.getElem?_eq_getElem hlt2⟩
          rw [drop_at hd2] at hw7
          simp only [wpC] at hw7
          obtain ⟨hG2, hw7⟩ := hw7
          refine .inr ⟨wk2.go F7 M7 _ H7 j s7 sr7 hG2 hlt2, fun H => ∃ F8 M8 vs8 acc8, Same F6 F8 ∧ SR X.K F8 M8 (upd Z D (.lst vs8)) H ∧ RepA X.K F8 vs8 acc8 ∧ acc8.length ≤ acc.length + (j + 1) ∧ wpC G2 (lcBody C g2 c2 e ρ4 g2.own) (items2.drop (j + 1)) acc8 M8 (fun acc' M' => wpC G (lc2Body C g c g2 it2 c2 e ρ own) (items.drop (i + 1)) acc' M' fun ds M2 => mkL _ ds M2 Q'),
            fun H' ⟨F8, M8, vs8, acc8, s8, sr8, ra8, hl8, hw8⟩ => ⟨items2.length - (j + 1), by omega, F8, M8, vs8, acc8, s8, sr8, ra8, rfl, by omega, hl8, hw8⟩, fun x2 H8 y2 => ?_⟩
          obtain ⟨F8, s8, sr8, rx8⟩ := wk2.yld F7 M7 _ H7 j x2 H8 d2 s7 sr7 hG2 hd2 y2
          refine ⟨F8, M7, _, _, d2, _, sr8, rew2.mono (s7.trans s8), rx8, hw7, fun σ9 H9 ⟨ρ9, sr9, re9, h9, w9⟩ => ⟨?_, ?_⟩⟩
          · rw [w9 g2.own fun i hi => hi]
            exact wipe_wipe _ _
          · refine ⟨F8, M7, _, ρ9, _, sr9, re9, h9, fun b H10 ⟨F10, M10, s10, sr10, h10⟩ => ?_⟩
            cases b with
            | false =>
              simp only [Bool.false_eq_true, if_false] at h10 ⊢
              exact ⟨F10, M10, vs7, acc7, (s7.trans s8).trans s10, sr10, ra7.mono (s8.trans s10), by omega, h10⟩
            | true =>
              simp only [if_true] at h10 ⊢
              refine ⟨F10, M10, _, ρ9, _, sr10, re9.mono s10, h10, fun v H11 ⟨F11, M11, dv, s11, sr11, rv, h11⟩ => ?_⟩
              refine ⟨vs7, sr11.z _ _ upd_same, ?_, F11, M11, vs7 ++ [v], acc7 ++ [dv], ((s7.trans s8).trans s10).trans s11, sr11.putZ hZ, ((ra7.mono ((s8.trans s10).trans s11))).app (.cons rv .nil), ?_, h11⟩
              · have := ra7.len
                omega
              · simp; omega
        · have e1 : j = items2.length := by omega
          subst e1
          rw [List.drop_length] at hw7
          simp only [wpC] at hw7
          obtain ⟨hG2, hw7⟩ := hw7
          exact .inl ⟨wk2.stop F7 M7 _ H7 s7 sr7 hG2, F7, M7, vs7, acc7, (((s2.trans s3).trans s5).trans s6).trans s7, sr7, ra7, hw7⟩
  · have e1 : i = items.length := by omega
    subst e1
    rw [List.drop_length] at hw
    simp only [wpC] at hw
    obtain ⟨hG, hw⟩ := hw
    refine .inl ⟨wk.stop F2 M2 _ H2 s2 sr2 hG, k _ _ ?_⟩
    exact (mkL_give sr2 hZ ra hw).back (s1.trans s2)
end
section
variable {X : Cx} {C : SC} {R : Xc → MH → Prop} {g g2 : Tg} {it it2 : It} {c c2 : Eo} {e : Ex} {m : Bool} {own : List Nat}
theorem lc_read {tb : Tb} (hown : ∀ i ∈ g.own, i ∈ own) : ∀ σ H Q, tD X tb C R (fun ρ M Q => wpI C R it ρ M fun items G M1 => wpC G (lcBody C g c e ρ own) items [] M1 fun ds M2 => mkL m ds M2 Q) σ H Q →
    tLc (tDi X tb C R g (wpI C R it)) (gD X g) (tDt0 X.K (wpT C (fun _ _ => False) c)) (tD0 X.K (wpE C (fun _ _ => False) e)) own σ H Q := lc_dep (R := fun x _ M => R x M) (fun h => h.re) hown
theorem lc2_read {tb : Tb} (hown : ∀ i ∈ g.own, i ∈ own) (hown2 : ∀ i ∈ g2.own, i ∈ own) : ∀ σ H Q, tD X tb C R (fun ρ M Q => wpI C R it ρ M fun items G M1 => wpC G (lc2Body C g c g2 it2 c2 e ρ own) items [] M1 fun ds M2 => mkL m ds M2 Q) σ H Q →
    tLc2 (tDi X tb C R g (wpI C R it)) (gD X g) (tDt0 X.K (wpT C (fun _ _ => False) c)) (tDi0 X.K g2 (wpI C (fun _ _ => False) it2)) (gD X g2) (tDt0 X.K (wpT C (fun _ _ => False) c2)) (tD0 X.K (wpE C (fun _ _ => False) e)) own g2.own σ H Q := lc2_dep (R := fun x _ M => R x M) (fun h => h.re) hown hown2
end
end T
set_option Elab.async false
set_option linter.all false
set_option maxRecDepth 100000
set_option maxHeartbeats 4000000
namespace T
open PySem PySem.Spec PyProof.Rows L2 HT
theorem rowsT_of : ∀ {xs : List D} {rs : List (List Int)}, rows? xs = some rs → xs = rs.map fun r => D.tup (r.map D.int)
  | [], rs, h => by
    simp only [rows?, Option.some.injEq] at h
    subst h; rfl
  | d :: xs, rs, h => by
    cases d <;> try (exact nomatch (show (none : Option _) = some rs from h))
    rename_i ys
    simp only [rows?] at h
    cases q : ints? ys with
    | none => rw [q] at h; simp at h
    | some is =>
      cases q2 : rows? xs with
      | none => rw [q, q2] at h; simp at h
      | some rs' =>
        rw [q, q2] at h
        simp only [Option.some.injEq] at h
        subst h
        rw [rowsT_of q2, ints_of q]
        rfl
/-- tuples of whole numbers, upwards -/
theorem dataLe_tups : PySem.W.dataLe false (fun r : List Int => PyData.tuple (r.map .int)) = fun p q => decide (p ≤ q) := by
  funext p q
  show (!PySem.W.dataLt (.tuple (q.map .int)) (.tuple (p.map .int))) = _
  rw [PySem.W.dataLt_tuple]
  show (!PySem.W.rowLt (q.map .int) (p.map .int)) = _
  rw [PySem.W.dataLt_ints]
  by_cases h : q < p
  · have h' : ¬ p ≤ q := fun r => List.not_lt.mpr r h
    simp [h, h']
  · have h' : p ≤ q := List.not_lt.mp h
    simp [h, h']
theorem toPs_ints : ∀ r : List Int, toPs (r.map D.int) = r.map PyData.int
  | [] => rfl
  | x :: r => by simp only [List.map_cons, toPs, D.toP, toPs_ints r]
theorem pure_ints : ∀ r : List Int, pures (r.map D.int) = true
  | [] => rfl
  | x :: r => by simp only [List.map_cons, pures, D.pure, pure_ints r, Bool.and_self]
section
variable {X : Cx}
def RowR (K : PySem.W.Frag) (F : Hp) (v : Value) (r : List Int) : Prop := ∃ x : V, RelV x v ∧ Rep K F x (.tup (r.map .int))
theorem rows_each {K : PySem.W.Frag} {F : Hp} : ∀ {rs : List (List Int)} {vs : List V} {us : List Value}, RepA K F vs (rs.map fun r => D.tup (r.map D.int)) → Vals vs us → PySem.W.EachIs (RowR K F) us rs
  | [], _, _, r, v => by
    cases r; cases v; exact .nil
  | r :: rs, _, _, ra, v => by
    cases ra with
    | cons r1 r2 =>
    cases v with
    | cons e1 e2 => exact .cons ⟨_, e1, r1⟩ (rows_each r2 e2)
theorem each_rows {K : PySem.W.Frag} {F : Hp} : ∀ {rs : List (List Int)} {us : List Value}, PySem.W.EachIs (RowR K F) us rs → ∃ vs, Vals vs us ∧ RepA K F vs (rs.map fun r => D.tup (r.map D.int))
  | _, _, .nil => ⟨[], .nil, .nil⟩
  | _, _, .cons ⟨x, e, r⟩ t => by
    obtain ⟨vs, h1, h2⟩ := each_rows t
    exact ⟨x :: vs, .cons e h1, .cons r h2⟩
theorem row_reads {pins : List (Addr × Obj)} {σ : L2.St} {F Z H : Hp} {M : MH} {s : Shared} (sr : SR X.K F M Z H) (I : Inv X pins σ H s) {v : Value} {r : List Int} (h : RowR X.K F v r) : ∃ as, Reads s.heap v (.tuple (r.map .int)) as := by
  obtain ⟨x, e, rx⟩ := h
  have p : (vw M (.tup (r.map .int))).pure = true := by simp [vw, D.pure, pure_ints]
  have d := vw_dp sr rx p
  simp only [vw, D.toP, toPs_ints] at d
  exact Dp.reads I _ _ _ d e
/-- min(a, b), compared where the heap stands -/
theorem call_min_twoH {prog : Program} {w : World} {A : Around} {E : Value → Shared → Prop} {s : Shared} {a b : Value} {da db : PyData} {as1 as2 : List Addr} {Q : Value → Shared → Prop} (hh : A.handled = none) (r1 : Reads s.heap a da as1) (r2 : Reads s.heap b db as2) (al : PySem.W.AlikeAll [da, db])
    (hu : A.units + 1 + PyData.depthAll [da, db] < cLine) (h : ∀ h' tk, (∀ c o, s.heap.get? c = some o → h'.get? c = some o) → Q (if PySem.W.dataLt db da = true then b else a) { s with heap := h', toks := tk }) : wpAny (model prog w) A (call (.builtin "min") [a, b]) Q E s := by
  have hname : (toString "min" ++ toString ".loop" : String) = "min.loop" := by decide
  refine call_function_tree F.kind_min F.plain_min F.entry_min (F.args_min2 _ _) ?_
  show wpAny _ A.in1 (Builtin.Builtins.bindParams "min" ["key", "default"] 0 ⟨[], []⟩ >>= _) _ _ s
  refine wpAny_bind (wpAny_of_eq (show Builtin.Builtins.bindParams "min" ["key", "default"] 0 ⟨[], []⟩ = pure [none, none] from rfl) ?_)
  show wpAny _ A.in1 (newTuple [a, b] >>= _) _ _ s
  refine wpAny_bind (wpAny_newObj_type ?_)
  have hT : (s.heap.push { cls := .type "tuple", data := .seq #[a, b] }).IsTuple s.heap.objs.size #[a, b] := ⟨_, Heap.get?_push_size _ rfl, rfl, 0, rfl⟩
  have hr : ReadsAll (s.heap.push { cls := .type "tuple", data := .seq #[a, b] }) (#[a, b] : Array Value).toList [da, db] (as1 ++ (as2 ++ [])) :=
    .cons (PySem.W.reads_keeps (fun _ _ e => Heap.get?_push_of_some _ e) r1) (.cons (PySem.W.reads_keeps (fun _ _ e => Heap.get?_push_of_some _ e) r2) .nil)
  refine wpAny_bind (PySem.W.iter_tupleW (A := A.in1) hh hT fun s₂ e W st hfp hw hk => ?_)
  refine wpAny_bind (wpAny_newObj_type ?_)
  have hSf : s₂.heap.objs.size ∉ _ := fun hm => Nat.lt_irrefl _ (hfp _ hm)
  rw [hname]
  refine wpAny_pure ⟨plainId_quiet F.plain_min_loop _, PySem.codeAny_min_loop_firstH W _ hw _ (PySem.W.cmpIn_lt (A := A.in1) (s := { s with heap := s.heap.push { cls := .type "tuple", data := .seq #[a, b] } }) hr al (by show A.units + 1 + _ < _; exact hu)) s₂.heap.objs.size hSf (PySem.fresh_in hk) _ (by simp) (fun b o e => Heap.get?_push_of_some _ (hk b o e)) (W.frame 0 s₂ _ s₂.toks st (Nat.le_refl _) fun b _ o e => Heap.get?_push_of_some _ e) (Heap.get?_push_size _ rfl) fun v s' hP hm => ?_⟩
  have m2 := Moved.drop_new (tk := s₂.toks) hm (Nat.le_refl _)
  obtain ⟨h', tk, rfl, hk'⟩ := PySem.W.moved_old e rfl m2
  have hv : v = if PySem.W.dataLt db da = true then b else a := by
    have e0 : ∀ (f : Nat → Nat → Bool), argBest f (List.length [a, b] - 1) = if f 1 0 = true then 1 else 0 := fun f => rfl
    have hP' : ([a, b] : List Value)[argBest (fun i j => PySem.W.dataLt ([da, db].getD i .none) ([da, db].getD j .none)) (List.length [a, b] - 1)]? = some v := by simpa using hP
    rw [e0] at hP'
    have e1 : PySem.W.dataLt ([da, db].getD 1 .none) ([da, db].getD 0 .none) = PySem.W.dataLt db da := rfl
    rw [e1] at hP'
    by_cases c : PySem.W.dataLt db da = true
    · rw [if_pos c] at hP' ⊢
      simpa using hP'.symm
    · rw [if_neg c] at hP' ⊢
      simpa using hP'.symm
  rw [hv]
  exact h h' tk fun c o e => hk' c o (Heap.get?_push_of_some _ e)
def rMinT (X : Cx) (m : Bool) : List V → Hp → VK → Prop := fun vs H Q => ∃ F M Z ds Q', SR X.K F M Z H ∧ RepA X.K F vs ds ∧ pxD m .minT ds M Q' ∧ ∀ v H', KQ X.K F Z Q' v H' → Q v H'
theorem cb_minT (hc : X.calm = true) (hu : X.A.units + 65 < cLine) (m : Bool) : CallR X (.builtin "min") (rMinT X m) := by
  intro pins s σ H xs us Q I r h
  obtain ⟨F, M, Z, ds, Q', sr, ra, h, k⟩ := h
  simp only [pxD] at h
  split at h <;> first
    | exact h.elim
    | contradiction
    | skip
  rename_i xs ys _
  split at h
  case h_2 => exact h.elim
  rename_i a b q1 q2
  obtain ⟨v, w, rfl, rv, rw'⟩ := ra.two
  obtain rfl := ints_of q1
  obtain rfl := ints_of q2
  cases r with
  | cons e1 r =>
  cases r with
  | cons e2 r =>
  cases r
  obtain ⟨as1, r1⟩ := row_reads sr I ⟨v, e1, rv⟩
  obtain ⟨as2, r2⟩ := row_reads sr I ⟨w, e2, rw'⟩
  have lay : ∀ b : List Int, (PyData.tuple (b.map .int)).depth = 1 := fun b => by simp only [PyData.depth, PySem.W.depth_ints]
  have ed : PySem.W.dataLt (.tuple (b.map .int)) (.tuple (a.map .int)) = decide (b < a) := by
    rw [PySem.W.dataLt_tuple]
    exact PySem.W.dataLt_ints b a
  refine call_min_twoH (I.ok.hd hc) r1 r2 ⟨fun x hx y hy => ?_, fun x hx => ?_⟩ ?_ fun h' tk hk => ?_
  · have q : ∀ x ∈ [PyData.tuple (a.map .int), PyData.tuple (b.map .int)], ∃ c : List Int, x = .tuple (c.map .int) := by simp only [List.mem_cons, List.not_mem_nil, or_false]; rintro x (rfl | rfl) <;> exact ⟨_, rfl⟩
    obtain ⟨c, rfl⟩ := q x hx
    obtain ⟨d, rfl⟩ := q y hy
    simp only [PySem.W.alike, PySem.W.alike_ints]
  · have q : ∀ x ∈ [PyData.tuple (a.map .int), PyData.tuple (b.map .int)], ∃ c : List Int, x = .tuple (c.map .int) := by simp only [List.mem_cons, List.not_mem_nil, or_false]; rintro x (rfl | rfl) <;> exact ⟨_, rfl⟩
    obtain ⟨c, rfl⟩ := q x hx
    simp
  · simp only [PyData.depthAll, lay]
    omega
  · rw [ed]
    have I2 := I.kept (t' := tk) hk
    by_cases c : b < a
    · rw [if_pos c] at h
      rw [if_pos (decide_eq_true c)]
      exact ⟨w, H, I2, e2, k _ _ (.of sr rw' h)⟩
    · rw [if_neg c] at h
      rw [if_neg (by simpa using c)]
      exact ⟨v, H, I2, e1, k _ _ (.of sr rv h)⟩
/-- max(l, key=len) -/
theorem call_maxlen {prog : Program} {w : World} {A : Around} {E : Value → Shared → Prop} {s : Shared} {l : Addr} {vs : Array Value} {n : Nat → Nat} {Q : Value → Shared → Prop} (hh : A.handled = none) (hl : s.heap.IsList l vs) (h0 : 0 < vs.size)
    (hn : ∀ i v, vs[i]? = some v → ∃ a its, v = .ref a ∧ its.size = n i ∧ (its.size : Int) < 2 ^ 63 ∧ (s.heap.IsList a its ∨ s.heap.IsTuple a its))
    (h : ∀ (i : Nat) v h' tk, vs[i]? = some v → (∀ j, j < vs.size → n j ≤ n i) → (∀ b o, s.heap.get? b = some o → h'.get? b = some o) → Q v { s with heap := h', toks := tk }) :
    wpAny (model prog w) A (call (.builtin "max") [.ref l] [(Str.ofString "key", .builtin "len")]) Q E s := by
  refine PySem.call_max_walkKB (PySem.W.iter_listW (A := A.in1) hh hl fun s₂ e W st hfp hw hk => ?_)
  have hsz : s₂.heap.objs.size = s.heap.objs.size + 1 := by rw [e]; exact Heap.size_push ..
  have old : ∀ b o, s.heap.get? b = some o → b ∉ s₂.heap.objs.size :: [s.heap.objs.size] := fun b o eb hm => by
    have hb := Heap.lt_size eb
    rcases List.mem_cons.mp hm with q | q
    · rw [q, hsz] at hb
      exact absurd hb (Nat.not_lt.mpr (Nat.le_succ _))
    · rw [List.mem_singleton.mp q] at hb
      exact absurd hb (Nat.lt_irrefl _)
  refine ⟨_, _, _, _, _, _, _, (fun s' => ∃ h' tk, s' = { s with heap := h', toks := tk } ∧ ∀ b o, s.heap.get? b = some o → h'.get? b = some o), (fun i k _ => ∃ t, k = .int (n i) t), (fun i j => decide ((n i : Int) > (n j : Int))), rfl, W, st, hfp, h0, ⟨?_, ?_, ?_, ?_⟩, ?_, ?_⟩
  · rintro a b ⟨h', tk, rfl, k⟩ m
    refine ⟨b.heap, b.toks, ?_, fun c o ec => m.heap c o (old c o ec) (k c o ec)⟩
    obtain ⟨hp, g, d, tk2, os⟩ := b
    have h1 : g = s.gens := m.gens
    have h2 : d = s.drawn := m.drawn
    have h3 : os = s.os := m.os
    subst h1 h2 h3
    rfl
  · exact fun _ _ _ _ v _ => v
  · intro i v s' o Q' E' hi hP hJ hst hS hQ
    obtain ⟨h', tk, rfl, k⟩ := hJ
    obtain ⟨a, its, rfl, e1, e2, e3⟩ := hn i v hP
    have fin : ∀ tk2 t, tk ≤ tk2 → Q' (.int its.size t) { s with heap := h', toks := tk2 } := fun tk2 t ht => by
      refine hQ _ _ ⟨h', tk2, rfl, k⟩ ?_ hS ⟨t, by rw [e1]⟩ fun _ _ v => v
      exact W.frame (i + 1) { s with heap := h', toks := tk } h' tk2 hst ht fun b _ o q => q
    rcases e3 with e3 | e3
    · obtain ⟨o2, q1, q2⟩ := e3
      exact Calls.call_len_list (s := { s with heap := h', toks := tk }) ⟨o2, k _ _ q1, q2⟩ e2 (fin _ _ (by show tk ≤ tk + 1 + 1; omega))
    · obtain ⟨o2, q1, q2⟩ := e3
      exact PyProof.Rows.len_tuple (s := { s with heap := h', toks := tk }) ⟨o2, k _ _ q1, q2⟩ e2 (fin _ _ (by show tk ≤ tk + 1 + 1; omega))
  · intro i j ki kj s' Q' E' _ hi hj hq
    exact PySem.CmpOf.ints_gt (fun i => (n i : Int)) (P := fun i k => ∃ t, k = .int (n i) t) (fun _ _ q => q) i j ki kj s' Q' E' hi hj hq
  · exact ⟨s₂.heap, s₂.toks, by rw [e], hk⟩
  · rintro v s' hP ⟨h', tk, rfl, k⟩
    obtain ⟨b1, b2⟩ := PySem.argBest_gt (fun i => (n i : Int)) (vs.size - 1)
    exact h _ v h' tk hP (fun j hj => by have := b2 j (by omega); omega) k
end
section
variable {P : Nat → Option Fn} {G : Nat → Option D} {tb : Tb} {n : Nat} {e0 : Option (Addr × Xc)} {N : List Str} {sc : Scope} {X : Cx} {R : Xc → MH → Prop} {C : SC}
theorem je_maxlen (c : CK P G tb n e0 N sc X) (hh : tb.hot = false) {m : Bool} {x : Expr} {e : Ex} {p kp lp pos : Pos} (hg : glB sc "max" = true) (hg2 : glB sc "len" = true) (hs : noStar x = true) (ha : PE X x (tD X tb C R (wpE C R e))) :
    PE X (.Call (.Name "max" p) [x] [⟨some "key", .Name "len" lp, kp⟩] pos) (tD X tb C R (wpE C R (.px m .maxlen (.cons e .nil)))) := by
  refine ⟨fun pins s σ H Q I h => ?_⟩
  obtain ⟨F, M, Z, ρ, Q', sr, re, hw, k⟩ := h
  simp only [wpE, wpEs] at hw
  refine wpAny_Call_Name_kw (ld_blt I (c.gl hg) (c.blt _ (by decide)) (show bootBuiltins "max" = some (.builtin "max") by decide +kernel) ?_)
  have hst : backTo pos (starEach [x] X.env) = (false, eval x X.env) :: backTo pos (starEach [] X.env) := by rw [star_of hs]; rfl
  refine PyProof.Rows.callWith_kw ?_ hst (by rw [hst]; rfl) rfl rfl
  refine PyProof.Rows.args_cons (thn (ha.run pins s σ H _ I ⟨F, M, Z, ρ, _, sr, re, hw, fun v H1 q => q⟩) fun v s1 ⟨vx, H1, I1, r1, F1, M1, d, s1', sr1, rd, h1⟩ => PyProof.Rows.args_nil ?_) (star_of hs)
  refine PyProof.Rows.kws_cons (ld_blt I1 (c.gl hg2) (c.blt _ (by decide)) (show bootBuiltins "len" = some (.builtin "len") by decide +kernel) (PyProof.Rows.kws_nil ?_))
  simp only [pxD] at h1
  split at h1
  case h_2 => exact h1.elim
  rename_i xs ev
  obtain ⟨⟨hz, hall⟩, h1⟩ := h1
  obtain ⟨a, vs, rfl, hl, ra⟩ := vw_lst sr1 rd ev
  cases r1
  obtain ⟨its, r, pl, hzl⟩ := I1.list (SqL.of hl)
  have ln := line63
  have l1 := ra.len
  have l2 := r.length
  have item : ∀ (i : Nat) u, its.toArray[i]? = some u → ∃ x d, RelV x u ∧ Rep X.K F1 x d ∧ xs[i]? = some d := by
    intro i u hu
    have hu' : its[i]? = some u := by simpa using hu
    have hi : i < vs.length := by
      have := (List.getElem?_eq_some_iff.mp hu').1
      omega
    obtain ⟨x, hx⟩ : ∃ x, vs[i]? = some x := ⟨_, List.getElem?_eq_getElem hi⟩
    obtain ⟨d, hd, rd⟩ := ra.get' hx
    obtain ⟨u', hu2, ru⟩ := Vals.get r hx
    rw [hu'] at hu2
    cases hu2
    exact ⟨x, d, ru, rd, hd⟩
  refine call_maxlen (n := fun i => ((xs[i]?).map D.sz).getD 0) (I1.ok.hd (c.calm hh)) pl.isList (by simp; omega) (fun i u hu => ?_) fun i u h' tk hu hb hk => ?_
  · obtain ⟨x, d, ru, rd, hd⟩ := item i u hu
    have hsq := List.all_eq_true.mp hall d (List.mem_of_getElem? hd)
    simp only [hd, Option.map_some, Option.getD_some]
    cases d <;> first
      | cases hsq
      | skip
    · cases rd with
      | lst hb rb =>
        cases ru
        obtain ⟨its2, r2, pl2, hz2⟩ := I1.list (SqL.of (sr1.f _ _ hb))
        have := r2.length
        have := rb.len
        exact ⟨_, its2.toArray, rfl, by simp only [List.size_toArray, D.sz]; omega, by simp only [List.size_toArray]; omega, .inl pl2.isList⟩
    · cases rd with
      | tup hb rb =>
        cases ru
        obtain ⟨its2, r2, pl2, hz2⟩ := I1.tuple (SqT.mono sr1.f hb.sqt)
        have := r2.length
        have := rb.len
        exact ⟨_, its2.toArray, rfl, by simp only [List.size_toArray, D.sz]; omega, by simp only [List.size_toArray]; omega, .inr pl2⟩
  · obtain ⟨x, d, ru, rd, hd⟩ := item i u hu
    refine ⟨x, H1, I1.kept hk, ru, k _ _ ⟨F1, M1, d, s1', sr1, rd, h1 d (List.mem_of_getElem? hd) fun e he => ?_⟩⟩
    obtain ⟨j, hj⟩ := List.mem_iff_getElem?.mp he
    have hj2 : j < its.toArray.size := by
      have := (List.getElem?_eq_some_iff.mp hj).1
      simp only [List.size_toArray]; omega
    have := hb j hj2
    simpa [hd, hj] using this
theorem px_callB (c : CK P G tb n e0 N sc X) {m : Bool} {px : Px} {nm : Str} {id : String} {x : Expr} {xs : List Expr} {es : Es} {p pos : Pos} (hr : CallR X (.builtin id) (fun vs H Q => ∃ F M Z ds Q', SR X.K F M Z H ∧ RepA X.K F vs ds ∧ pxD m px ds M Q' ∧ ∀ v H', KQ X.K F Z Q' v H' → Q v H')) (hn : nm ∈ bltNames) (hg : glB sc nm = true) (hv : bootBuiltins nm = some (.builtin id)) (h1 : nm ≠ "__name__") (h2 : (nm == ("__debug__" : Str)) = false)
    (hs : ∀ y ∈ x :: xs, noStar y = true) (ha : PA X (x :: xs) (tDs X tb C R (wpEs C R es))) : PE X (.Call (.Name nm p) (x :: xs) [] pos) (tD X tb C R (wpE C R (.px m px es))) :=
  PE_imp (pe_callB hr (c.gl hg) (c.blt nm hn) hv ha h1 h2 (star_of (hs x List.mem_cons_self)) (any_of fun y hy => hs y (List.mem_cons_of_mem _ hy))) fun σ H Q ⟨F, M, Z, ρ, Q', sr, re, hw, k⟩ => by
    simp only [wpE] at hw
    exact ⟨F, M, Z, ρ, _, sr, re, hw, fun vs H1 ⟨F1, M1, ds, s1, sr1, ra, h1⟩ => ⟨F1, M1, Z, ds, Q', sr1, ra, h1, tD_then s1 k⟩⟩
end
end T
set_option Elab.async false
set_option linter.all false
set_option maxRecDepth 100000
set_option maxHeartbeats 4000000
namespace T
open PySem PySem.Spec PyProof.Rows L2 HT
section
variable {X : Cx} {pins : List (Addr × Obj)} {σ : L2.St} {H : Hp} {s : Shared}
theorem paired_at {α β : Type} {R : α → β → Prop} : ∀ {l : List α} {m : List β} {i : Nat} {x : α}, Paired R l m → l[i]? = some x → ∃ y, m[i]? = some y ∧ R x y
  | _, _, _, _, .nil, h => by simp at h
  | _, _, 0, _, .cons r _, h => by
    simp only [List.getElem?_cons_zero, Option.some.injEq] at h
    subst h
    exact ⟨_, rfl, r⟩
  | _, _, i + 1, x, .cons _ t, h => by
    obtain ⟨y, h1, h2⟩ := paired_at (i := i) (x := x) t (by simpa using h)
    exact ⟨y, by simpa using h1, h2⟩
theorem dt_entries {a : Addr} {xs : Ent} {ep : Nat} (I : Inv X pins σ H s) (h : H a = some (dtO a xs ep)) :
    (a == sysModules) = false ∧ ∃ as, s.heap.DictRaw a as ep ∧ as.size = xs.length ∧ ∀ i p, xs[i]? = some p → ∃ hi : i < as.size, as[i].key = .ref p.2.1 ∧ RelV p.2.2 as[i].val := by
  obtain ⟨c1, c2, ys, c3, o, as, e1, e2, e3, e4, _⟩ := (I.hok a _ h).1
  have e4 := e4 X.prog X.w
  have hs : as.size = ys.length := by rw [← Array.length_toList, e4, List.length_map]
  have hl : xs.length = ys.length := PrE.len c3
  refine ⟨c1, as, ⟨o, e1, e2, e3⟩, by omega, fun i p hp => ?_⟩
  obtain ⟨y, hy, r1, r2, r3⟩ := paired_at c3 hp
  have hi : i < as.size := by
    have := (List.getElem?_eq_some_iff.mp hy).1
    omega
  have q : as[i]? = some (entryOfKey (LK X.prog X.w) y) := by
    rw [← Array.getElem?_toList, e4, List.getElem?_map, hy]; rfl
  have q2 : as[i] = entryOfKey (LK X.prog X.w) y := by
    rw [Array.getElem?_eq_getElem hi] at q
    exact Option.some.inj q
  refine ⟨hi, ?_, ?_⟩
  · rw [q2]; show Value.ref y.2.1 = _; rw [r2]
  · rw [q2]; exact r3
theorem raw_same {h : Heap} {a : Addr} {as as' : Array DictEntry} {ep ep' : Nat} (x : h.DictRaw a as ep) (y : h.DictRaw a as' ep') : as' = as ∧ ep' = ep := by
  obtain ⟨o, h1, _, h2⟩ := x
  obtain ⟨o', h1', _, h2'⟩ := y
  rw [h1] at h1'
  cases h1'
  exact dict_ep h2 h2'
def Jst (a : Addr) (n ep : Nat) (H : Hp) : Prop := ∃ xs, H a = some (dtO a xs ep) ∧ xs.length = n
def Jv (a : Addr) (n ep : Nat) : L2.It :=
  ⟨fun i H => Jst a n ep H ∧ i < n, fun i H x H' => H' = H ∧ ∀ xs, H a = some (dtO a xs ep) → ∃ p, xs[i]? = some p ∧ x = p.2.2, fun i H => Jst a n ep H ∧ n ≤ i⟩
def Jk (a : Addr) (n ep : Nat) : L2.It :=
  ⟨fun i H => Jst a n ep H ∧ i < n, fun i H x H' => H' = H ∧ ∀ xs, H a = some (dtO a xs ep) → ∃ p, xs[i]? = some p ∧ x = .ref p.2.1, fun i H => Jst a n ep H ∧ n ≤ i⟩
def Ji (a : Addr) (n ep : Nat) : L2.It :=
  ⟨fun i H => Jst a n ep H ∧ i < n, fun i H x H' => ∃ T k v, x = .ref T ∧ H T = none ∧ H' = upd H T (.tup [.ref k, v]) ∧ ∀ xs, H a = some (dtO a xs ep) → ∃ p, xs[i]? = some p ∧ k = p.2.1 ∧ v = p.2.2, fun i H => Jst a n ep H ∧ n ≤ i⟩
/-- whatever entries are told, the i-th is the same -/
theorem dt_uniq {a : Addr} {ep i : Nat} {as : Array DictEntry} {xs : Ent} {p : List Int × Addr × V} (I : Inv X pins σ H s) (hr : s.heap.DictRaw a as ep) (hi : i < as.size) (h : as[i].key = .ref p.2.1 ∧ RelV p.2.2 as[i].val) (hl : as.size = xs.length) (hx : H a = some (dtO a xs ep)) : ∃ q, xs[i]? = some q ∧ q.2.1 = p.2.1 ∧ q.2.2 = p.2.2 := by
  obtain ⟨_, as', r', l', e'⟩ := dt_entries I hx
  obtain ⟨rfl, _⟩ := raw_same hr r'
  obtain ⟨q, hq⟩ : ∃ q, xs[i]? = some q := ⟨_, List.getElem?_eq_getElem (by omega)⟩
  obtain ⟨_, k1, v1⟩ := e' i q hq
  refine ⟨q, hq, ?_, v1.inj h.2⟩
  rw [h.1] at k1
  exact (Value.ref.inj k1).symm
theorem dt_uniq' {a : Addr} {ep i : Nat} {as : Array DictEntry} {xs : Ent} {p : List Int × Addr × V} (I : Inv X pins σ H s) (hr : s.heap.DictRaw a as ep) (hi : i < as.size) (h : as[i].key = .ref p.2.1 ∧ RelV p.2.2 as[i].val) (hx : H a = some (dtO a xs ep)) : ∃ q, xs[i]? = some q ∧ q.2.1 = p.2.1 ∧ q.2.2 = p.2.2 := by
  obtain ⟨_, as', r', l', _⟩ := dt_entries I hx
  obtain ⟨rfl, _⟩ := raw_same hr r'
  exact dt_uniq I hr hi h l' hx
end
section
variable {P : Program} {w : World} {K : PySem.W.Frag} {tg : Expr} {a : Addr} {n ep : Nat}
theorem turn_dv (it : Addr) : Turn P w K tg (Jv a n ep) [it] it (fun i h => h.IsValIter it a i n ep) where
  mem := by simp
  obj := fun i h st b hb => by
    have e : b = it := by simpa using hb
    subst e
    obtain ⟨oi, e, c, dd⟩ := st
    exact ⟨oi, e, fun v z => by rw [dd] at z; cases z⟩
  keep := fun i h h' st k => st.at fun oi e => k it (by simp) oi e
  item := by
    intro X hP hw hK hc i pins s σ H E I hf st hg
    subst hP hw hK
    obtain ⟨⟨xs, hx, hl⟩, hi⟩ := hg
    obtain ⟨f0, f1, f2, f3, f4, f5⟩ := hf it (by simp)
    obtain ⟨c1, as, hr, hs, he⟩ := dt_entries I hx
    obtain ⟨p, hp⟩ : ∃ p, xs[i]? = some p := ⟨_, List.getElem?_eq_getElem (by omega)⟩
    obtain ⟨hi2, k1, v1⟩ := he i p hp
    have hn : n = as.size := by omega
    subst hn
    refine wpAny_pyNext_values_item_raw st hr hi2 fun h' st' sb => ?_
    have I1 : Inv X pins σ H { s with heap := h' } := I.turned (t' := s.toks) (fun b ob hb e => (sb.2 b hb).trans e) f0 f1 f3 f4 f5
    obtain ⟨oi, e, c, dd⟩ := id st'
    refine ⟨as[i].val, rfl, go_of (s := { s with heap := h' }) e c dd (by decide) ⟨p.2.2, H, I1, v1, ⟨rfl, fun xs' hx' => ?_⟩, st', fun b hb => (hf b hb).1⟩⟩
    obtain ⟨q, hq, _, e2⟩ := dt_uniq' I hr hi2 ⟨k1, v1⟩ hx'
    exact ⟨q, hq, e2.symm⟩
  done := by
    intro X hP hw hK hc i pins s σ H E I hf st hg
    subst hP hw hK
    obtain ⟨⟨xs, hx, hl⟩, hi⟩ := hg
    obtain ⟨f0, f1, f2, f3, f4, f5⟩ := hf it (by simp)
    obtain ⟨c1, as, hr, hs, he⟩ := dt_entries I hx
    have hn : n = as.size := by omega
    subst hn
    exact wpAny_pyNext_values_end_raw (I.ok.hd hc) st hr hi fun h' eb => ⟨rfl, I.turned (t' := s.toks) (fun b ob hb e => eb b ob hb e) f0 f1 f3 f4 f5⟩
  self := fun A i s Q E st h => wpAny_pyIter_valiter st h
theorem turn_dk (it : Addr) : Turn P w K tg (Jk a n ep) [it] it (fun i h => h.IsKeyIter it a i n ep) where
  mem := by simp
  obj := fun i h st b hb => by
    have e : b = it := by simpa using hb
    subst e
    obtain ⟨oi, e, c, dd⟩ := st
    exact ⟨oi, e, fun v z => by rw [dd] at z; cases z⟩
  keep := fun i h h' st k => st.at fun oi e => k it (by simp) oi e
  item := by
    intro X hP hw hK hc i pins s σ H E I hf st hg
    subst hP hw hK
    obtain ⟨⟨xs, hx, hl⟩, hi⟩ := hg
    obtain ⟨f0, f1, f2, f3, f4, f5⟩ := hf it (by simp)
    obtain ⟨c1, as, hr, hs, he⟩ := dt_entries I hx
    obtain ⟨p, hp⟩ : ∃ p, xs[i]? = some p := ⟨_, List.getElem?_eq_getElem (by omega)⟩
    obtain ⟨hi2, k1, v1⟩ := he i p hp
    have hn : n = as.size := by omega
    subst hn
    refine wpAny_pyNext_keys_item_raw st hr hi2 fun h' st' sb => ?_
    have I1 : Inv X pins σ H { s with heap := h' } := I.turned (t' := s.toks) (fun b ob hb e => (sb.2 b hb).trans e) f0 f1 f3 f4 f5
    obtain ⟨oi, e, c, dd⟩ := id st'
    refine ⟨as[i].key, rfl, go_of (s := { s with heap := h' }) e c dd (by decide) ⟨.ref p.2.1, H, I1, k1, ⟨rfl, fun xs' hx' => ?_⟩, st', fun b hb => (hf b hb).1⟩⟩
    obtain ⟨q, hq, e1, _⟩ := dt_uniq' I hr hi2 ⟨k1, v1⟩ hx'
    exact ⟨q, hq, by rw [e1]⟩
  done := by
    intro X hP hw hK hc i pins s σ H E I hf st hg
    subst hP hw hK
    obtain ⟨⟨xs, hx, hl⟩, hi⟩ := hg
    obtain ⟨f0, f1, f2, f3, f4, f5⟩ := hf it (by simp)
    obtain ⟨c1, as, hr, hs, he⟩ := dt_entries I hx
    have hn : n = as.size := by omega
    subst hn
    exact wpAny_pyNext_keys_end_raw (I.ok.hd hc) st hr hi fun h' eb => ⟨rfl, I.turned (t' := s.toks) (fun b ob hb e => eb b ob hb e) f0 f1 f3 f4 f5⟩
  self := fun A i s Q E st h => wpAny_pyIter_keyiter st h
theorem turn_di {elts : List Expr} {kk : Nat} {tpos : Pos} (it : Addr) : Turn P w K (.Tuple elts kk tpos) (Ji a n ep) [it] it (fun i h => ∃ ok ov, IsItemIter h it a i n ep ok ov) where
  mem := by simp
  obj := fun i h st b hb => by
    have e : b = it := by simpa using hb
    subst e
    obtain ⟨ok, ov, e⟩ := st
    exact ⟨_, e, fun v z => nomatch z⟩
  keep := fun i h h' st k => let ⟨ok, ov, e⟩ := st; ⟨ok, ov, k it (by simp) _ e⟩
  item := by
    intro X hP hw hK hc i pins s σ H E I hf st hg
    subst hP hw hK
    obtain ⟨⟨xs, hx, hl⟩, hi⟩ := hg
    obtain ⟨c1, as, hr, hs, he'⟩ := dt_entries I hx
    obtain ⟨p, hp⟩ : ∃ p, xs[i]? = some p := ⟨_, List.getElem?_eq_getElem (by omega)⟩
    obtain ⟨hi2, k1, v1⟩ := he' i p hp
    have hn : n = as.size := by omega
    subst hn
    obtain ⟨ok, ov, he⟩ := st
    have hlt : it < s.heap.objs.size := Heap.lt_size he
    refine wpAny_pyNext_items_item_raw he hr hi2 fun h' ho hT hz hk => ?_
    refine ⟨_, rfl, wpAny_letOwnedTupleGo_items (s := { s with heap := h' }) ho fun h'' he' sb => ?_⟩
    have hT2 : h''.get? s.heap.objs.size = some { cls := .type "tuple", data := .seq #[as[i].key, as[i].val] } := (sb.2 _ (Nat.ne_of_gt hlt)).trans hT
    have new : ObjOk X.prog X.w (upd H s.heap.objs.size (.tup [.ref p.2.1, p.2.2])) h'' s.heap.objs.size (.tup [.ref p.2.1, p.2.2]) :=
      ⟨by show 2 ≤ sizeLine; decide, [as[i].key, as[i].val], .cons k1 (.cons v1 .nil), ⟨_, hT2, rfl, _, rfl⟩⟩
    have I1 : Inv X pins σ (upd H s.heap.objs.size (.tup [.ref p.2.1, p.2.2])) { s with heap := h'' } :=
      I.turnedNew (t' := s.toks) (ch := [it]) (fun b ob hb e => (sb.2 b (by simpa using hb)).trans (hk b ob (by simpa using hb) e)) hf (Nat.le_refl _) new
    refine ⟨.ref s.heap.objs.size, _, I1, rfl, ⟨_, p.2.1, p.2.2, rfl, I.hok.fresh (Nat.le_refl _), rfl, fun xs' hx' => ?_⟩, ⟨_, _, he'⟩, fun b hb => ?_⟩
    · obtain ⟨q, hq, e1, e2⟩ := dt_uniq' I hr hi2 ⟨k1, v1⟩ hx'
      exact ⟨q, hq, e1.symm, e2.symm⟩
    · have e : b = it := by simpa using hb
      rw [e, upd_ne (Nat.ne_of_lt hlt)]
      exact (hf it (by simp)).1
  done := by
    intro X hP hw hK hc i pins s σ H E I hf st hg
    subst hP hw hK
    obtain ⟨⟨xs, hx, hl⟩, hi⟩ := hg
    obtain ⟨f0, f1, f2, f3, f4, f5⟩ := hf it (by simp)
    obtain ⟨c1, as, hr, hs, he'⟩ := dt_entries I hx
    have hn : n = as.size := by omega
    subst hn
    obtain ⟨ok, ov, he⟩ := st
    exact wpAny_pyNext_items_end_raw (I.ok.hd hc) he hr hi fun h' eb => ⟨rfl, I.turned (t' := s.toks) (fun b ob hb e => eb b ob hb e) f0 f1 f3 f4 f5⟩
  self := fun A i s Q E st h => let ⟨_, _, e⟩ := st; PySem.W.kcp_self e h
end
theorem RepD.get {K : PySem.W.Frag} {F : Hp} : ∀ {es : List (D × D)} {xs : Ent} {i : Nat} {e : D × D}, RepD K F es xs → es[i]? = some e → ∃ p, xs[i]? = some p ∧ Rep K F (.ref p.2.1) e.1 ∧ Rep K F p.2.2 e.2
  | _, _, _, _, .nil, h => by simp at h
  | _, _, 0, _, .cons h1 h2 h3 _, h => by
    simp only [List.getElem?_cons_zero, Option.some.injEq] at h
    subst h
    exact ⟨_, rfl, h2, h3⟩
  | _, _, i + 1, e, .cons _ _ _ t, h => by
    obtain ⟨p, h1, h2⟩ := RepD.get (i := i) (e := e) t (by simpa using h)
    exact ⟨p, by simpa using h1, h2⟩
section
variable {K : PySem.W.Frag} {F Z H : Hp} {M : MH} {g : Tg}
theorem cell_dtH {a : Addr} {es : List (D × D)} {ep : Nat} (sr : SR K F M Z H) (q : M a = some (.dt es ep)) : ∃ xs, H a = some (dtO a xs ep) ∧ RepD K F es xs := by
  obtain ⟨_, _, o, hH, rc⟩ := sr.m a _ q
  cases rc with
  | dt rd => exact ⟨_, hH, rd⟩
theorem jst_of {a : Addr} {es : List (D × D)} {ep : Nat} (sr : SR K F M Z H) (q : M a = some (.dt es ep)) : Jst a es.length ep H := by
  obtain ⟨xs, h1, h2⟩ := cell_dtH sr q
  exact ⟨xs, h1, h2.len⟩
theorem wk_dv {a : Addr} {es : List (D × D)} {ep : Nat} (hz : es.length ≤ sizeLine) : Wk K g F (Jv a es.length ep) (es.map (·.2)) (fun M' => M' a = some (.dt es ep)) where
  sz := by simpa using hz
  go := fun F' M' Z' H' i s sr hG hi => ⟨jst_of sr hG, by simpa using hi⟩
  stop := fun F' M' Z' H' s sr hG => ⟨jst_of sr hG, by simp⟩
  yld := fun F' M' Z' H' i x H'' d s sr hG hd y => by
    obtain ⟨e1, e2⟩ := y
    subst e1
    rw [List.getElem?_map] at hd
    obtain ⟨e, he, rfl⟩ := Option.map_eq_some_iff.mp hd
    obtain ⟨xs, h1, h2⟩ := cell_dtH sr hG
    obtain ⟨p, hp, _, r2⟩ := h2.get he
    obtain ⟨q, hq, rfl⟩ := e2 xs h1
    rw [hp] at hq
    cases hq
    exact ⟨F', Same.refl F', sr, .inl r2⟩
theorem wk_dk {a : Addr} {es : List (D × D)} {ep : Nat} (hz : es.length ≤ sizeLine) : Wk K g F (Jk a es.length ep) (es.map (·.1)) (fun M' => M' a = some (.dt es ep)) where
  sz := by simpa using hz
  go := fun F' M' Z' H' i s sr hG hi => ⟨jst_of sr hG, by simpa using hi⟩
  stop := fun F' M' Z' H' s sr hG => ⟨jst_of sr hG, by simp⟩
  yld := fun F' M' Z' H' i x H'' d s sr hG hd y => by
    obtain ⟨e1, e2⟩ := y
    subst e1
    rw [List.getElem?_map] at hd
    obtain ⟨e, he, rfl⟩ := Option.map_eq_some_iff.mp hd
    obtain ⟨xs, h1, h2⟩ := cell_dtH sr hG
    obtain ⟨p, hp, r1, _⟩ := h2.get he
    obtain ⟨q, hq, rfl⟩ := e2 xs h1
    rw [hp] at hq
    cases hq
    exact ⟨F', Same.refl F', sr, .inl r1⟩
theorem wk_di {gs : Tgs} {a : Addr} {es : List (D × D)} {ep : Nat} (hz : es.length ≤ sizeLine) : Wk K (.tp gs) F (Ji a es.length ep) (es.map fun e => .tup [e.1, e.2]) (fun M' => M' a = some (.dt es ep)) where
  sz := by simpa using hz
  go := fun F' M' Z' H' i s sr hG hi => ⟨jst_of sr hG, by simpa using hi⟩
  stop := fun F' M' Z' H' s sr hG => ⟨jst_of sr hG, by simp⟩
  yld := fun F' M' Z' H' i x H'' d s sr hG hd y => by
    rw [List.getElem?_map] at hd
    obtain ⟨e, he, rfl⟩ := Option.map_eq_some_iff.mp hd
    obtain ⟨xs, h1, h2⟩ := cell_dtH sr hG
    obtain ⟨p, hp, r1, r2⟩ := h2.get he
    obtain ⟨T, k, v, rfl, hT, rfl, e2⟩ := y
    obtain ⟨q, hq, rfl, rfl⟩ := e2 xs h1
    rw [hp] at hq
    cases hq
    obtain ⟨sF, sr'⟩ := sr.layF (o := .tup [.ref p.2.1, p.2.2]) hT
    exact ⟨_, sF, sr', .inr ⟨⟨gs, rfl⟩, T, _, _, rfl, .inl (.inl upd_same), .cons (r1.mono sF) (.cons (r2.mono sF) .nil), rfl⟩⟩
end
section
variable {X : Cx} {tg e : Expr} {td : TE} {apos cpos : Pos}
def iDt (td : TE) (J : Addr → Nat → Nat → L2.It) : TI := fun σ H R => td σ H fun x H1 => ∃ a xs ep, x = .ref a ∧ H1 a = some (dtO a xs ep) ∧ R (J a xs.length ep) H1
theorem raw_noDict {h : Heap} {a : Addr} {as : Array DictEntry} {ep : Nat} (r : h.DictRaw a as ep) : ∀ b, Value.ref a = .ref b → ∃ ob, h.get? b = some ob ∧ ob.dict = none := fun b e => by
  cases e
  obtain ⟨o, h1, h2, _⟩ := r
  exact ⟨o, h1, h2.2.1⟩
theorem pi_dk (he : PE X e td) : PI X tg e (iDt td Jk) := by
  refine ⟨fun pins s σ H R I h => ?_⟩
  refine thn (he.run pins s σ H _ I h) fun u s1 ⟨x, H1, I1, rx, a, xs, ep, ex, hx, q⟩ => ?_
  subst ex
  obtain rfl : u = Value.ref a := rx
  obtain ⟨c1, as, hr, hs, _⟩ := dt_entries I1 hx
  refine wpAny_pyIter_dict_raw c1 hr (pi_one (tk := s1.toks) I1 _ (turn_dk _) ⟨_, Heap.get?_push_size _ rfl, rfl, ?_⟩ q)
  rw [hs] <;> rfl
theorem pi_dv (he : PE X e td) (hbase : attributeBase e "values" X.env (eval e X.env) = eval e X.env) (hline : (apos.endLine == cpos.line) = true) : PI X tg (.Call (.Attribute e "values" apos) [] [] cpos) (iDt td Jv) := by
  refine ⟨fun pins s σ H R I h => ?_⟩
  refine wpAny_Call_method (T := "dict") (id := "dict.values") hbase rfl hline F.plainAttrs_dict F.slot_dict_values F.type_dict_values (thn (he.run pins s σ H _ I h) fun u s1 ⟨x, H1, I1, rx, a, xs, ep, ex, hx, q⟩ => ?_)
  subst ex
  obtain rfl : u = Value.ref a := rx
  obtain ⟨c1, as, hr, hs, _⟩ := dt_entries I1 hx
  refine ⟨hr.typeIs, raw_noDict hr, ?_⟩
  have I2 : Inv X pins σ H1 { s1 with heap := s1.heap.push { cls := .type "dict_values", data := .fields #[.ref a] } } := I1.kept (t' := s1.toks) fun b ob q => Heap.get?_push_of_some _ q
  have fin : wpAny (model X.prog X.w) X.A (pyIter (.ref s1.heap.objs.size)) (PIE X pins σ tg R) X.xe { s1 with heap := s1.heap.push { cls := .type "dict_values", data := .fields #[.ref a] } } := by
    refine wpAny_pyIter_values_raw (d := a) ⟨_, Heap.get?_push_size _ rfl, rfl, rfl⟩ (hr.push _) (pi_one (tk := s1.toks) I2 _ (turn_dv _) ⟨_, Heap.get?_push_size _ rfl, rfl, ?_⟩ q)
    rw [hs] <;> rfl
  show wpAny _ _ (callWith cpos (.builtin "dict.values") [.ref a] [] []) _ X.xe s1
  exact method_meetsIn F.slot_dict_values F.entry_dict_values rfl (PySem.evalArgs_none ⟨rfl, hr.typeIs, F.args_dict_values_1 _, _, meets_dict_values_raw a c1, ⟨as, ep, hr⟩, fin⟩)
theorem pi_di {elts : List Expr} {kk : Nat} {tpos : Pos} (he : PE X e td) (hbase : attributeBase e "items" X.env (eval e X.env) = eval e X.env) (hline : (apos.endLine == cpos.line) = true) : PI X (.Tuple elts kk tpos) (.Call (.Attribute e "items" apos) [] [] cpos) (iDt td Ji) := by
  refine ⟨fun pins s σ H R I h => ?_⟩
  refine wpAny_Call_method (T := "dict") (id := "dict.items") hbase rfl hline F.plainAttrs_dict F.slot_dict_items F.type_dict_items (thn (he.run pins s σ H _ I h) fun u s1 ⟨x, H1, I1, rx, a, xs, ep, ex, hx, q⟩ => ?_)
  subst ex
  obtain rfl : u = Value.ref a := rx
  obtain ⟨c1, as, hr, hs, _⟩ := dt_entries I1 hx
  refine ⟨hr.typeIs, raw_noDict hr, ?_⟩
  have I2 : Inv X pins σ H1 { s1 with heap := s1.heap.push { cls := .type "dict_items", data := .fields #[.ref a] } } := I1.kept (t' := s1.toks) fun b ob q => Heap.get?_push_of_some _ q
  have fin : wpAny (model X.prog X.w) X.A (pyIter (.ref s1.heap.objs.size)) (PIE X pins σ (.Tuple elts kk tpos) R) X.xe { s1 with heap := s1.heap.push { cls := .type "dict_items", data := .fields #[.ref a] } } := by
    refine wpAny_pyIter_items_raw (d := a) ⟨_, Heap.get?_push_size _ rfl, rfl, rfl⟩ (hr.push _) (pi_one (tk := s1.toks) I2 _ (turn_di _) ⟨.none, .none, ?_⟩ q)
    rw [← hs]
    exact Heap.get?_push_size _ rfl
  show wpAny _ _ (callWith cpos (.builtin "dict.items") [.ref a] [] []) _ X.xe s1
  exact method_meetsIn F.slot_dict_items F.entry_dict_items rfl (PySem.evalArgs_none ⟨rfl, hr.typeIs, F.args_dict_items_1 _, _, meets_dict_items_raw a c1, ⟨as, ep, hr⟩, fin⟩)
end
section
variable {X : Cx} {R : Xc → MH → Prop} {C : SC} {a : Ex} {x tg : Expr} {pos apos tpos : Pos} {g : Tg} {elts : List Expr} {kk : Nat}
theorem dtW_inv {M : MH} {d : D} {f : Addr → List (D × D) → Nat → Prop} (h : dtW M d f) : ∃ a es ep, d = .ref a ∧ M a = some (.dt es ep) ∧ es.length ≤ sizeLine ∧ f a es ep := by
  unfold dtW at h
  split at h
  case h_2 => exact h.elim
  rename_i a
  split at h
  case h_2 => exact h.elim
  rename_i es ep hM
  exact ⟨a, es, ep, rfl, hM, h.1, h.2⟩
theorem ji_dks (ha : PE X x (tD X tb C R (wpE C R a))) : PI X tg x (tDi X tb C R g (wpI C R (.dks a))) := by
  refine PI_imp (pi_dk ha) fun σ H Q h => ?_
  obtain ⟨F, M, Z, ρ, Q', sr, re, hw, k⟩ := h
  simp only [wpI] at hw
  refine ⟨F, M, Z, ρ, _, sr, re, hw, fun v H1 ⟨F1, M1, dx, s1, sr1, rx, h1⟩ => ?_⟩
  obtain ⟨a, es, ep, rfl, hM, hz, q⟩ := dtW_inv h1
  obtain rfl := rp_ref rx
  obtain ⟨xs, hx, rd⟩ := cell_dtH sr1 hM
  refine ⟨a, xs, ep, rfl, hx, k _ _ ⟨F1, M1, _, _, s1, sr1, ?_, q⟩⟩
  rw [rd.len]
  exact wk_dk hz
theorem ji_dvs (hb : noCall0 x = true) (hline : (apos.endLine == pos.line) = true) (ha : PE X x (tD X tb C R (wpE C R a))) : PI X tg (.Call (.Attribute x "values" apos) [] [] pos) (tDi X tb C R g (wpI C R (.dvs a))) := by
  refine PI_imp (pi_dv ha (attrBase_of hb) hline) fun σ H Q h => ?_
  obtain ⟨F, M, Z, ρ, Q', sr, re, hw, k⟩ := h
  simp only [wpI] at hw
  refine ⟨F, M, Z, ρ, _, sr, re, hw, fun v H1 ⟨F1, M1, dx, s1, sr1, rx, h1⟩ => ?_⟩
  obtain ⟨a, es, ep, rfl, hM, hz, q⟩ := dtW_inv h1
  obtain rfl := rp_ref rx
  obtain ⟨xs, hx, rd⟩ := cell_dtH sr1 hM
  refine ⟨a, xs, ep, rfl, hx, k _ _ ⟨F1, M1, _, _, s1, sr1, ?_, q⟩⟩
  rw [rd.len]
  exact wk_dv hz
theorem ji_dis {gs : Tgs} (hb : noCall0 x = true) (hline : (apos.endLine == pos.line) = true) (ha : PE X x (tD X tb C R (wpE C R a))) : PI X (.Tuple elts kk tpos) (.Call (.Attribute x "items" apos) [] [] pos) (tDi X tb C R (.tp gs) (wpI C R (.dis a))) := by
  refine PI_imp (pi_di ha (attrBase_of hb) hline) fun σ H Q h => ?_
  obtain ⟨F, M, Z, ρ, Q', sr, re, hw, k⟩ := h
  simp only [wpI] at hw
  refine ⟨F, M, Z, ρ, _, sr, re, hw, fun v H1 ⟨F1, M1, dx, s1, sr1, rx, h1⟩ => ?_⟩
  obtain ⟨a, es, ep, rfl, hM, hz, q⟩ := dtW_inv h1
  obtain rfl := rp_ref rx
  obtain ⟨xs, hx, rd⟩ := cell_dtH sr1 hM
  refine ⟨a, xs, ep, rfl, hx, k _ _ ⟨F1, M1, _, _, s1, sr1, ?_, q⟩⟩
  rw [rd.len]
  exact wk_di hz
end
end T
set_option Elab.async false
set_option linter.all false
set_option maxRecDepth 100000
set_option maxHeartbeats 4000000
namespace T
open PySem PySem.Spec PyProof.Rows L2 HT
section
open PySem.W
variable {prog : Program} {w : World} {A : Around} {E : Value → Shared → Prop} {s : Shared}
theorem sorted_src {T : String} {r d : Addr} {n : Nat} {P : Nat → Value → Prop} {OK : Heap → Prop} {β : Type} {enc : β → PyData} {bs : List β} {R : Value → β → Prop} {Q : Value → Shared → Prop} (K : KdlSrc prog w T r d n P OK) (hh : A.handled = none) (hok : OK s.heap) (hn : n ≤ sizeLine) (hb : bs.length = n)
    (er : ∀ i v b, P i v → bs[i]? = some b → R v b ∧ ∃ as, Reads s.heap v (enc b) as) (hal : AllAlike (bs.map enc)) (hk : Sortable (bs.map enc)) (hu : ∀ b, b ∈ bs → A.units + 3 + (enc b).depth < cLine)
    (h : ∀ (h1 h' : Heap) tk p out c, (∀ b o, s.heap.get? b = some o → h1.get? b = some o) → h1.objs.size ≤ p → (∀ b o, s.heap.get? b = some o → h'.get? b = some o) → s.heap.get? p = none → EachIs R out (bs.mergeSort (dataLe false enc)) → out.length = n → h'.get? p = some (seqObj "list" out.toArray c) → Q (.ref p) { s with heap := h', toks := tk }) :
    wpAny (model prog w) A (call (.builtin "sorted") [.ref r]) Q E s := by
  refine Calls.call_function_entry kind_sorted plain_sorted entry_sorted (args_sorted1 _) ?_
  unfold Builtin.«sorted»
  refine wpAny_bind (m := checkCount "sorted" 1 1 _) (wpAny_pure (wpAny_bind (kdu_collect K hh hok hn fun h1 tk acc hk1 hit => ?_)))
  have hvl : acc.toList.length = n := by rw [Array.length_toList]; exact hit.1
  have each : ∀ (l : List Value) (m : List β), l.length = m.length → (∀ (i : Nat) (v : Value) (b : β), l[i]? = some v → m[i]? = some b → R v b ∧ ∃ as, Reads s.heap v (enc b) as) → EachIs R l m ∧ EachIs (fun v b => ∃ as, Reads s.heap v (enc b) as) l m := by
    intro l
    induction l with
    | nil => intro m hl _; cases m with
      | nil => exact ⟨.nil, .nil⟩
      | cons => simp at hl
    | cons v l ih => intro m hl hm; cases m with
      | nil => simp at hl
      | cons b m =>
        obtain ⟨a1, a2⟩ := hm 0 v b rfl rfl
        obtain ⟨b1, b2⟩ := ih m (by simpa using hl) fun i v' b' h1 h2 => hm (i + 1) v' b' (by simpa using h1) (by simpa using h2)
        exact ⟨.cons a1 b1, .cons a2 b2⟩
  obtain ⟨e1, e2⟩ := each acc.toList bs (by rw [hvl, hb]) fun i v b h1 h2 => er i v b (hit.2 i v (by rw [← Array.getElem?_toList]; exact h1)) h2
  refine wpAny_bind (wpAny_newList ?_ (by rw [hvl]; exact hn))
  generalize hp : h1.objs.size = p
  have hat : (h1.push (seqObj "list" acc.toList.toArray 0)).get? p = some (seqObj "list" acc.toList.toArray 0) := by rw [← hp]; exact Heap.get?_push_size _ rfl
  have hnp : s.heap.get? p = none := by
    cases q : s.heap.get? p with
    | none => rfl
    | some o =>
      have := Heap.lt_size (hk1 _ _ q)
      rw [hp] at this
      exact absurd this (Nat.lt_irrefl _)
  have old : ∀ b o, s.heap.get? b = some o → b ≠ p := fun b o e z => by rw [z, hnp] at e; cases e
  have er' : EachIs (fun v b => ∃ as, Reads (sortingHeap (h1.push (seqObj "list" acc.toList.toArray 0)) p acc.toList) v (enc b) as) acc.toList bs :=
    e2.mono fun _ _ ⟨as, q⟩ => ⟨as, PyProof.Rows.Reads.keeps (fun b o e => sortingHeap_old (old b o e) (Heap.get?_push_of_some _ (hk1 b o e))) q⟩
  have S : SortsAt prog w A.in1.in1 { s with heap := sortingHeap (h1.push (seqObj "list" acc.toList.toArray 0)) p acc.toList, toks := tk } (dataKind (sortingHeap (h1.push (seqObj "list" acc.toList.toArray 0)) p acc.toList) (bs.map enc)) acc.toList :=
    SortsAt.data (s := { s with heap := sortingHeap (h1.push (seqObj "list" acc.toList.toArray 0)) p acc.toList, toks := tk }) (each_map (R := fun v d => ∃ as, Reads (sortingHeap (h1.push (seqObj "list" acc.toList.toArray 0)) p acc.toList) v d as) enc er') hal hk (bound_map fun b hb => by show A.units + 1 + 1 + _ < _; have := hu b hb; omega)
  refine wpAny_bind (wpAny_holding (wpAny_call_entry slot_list_sort ⟨_, hat, rfl⟩ entry_list_sort (list_sort_vals (s := { s with heap := h1.push (seqObj "list" acc.toList.toArray 0), toks := tk }) hat S (by rw [hvl]; exact hn) ⟨_, rfl, wpAny_pure ⟨_, rfl, ?_⟩⟩) (args_list_sort _)))
  have so := sortVals_data false e1 er' hal
  obtain ⟨c, hc⟩ := sortedHeap_at (h := h1.push (seqObj "list" acc.toList.toArray 0)) (out := (sortVals (dataKind (sortingHeap (h1.push (seqObj "list" acc.toList.toArray 0)) p acc.toList) (bs.map enc)) false acc.toList acc.toList).toArray) hat
  refine h h1 _ _ p _ c hk1 (Nat.le_of_eq hp) (fun b o e => ?_) hnp so ?_ hc
  · have e' := Heap.get?_push_of_some (seqObj "list" acc.toList.toArray 0) (hk1 b o e)
    rw [sortedHeap_old (old b o e) (Heap.lt_size e')]
    exact e'
  · rw [sortVals_length false rfl]
    exact hvl
end
section
variable {X : Cx}
theorem sortT_dict (hc : X.calm = true) (hu : X.A.units + 65 < cLine) {m : Bool} {pins : List (Addr × Obj)} {σ : L2.St} {s : Shared} {H F Z : Hp} {M : MH} {v : V} {d : D} {a : Addr} {us : List Value} {Q : VK} {Q' : D → MH → Prop} (sr : SR X.K F M Z H) (I : Inv X pins σ H s) (rv : Rep X.K F v d) (e : vw M d = .ref a) (r : Vals [v] us)
    (h : match M a with | some (.dt es _) => (match rows? (es.map fun e => e.1) with | some rs => (∀ r ∈ rs, r ≠ []) ∧ mkL m ((rs.mergeSort fun a b => decide (a ≤ b)).map fun r => .tup (r.map .int)) M Q' | none => False) | _ => False)
    (k : ∀ v H', KQ X.K F Z Q' v H' → Q v H') : wpAny (model X.prog X.w) X.A (call (.builtin "sorted") us) (EP X pins σ Q) X.xe s := by
  split at h
  case h_2 => exact h.elim
  rename_i es ep hM
  split at h
  case h_2 => exact h.elim
  rename_i rs q
  obtain ⟨hne, h⟩ := h
  have ed : d = .ref a := by
    cases d with
    | ref b =>
      simp only [vw] at e
      split at e
      · exact absurd e (by simp)
      · exact absurd e (by simp)
      · exact e
      · exact e
    | _ => exact absurd e (by simp [vw])
  subst ed
  obtain rfl := rp_ref rv
  rw [Vals.ref1 r]
  obtain ⟨xs, hx, rd⟩ := cell_dtH sr hM
  obtain ⟨c1, as, hr, hs, he⟩ := dt_entries I hx
  obtain ⟨_, _, _, _, _, _, hz, _, _⟩ := cell_dict sr I hM
  have hl := rd.len
  have ek := rowsT_of q
  have hrl : rs.length = es.length := by
    have := congrArg List.length ek
    simpa using this.symm
  have lay : ∀ b : List Int, (PyData.tuple (b.map .int)).depth = 1 := fun b => by simp only [PyData.depth, PySem.W.depth_ints]
  refine sorted_src (KdlSrc.rawDict (es := as) (ep := ep) c1) (I.ok.hd hc) hr (by omega) (bs := rs) (enc := fun r : List Int => PyData.tuple (r.map .int)) (R := RowR X.K F) (by omega) (fun i w b hP hb => ?_) ?_ ?_ (fun b _ => ?_) fun h1 h' tk p out c hk1 hsz hk hnp eo ho hat => ?_
  · obtain ⟨hi, rfl⟩ := hP
    obtain ⟨e1, he1⟩ : ∃ e1, es[i]? = some e1 := ⟨_, List.getElem?_eq_getElem (by omega)⟩
    obtain ⟨pp, hp, r1, _⟩ := rd.get he1
    obtain ⟨_, k1, _⟩ := he i pp hp
    have e3 : e1.1 = .tup (b.map .int) := by
      have := congrArg (fun l => l[i]?) ek
      simp only [List.getElem?_map, he1, hb, Option.map_some, Option.some.injEq] at this
      exact this
    have rr : RowR X.K F (as[i].key) b := ⟨.ref pp.2.1, k1, by rw [← e3]; exact r1⟩
    exact ⟨rr, row_reads sr I rr⟩
  · refine PySem.W.AllAlike.of fun b b' => ?_
    simp only [PySem.W.alike, PySem.W.alike_ints]
  · refine .inl fun d hd => ?_
    obtain ⟨b, hb, rfl⟩ := List.mem_map.mp hd
    cases b with
    | nil => exact absurd rfl (hne _ hb)
    | cons x r => exact ⟨_, _, rfl⟩
  · rw [lay b]; omega
  · rw [dataLe_tups] at eo
    obtain ⟨ws, hv, rw'⟩ := each_rows eo
    have hl2 : ws.length ≤ sizeLine := by
      have := rw'.len
      rw [List.length_map, List.length_mergeSort] at this
      omega
    have hHp : H p = none := (I.kept (t' := s.toks) hk1).hok.fresh hsz
    exact ⟨.ref p, upd H p (.lst ws), I.laidN (t' := tk) hk hnp hHp ⟨hl2, out, c, hv, hat⟩, rfl, k _ _ (mkL_new sr rw' hHp h)⟩
def rSortT (X : Cx) (m : Bool) : List V → Hp → VK → Prop := fun vs H Q => ∃ F M Z ds Q', SR X.K F M Z H ∧ RepA X.K F vs ds ∧ pxD m .sortT ds M Q' ∧ ∀ v H', KQ X.K F Z Q' v H' → Q v H'
theorem cb_sortT (hc : X.calm = true) (hu : X.A.units + 65 < cLine) (m : Bool) : CallR X (.builtin "sorted") (rSortT X m) := by
  intro pins s σ H xs us Q I r h
  obtain ⟨F, M, Z, ds, Q', sr, ra, h, k⟩ := h
  match ds, h with
  | [d], h =>
    obtain ⟨v, rfl, rv⟩ := ra.one
    simp only [pxD] at h
    split at h
    case h_3 => exact h.elim
    case h_2 => exact sortT_dict hc hu sr I rv (by assumption) r h k
    rename_i ys e
    split at h
    case h_2 => exact h.elim
    rename_i rs q
    obtain ⟨hne, h⟩ := h
    obtain ⟨a, vs, rfl, ha, ra'⟩ := vw_lst sr rv e
    obtain rfl := rowsT_of q
    obtain ⟨its, rr, hl, hz⟩ := I.list (SqL.of ha)
    rw [Vals.ref1 r]
    have hlen : rs.length ≤ sizeLine := by
      have := ra'.len
      rw [List.length_map] at this
      omega
    have each := rows_each ra' rr
    have lay : ∀ b : List Int, (PyData.tuple (b.map .int)).depth = 1 := fun b => by simp only [PyData.depth, PySem.W.depth_ints]
    refine PySem.W.sorted_data (enc := fun r : List Int => PyData.tuple (r.map .int)) (R := RowR X.K F) hl.isList each ?_ ?_ ?_ hlen (fun b _ => ?_) fun out ho eo => ?_
    · exact each.mono fun _ _ hh => row_reads sr I hh
    · refine PySem.W.AllAlike.of fun b b' => ?_
      simp only [PySem.W.alike, PySem.W.alike_ints]
    · refine .inl fun d hd => ?_
      obtain ⟨b, hb, rfl⟩ := List.mem_map.mp hd
      cases b with
      | nil => exact absurd rfl (hne _ hb)
      | cons x r => exact ⟨_, _, rfl⟩
    · rw [lay b]; omega
    · rw [dataLe_tups] at eo
      obtain ⟨ws, hv, rw'⟩ := each_rows eo
      obtain ⟨ep, he'⟩ := PyProof.Rows.sortedAll_at s.heap its out.toArray
      have hl2 : ws.length ≤ sizeLine := by
        have := rw'.len
        rw [List.length_map, List.length_mergeSort] at this
        omega
      exact ⟨.ref _, upd H (s.heap.objs.size + 1) (.lst ws), I.laid (t' := s.toks) (fun _ _ => PyProof.Rows.sortedAll_old) (Nat.le_succ _) ⟨hl2, out, ep, hv, he'⟩, rfl, k _ _ (mkL_new sr rw' (I.hok.fresh (Nat.le_succ _)) h)⟩
def DatR (K : PySem.W.Frag) (F : Hp) (v : Value) (d : D) : Prop := ∃ x : V, RelV x v ∧ Rep K F x d
theorem dat_each {K : PySem.W.Frag} {F : Hp} : ∀ {ds : List D} {vs : List V} {us : List Value}, RepA K F vs ds → Vals vs us → PySem.W.EachIs (DatR K F) us ds
  | [], _, _, r, v => by
    cases r; cases v; exact .nil
  | d :: ds, _, _, ra, v => by
    cases ra with
    | cons r1 r2 =>
    cases v with
    | cons e1 e2 => exact .cons ⟨_, e1, r1⟩ (dat_each r2 e2)
theorem each_dat {K : PySem.W.Frag} {F : Hp} : ∀ {ds : List D} {us : List Value}, PySem.W.EachIs (DatR K F) us ds → ∃ vs, Vals vs us ∧ RepA K F vs ds
  | _, _, .nil => ⟨[], .nil, .nil⟩
  | _, _, .cons ⟨x, e, r⟩ t => by
    obtain ⟨vs, h1, h2⟩ := each_dat t
    exact ⟨x :: vs, .cons e h1, .cons r h2⟩
theorem pures_mem : ∀ {ds : List D} {d : D}, pures ds = true → d ∈ ds → d.pure = true
  | x :: r, d, h, hd => by
    simp only [pures, Bool.and_eq_true] at h
    rcases List.mem_cons.mp hd with rfl | hd
    · exact h.1
    · exact pures_mem h.2 hd
theorem depths_mem' : ∀ {ds : List D} {d : D}, d ∈ ds → d.depth ≤ depths ds
  | x :: r, d, hd => by
    simp only [depths]
    rcases List.mem_cons.mp hd with rfl | hd
    · exact Nat.le_max_left _ _
    · exact Nat.le_trans (depths_mem' hd) (Nat.le_max_right _ _)
theorem minD_le (x : PyData) : ∀ xs : List PyData, PySem.W.minD x xs ∈ x :: xs ∧ ∀ e ∈ x :: xs, PySem.W.dataLt e (PySem.W.minD x xs) = false := by
  have key : ∀ (xs : List PyData) (x : PyData) (S : List PyData), (∀ e ∈ S, PySem.W.dataLt e x = false) → (xs.foldl (fun a y => if PySem.W.dataLt y a then y else a) x ∈ x :: xs) ∧ (∀ e ∈ S, PySem.W.dataLt e (xs.foldl (fun a y => if PySem.W.dataLt y a then y else a) x) = false) ∧ ∀ e ∈ x :: xs, PySem.W.dataLt e (xs.foldl (fun a y => if PySem.W.dataLt y a then y else a) x) = false := by
    intro xs
    induction xs with
    | nil =>
      intro x S hS
      refine ⟨List.mem_cons_self, hS, fun e he => ?_⟩
      rw [List.mem_singleton.mp he]
      exact PySem.W.dataLt_self x
    | cons y xs ih =>
      intro x S hS
      rw [List.foldl_cons]
      by_cases c : PySem.W.dataLt y x = true
      · rw [if_pos c]
        have tr : ∀ e, PySem.W.dataLt e x = false → PySem.W.dataLt e y = false := fun e he => by
          cases q : PySem.W.dataLt e y with
          | false => rfl
          | true =>
            have := lex_trans (O := PyProof.Rows.itemOrd) _ _ _ q c
            rw [show PyProof.Rows.lexLt PyProof.Rows.itemOrd (PySem.W.keyToks e) (PySem.W.keyToks x) = PySem.W.dataLt e x from rfl, he] at this
            cases this
        obtain ⟨h1, h2, h3⟩ := ih y (x :: S) (fun e he => by
          rcases List.mem_cons.mp he with rfl | he
          · exact tr _ (PySem.W.dataLt_self _)
          · exact tr _ (hS e he))
        refine ⟨List.mem_cons_of_mem _ h1, fun e he => h2 e (List.mem_cons_of_mem _ he), fun e he => ?_⟩
        rcases List.mem_cons.mp he with rfl | he
        · exact h2 _ List.mem_cons_self
        · exact h3 e he
      · have c' : PySem.W.dataLt y x = false := by simpa using c
        rw [if_neg c]
        obtain ⟨h1, h2, h3⟩ := ih x (y :: S) (fun e he => by
          rcases List.mem_cons.mp he with rfl | he
          · exact c'
          · exact hS e he)
        refine ⟨?_, fun e he => h2 e (List.mem_cons_of_mem _ he), fun e he => ?_⟩
        · rcases List.mem_cons.mp h1 with h1 | h1
          · rw [h1]; exact List.mem_cons_self
          · exact List.mem_cons_of_mem _ (List.mem_cons_of_mem _ h1)
        · rcases List.mem_cons.mp he with rfl | he
          · exact h3 _ List.mem_cons_self
          · rcases List.mem_cons.mp he with rfl | he
            · exact h2 _ List.mem_cons_self
            · exact h3 e (List.mem_cons_of_mem _ he)
  intro xs
  have := key xs x [] fun e he => nomatch he
  exact ⟨this.1, this.2.2⟩
theorem each_reads {s : Shared} : ∀ {us : List Value} {es : List D}, PySem.W.EachIs (fun v d => ∃ as, Reads s.heap v (D.toP d) as) us es → ∃ as, ReadsAll s.heap us (es.map D.toP) as
  | _, _, .nil => ⟨_, .nil⟩
  | _, _, .cons ⟨_, h1⟩ t => by
    obtain ⟨as, h2⟩ := each_reads t
    exact ⟨_, .cons h1 h2⟩
theorem each_at {R : Value → D → Prop} : ∀ {us : List Value} {es : List D}, PySem.W.EachIs R us es → ∀ {i : Nat} {v : Value}, us[i]? = some v → ∃ d, es[i]? = some d ∧ R v d
  | _, _, .nil, i, v, h => by simp at h
  | _, _, .cons h1 t, 0, v, h => by
    simp only [List.getElem?_cons_zero, Option.some.injEq] at h ⊢
    subst h
    exact ⟨_, rfl, h1⟩
  | _, _, .cons h1 t, i + 1, v, h => by
    simp only [List.getElem?_cons_succ] at h ⊢
    exact each_at t h
theorem depthAll_le {n : Nat} : ∀ {ps : List PyData}, (∀ p ∈ ps, p.depth ≤ n) → PyData.depthAll ps ≤ n
  | [], _ => by simp only [PyData.depthAll]; omega
  | p :: ps, h => by
    have h1 := h p List.mem_cons_self
    have h2 := depthAll_le fun q hq => h q (List.mem_cons_of_mem _ hq)
    simp only [PyData.depthAll]
    omega
theorem cb_minD (hc : X.calm = true) (hu : X.A.units + 65 < cLine) (m : Bool) : CallR X (.builtin "min") (fun vs H Q => ∃ F M Z ds Q', SR X.K F M Z H ∧ RepA X.K F vs ds ∧ pxD m .minD ds M Q' ∧ ∀ v H', KQ X.K F Z Q' v H' → Q v H') := by
  intro pins s σ H xs us Q I r h
  obtain ⟨F, M, Z, ds, Q', sr, ra, h, k⟩ := h
  match ds, h with
  | [d], h =>
    obtain ⟨v, rfl, rv⟩ := ra.one
    simp only [pxD] at h
    split at h
    case h_2 => exact h.elim
    rename_i ys e
    obtain ⟨⟨hp, hd, hal, hne⟩, h⟩ := h
    obtain ⟨a, vs, rfl, ha, ra'⟩ := vw_lst sr rv e
    obtain ⟨its, rr, hl, hz⟩ := I.list (SqL.of ha)
    rw [Vals.ref1 r]
    have each := dat_each ra' rr
    have reads : ∀ v d, d ∈ ys → DatR X.K F v d → ∃ as, Reads s.heap v d.toP as := fun v d hd ⟨x, e, rx⟩ => by
      have p := pures_mem hp hd
      have dp := vw_dp sr rx (by rw [pure_vw p]; exact p)
      rw [pure_vw p] at dp
      exact Dp.reads I _ _ _ dp e
    have er : PySem.W.EachIs (fun v d => ∃ as, Reads s.heap v (D.toP d) as) its ys := by
      have : ∀ {us : List Value} {es : List D}, PySem.W.EachIs (DatR X.K F) us es → (∀ d ∈ es, d ∈ ys) → PySem.W.EachIs (fun v d => ∃ as, Reads s.heap v (D.toP d) as) us es := by
        intro us es h
        induction h with
        | nil => exact fun _ => .nil
        | cons h1 _ ih => exact fun hm => .cons (reads _ _ (hm _ List.mem_cons_self) h1) (ih fun d hd => hm d (List.mem_cons_of_mem _ hd))
      exact this each fun d hd => hd
    obtain ⟨as, rall⟩ := each_reads er
    have hdep : PyData.depthAll (ys.map D.toP) ≤ 60 := depthAll_le fun p hp' => by
      obtain ⟨d, hd', rfl⟩ := List.mem_map.mp hp'
      have h1 := depth_pure d
      have h2 := depths_mem' hd'
      omega
    cases ys with
    | nil => exact absurd rfl hne
    | cons y ys =>
      rw [List.map_cons] at rall hal hdep
      obtain ⟨lm, ll⟩ := minD_le y.toP (ys.map D.toP)
      refine PySem.W.min_list_data (I.ok.hd hc) hl.isList (by simpa using rall) hal (by omega) fun i v h' tk bs hi rd hk => ?_
      have hi' : its[i]? = some v := by simpa using hi
      obtain ⟨d, hd', ⟨x, ex, rx⟩⟩ := each_at each hi'
      have hdm : d ∈ y :: ys := List.mem_of_getElem? hd'
      obtain ⟨bs2, rd2⟩ := reads v d hdm ⟨x, ex, rx⟩
      have rd3 := PySem.W.reads_keeps hk rd2
      have ed : d.toP = PySem.W.minD y.toP (ys.map D.toP) := PySem.W.alike_unique _ _ _ _ _ (hal.1 _ (by rw [← List.map_cons]; exact List.mem_map.mpr ⟨d, hdm, rfl⟩) _ lm) rd3 rd
      have q := h d hdm fun e he => by
        rw [ed]
        exact ll _ (by rw [← List.map_cons]; exact List.mem_map.mpr ⟨e, he, rfl⟩)
      exact ⟨x, H, I.kept (t' := tk) hk, ex, k _ _ (.of sr rx q)⟩
theorem cb_sortD (hu : X.A.units + 65 < cLine) (m : Bool) : CallR X (.builtin "sorted") (fun vs H Q => ∃ F M Z ds Q', SR X.K F M Z H ∧ RepA X.K F vs ds ∧ pxD m .sortD ds M Q' ∧ ∀ v H', KQ X.K F Z Q' v H' → Q v H') := by
  intro pins s σ H xs us Q I r h
  obtain ⟨F, M, Z, ds, Q', sr, ra, h, k⟩ := h
  match ds, h with
  | [d], h =>
    obtain ⟨v, rfl, rv⟩ := ra.one
    simp only [pxD] at h
    split at h
    case h_2 => exact h.elim
    rename_i ys e
    obtain ⟨⟨hp, hd, hal, hso⟩, h⟩ := h
    obtain ⟨a, vs, rfl, ha, ra'⟩ := vw_lst sr rv e
    obtain ⟨its, rr, hl, hz⟩ := I.list (SqL.of ha)
    rw [Vals.ref1 r]
    have hlen : ys.length ≤ sizeLine := by
      have := ra'.len
      omega
    have each := dat_each ra' rr
    have reads : ∀ v d, d ∈ ys → DatR X.K F v d → ∃ as, Reads s.heap v d.toP as := fun v d hd ⟨x, e, rx⟩ => by
      have p := pures_mem hp hd
      have dp := vw_dp sr rx (by rw [pure_vw p]; exact p)
      rw [pure_vw p] at dp
      exact Dp.reads I _ _ _ dp e
    have er : PySem.W.EachIs (fun v d => ∃ as, Reads s.heap v (D.toP d) as) its ys := by
      have : ∀ {us : List Value} {es : List D}, PySem.W.EachIs (DatR X.K F) us es → (∀ d ∈ es, d ∈ ys) → PySem.W.EachIs (fun v d => ∃ as, Reads s.heap v (D.toP d) as) us es := by
        intro us es h
        induction h with
        | nil => exact fun _ => .nil
        | cons h1 _ ih => exact fun hm => .cons (reads _ _ (hm _ List.mem_cons_self) h1) (ih fun d hd => hm d (List.mem_cons_of_mem _ hd))
      exact this each fun d hd => hd
    refine PySem.W.sorted_data (enc := D.toP) (R := DatR X.K F) hl.isList each er hal hso hlen (fun b hb => ?_) fun out ho eo => ?_
    · have h1 := depth_pure b
      have h2 := depths_mem' hb
      omega
    · obtain ⟨ws, hv, rw'⟩ := each_dat eo
      obtain ⟨ep, he'⟩ := PyProof.Rows.sortedAll_at s.heap its out.toArray
      have hl2 : ws.length ≤ sizeLine := by
        have := rw'.len
        rw [List.length_mergeSort] at this
        omega
      exact ⟨.ref _, upd H (s.heap.objs.size + 1) (.lst ws), I.laid (t' := s.toks) (fun _ _ => PyProof.Rows.sortedAll_old) (Nat.le_succ _) ⟨hl2, out, ep, hv, he'⟩, rfl, k _ _ (mkL_new sr rw' (I.hok.fresh (Nat.le_succ _)) h)⟩
end
end T
set_option Elab.async false
set_option linter.all false
set_option maxRecDepth 100000
set_option maxHeartbeats 4000000
namespace T
open PySem PySem.Spec PyProof.Rows L2 HT
abbrev BB := Bool × Bool
def hP (k : BB) : Int := reduceHash (Builtin.Tuple.tupleHashOf ([k.1, k.2].map PpSet.hB))
/-- the tuple at T has these two truth values -/
def P2 (h : Heap) (k : BB) (T : Addr) : Prop := ∃ o n, h.get? T = some o ∧ o.cls = .type "tuple" ∧ o.data = .seq #[.bool k.1, .bool k.2] n
theorem P2.key {P : Program} {w : World} {h : Heap} {k : BB} {T : Addr} (x : P2 h k T) : IsTupleKey (PpSet.boolK P w) h [k.1, k.2] T := by
  obtain ⟨o, n, h1, h2, h3⟩ := x
  exact ⟨o, _, n, h1, h2, h3, .cons (PpSet.boolK_is P w _) (.cons (PpSet.boolK_is P w _) .nil)⟩
theorem P2.keep {h h' : Heap} {k : BB} {T : Addr} (x : P2 h k T) (q : ∀ o, h.get? T = some o → h'.get? T = some o) : P2 h' k T := by
  obtain ⟨o, n, h1, h2, h3⟩ := x
  exact ⟨o, n, q o h1, h2, h3⟩
section
variable {P : Program} {w : World} {A : Around} {E : Value → Shared → Prop} {s : Shared}
theorem ofAClass_b (n : Nat) (b : Bool) : ofAClassStatement n (.bool b) = pure false := by cases n <;> rfl
theorem hashBy_b (n : Nat) (b : Bool) : hashByValue n (.bool b) = pure true := by cases n <;> rfl
theorem ofAClass_p {k : BB} {b : Addr} {Q : Bool → Shared → Prop} (hk : P2 s.heap k b) (h : Q false s) : wpAny (model P w) A (ofAClassStatement 8 (.ref b)) Q E s := by
  obtain ⟨o, n, ho, hc, hd⟩ := hk
  have hT : s.TypeIs (.ref b) "tuple" := ⟨o, ho, hc⟩
  unfold ofAClassStatement
  refine wpAny_bind (wpAny_typeOf hT ?_)
  dsimp only
  have e : (("tuple" : String) == "tuple") = true := by decide
  simp only [e, if_true, Bool.not_true, Bool.false_eq_true, if_false]
  try refine wpAny_bind (wpAny_pure ?_)
  try simp only [Bool.not_true, Bool.false_eq_true, if_false]
  show wpAny _ _ (seqItems? (.ref b) >>= _) _ _ s
  refine wpAny_bind (wpAny_seqItems ho hd ?_)
  dsimp only
  refine wpAny_bind ?_
  rw [← Array.forIn_toList]
  simp only [List.forIn_cons, List.forIn_nil, ofAClass_b]
  refine wpAny_bind (wpAny_bind (wpAny_pure ?_))
  simp only [Bool.false_eq_true, if_false]
  refine wpAny_pure ?_
  refine wpAny_bind (wpAny_bind (wpAny_pure ?_))
  simp only [Bool.false_eq_true, if_false]
  refine wpAny_pure ?_
  exact wpAny_pure (wpAny_pure h)
theorem hashBy_p {k : BB} {b : Addr} {Q : Bool → Shared → Prop} (hk : P2 s.heap k b) (h : Q true s) : wpAny (model P w) A (hashByValue 8 (.ref b)) Q E s := by
  obtain ⟨o, n, ho, hc, hd⟩ := hk
  have hT : s.TypeIs (.ref b) "tuple" := ⟨o, ho, hc⟩
  unfold hashByValue
  refine wpAny_bind (wpAny_specialOf hT F.slot_tuple_hash.lookup ?_)
  show wpAny _ _ (seqItems? (.ref b) >>= _) _ _ s
  refine wpAny_bind (wpAny_seqItems ho hd ?_)
  refine wpAny_bind ?_
  rw [← Array.forIn_toList]
  simp only [List.forIn_cons, List.forIn_nil, hashBy_b]
  refine wpAny_bind (wpAny_bind (wpAny_pure ?_))
  simp only [Bool.not_true, Bool.false_eq_true, if_false]
  refine wpAny_pure ?_
  refine wpAny_bind (wpAny_bind (wpAny_pure ?_))
  simp only [Bool.not_true, Bool.false_eq_true, if_false]
  refine wpAny_pure ?_
  exact wpAny_pure (wpAny_pure h)
theorem seen_p {k : BB} {b : Addr} {Q : Bool → Shared → Prop} (hk : P2 s.heap k b) : ∀ {ys : List Value}, (∀ y ∈ ys, ∃ k' c, y = Value.ref c ∧ P2 s.heap k' c) → Q false s → wpAny (model P w) A (searchCouldBeSeen (.ref b) ys) Q E s := by
  intro ys hy h
  unfold searchCouldBeSeen
  refine wpAny_bind ?_
  refine wpAny_forIn_list _ (fun rest r s' => r.1 = none ∧ s' = s ∧ ∀ y ∈ rest, ∃ k' c, y = Value.ref c ∧ P2 s.heap k' c) _ ?_ ?_ _ _ ⟨rfl, rfl, hy⟩
  · rintro v rest r s' ⟨hr, rfl, hall⟩
    obtain ⟨k', c, rfl, hc⟩ := hall v List.mem_cons_self
    have stay : (none : Option Bool) = none ∧ s' = s' ∧ ∀ y ∈ rest, ∃ k' c, y = Value.ref c ∧ P2 s'.heap k' c := ⟨rfl, rfl, fun u hu => hall u (List.mem_cons_of_mem _ hu)⟩
    dsimp only
    by_cases hv : (b == c || (carriedByValue (.ref b) && carriedByValue (.ref c))) = true
    · exact wp_if_pos hv (wpAny_pure stay)
    · refine wp_if_neg hv ?_
      refine wpAny_bind (wpAny_eqIsQuiet_tuple (hk.key (P := P) (w := w)) ?_)
      simp only [Bool.not_true, Bool.false_eq_true, if_false]
      refine wpAny_bind (wpAny_eqIsQuiet_tuple (hc.key (P := P) (w := w)) ?_)
      simp only [Bool.not_true, Bool.false_eq_true, if_false]
      refine wpAny_bind (ofAClass_p hk ?_)
      simp only [Bool.false_eq_true, if_false]
      refine wpAny_bind (ofAClass_p hc ?_)
      simp only [Bool.false_eq_true, if_false]
      exact wpAny_pure stay
  · rintro ⟨r1, r2⟩ s' ⟨hr, rfl, _⟩
    simp only at hr
    subst hr
    exact wpAny_pure h
def simS (t : SetTable) (ks : List BB) (k : BB) : Nat → Option SetTable.Probe → Option (Option Nat)
  | 0, _ => none
  | f + 1, st => match t.probe (fun i => ((ks[i]?).map hP).getD 0) (hP k) (st.getD (t.probeStart (hP k))) with
    | some (.empty j none) => some (some j)
    | some (.candidate j i next) => (match ks[i]? with
      | some y => if y = k then some none else if t.slot j = .live i then simS t ks k f (some next) else none
      | none => none)
    | _ => none
theorem simS_more {t : SetTable} {ks : List BB} {k : BB} {r : Option Nat} : ∀ {f : Nat} {st : Option SetTable.Probe}, simS t ks k f st = some r → ∀ g, simS t ks k (f + g) st = some r
  | 0, st, h, g => by cases h
  | f + 1, st, h, g => by
    have ih := fun {st} (h : simS t ks k f st = some r) => simS_more h g
    rw [show f + 1 + g = (f + g) + 1 by omega]
    unfold simS at h ⊢
    split at h
    · exact h
    · split at h
      · split at h
        · rename_i e; simp only [e, if_true]; exact h
        · rename_i e
          split at h
          · rename_i e2; simp only [e, e2, if_false, if_true]; exact ih h
          · cases h
      · cases h
    · cases h
/-- the set at a, its table t, its entries -/
structure SB (h : Heap) (a : Addr) (L : List (Addr × BB)) (t : SetTable) : Prop where
  ob : ∃ o es ep, h.get? a = some o ∧ o.ExactSet ∧ o.data = .set es ep t ∧ es.toList = L.map fun p => (hP p.2, Value.ref p.1)
  tup : ∀ p ∈ L, P2 h p.2 p.1
  fits : t.fits L.length = true
  plain : t.plain = true
  gw : t.gaveWay = false
theorem ent_hash {es : Array (Int × Value)} {L : List (Addr × BB)} (hent : ∀ i : Nat, es[i]? = (L[i]?).map fun p : Addr × BB => (hP p.2, Value.ref p.1)) : (fun i : Nat => ((es[i]?).map (fun e : Int × Value => e.1)).getD 0) = fun i : Nat => (((L.map (fun p : Addr × BB => p.2))[i]?).map hP).getD 0 := by
  funext i
  rw [hent i, List.getElem?_map]
  cases L[i]? <;> rfl
theorem search_sim {a : Addr} {L : List (Addr × BB)} {t : SetTable} {x : Addr} {k : BB} {r : Option Nat} {Q : SetFound → Shared → Prop} (S : SB s.heap a L t) (hx : P2 s.heap k x) (hu : A.units < cLine)
    (hq : match r with | none => Q (.there none) s | some j => Q (.free j false) s) : ∀ (f : Nat) (st : Option SetTable.Probe), simS t (L.map (·.2)) k f st = some r → wpAny (model P w) A (setSearchFrom a (.ref x) (hP k) true f st) Q E s
  | 0, st, h => by cases h
  | f + 1, st, h => by
    obtain ⟨o, es, ep, ho, hex, hd, he⟩ := S.ob
    have hsz : es.size = L.length := by
      have := congrArg List.length he
      rw [Array.length_toList, List.length_map] at this
      exact this
    have hf : t.fits es.size = true := by rw [hsz]; exact S.fits
    have hent : ∀ i : Nat, es[i]? = (L[i]?).map fun p : Addr × BB => (hP p.2, Value.ref p.1) := fun i => by rw [← Array.getElem?_toList, he, List.getElem?_map]
    have hh := ent_hash hent
    rw [setSearchFrom_succ]
    refine wpAny_bind (wpAny_setState_of ho hd hf ?_)
    dsimp only
    refine wp_if_neg (by rw [S.gw]; decide) ?_
    try refine wpAny_bind (wpAny_pure ?_)
    rw [hh]
    unfold simS at h
    split at h
    · rename_i j e
      cases h
      rw [e]
      exact wpAny_pure hq
    · rename_i j i next e
      rw [e]
      dsimp only
      split at h
      case h_2 => cases h
      rename_i y hy
      rw [List.getElem?_map, Option.map_eq_some_iff] at hy
      obtain ⟨p, hp, rfl⟩ := hy
      have hpt := S.tup p (List.mem_of_getElem? hp)
      have hei : es[i]? = some (hP p.2, Value.ref p.1) := by rw [hent, hp]; rfl
      have rest : wpAny (model P w) A (searchRest a (.ref x) (hP k) true f es t j i next) Q E s := by
        unfold searchRest
        rw [hei]
        dsimp only
        refine wpAny_bind (wpAny_holding (wpAny_eqBool_tuple hu (hpt.key (P := P) (w := w)) (hx.key (P := P) (w := w)) ?_))
        refine wpAny_bind (wpAny_setState_of ho hd hf ?_)
        dsimp only
        have ek : ([p.2.1, p.2.2] = [k.1, k.2]) ↔ p.2 = k := by
          rw [Prod.ext_iff]; simp
        split at h
        · rename_i c
          cases h
          refine wp_if_pos (by simp [ek, c]) ?_
          exact wpAny_pure hq
        · rename_i c
          split at h
          case isFalse => cases h
          rename_i hsl
          refine wp_if_neg (by simp [ek, c]) ?_
          try refine wpAny_bind (wpAny_pure ?_)
          rw [sameMem]
          dsimp only
          simp only [if_true, hsl, hei]
          refine wpAny_bind (wpAny_isSame_ref_self (wpAny_bind (wpAny_pure ?_)))
          simp only [if_true]
          refine wp_if_neg (by simp [ek, c]) ?_
          exact search_sim S hx hu hq f _ h
      by_cases hl : t.led = true
      · refine wp_if_neg (by simp [hl]) ?_
        try refine wpAny_bind (wpAny_pure ?_)
        exact rest
      · refine wp_if_pos (by simp [hl]) ?_
        refine wpAny_bind (seen_p hx (fun y hy => ?_) ?_)
        · obtain ⟨e, he', rfl⟩ := List.mem_map.mp hy
          have he1 : e ∈ es.toList := by
            have : e ∈ es ∧ e.1 = hP k := by simpa using he'
            simpa using this.1
          rw [he] at he1
          obtain ⟨p2, hp2, rfl⟩ := List.mem_map.mp he1
          exact ⟨p2.2, p2.1, rfl, S.tup p2 hp2⟩
        · refine wp_if_neg (by decide) ?_
          try refine wpAny_bind (wpAny_pure ?_)
          exact rest
    · cases h
end
end T
set_option Elab.async false
set_option linter.all false
set_option maxRecDepth 100000
set_option maxHeartbeats 4000000
namespace T
open PySem PySem.Spec PyProof.Rows L2 HT
def simA (t : SetTable) (ks : List BB) (k : BB) : Option (List BB × SetTable) := match simS t ks k 20 none with
  | some none => some (ks, t)
  | some (some j) => if (t.put j).1.tooFull = false ∧ (t.put j).1.fits (ks.length + 1) = true ∧ (t.put j).1.plain = true ∧ (t.put j).1.gaveWay = false then some (ks.take (t.put j).2 ++ k :: ks.drop (t.put j).2, (t.put j).1) else none
  | none => none
section
variable {P : Program} {w : World} {A : Around} {E : Value → Shared → Prop} {s : Shared}
theorem P2.same {h h' : Heap} {k : BB} {T a : Addr} {o : Obj} {es : Array (Int × Value)} {ep : Nat} {t : SetTable} (x : P2 h k T) (ho : h.get? a = some o) (hd : o.data = .set es ep t) (hs : Heap.SameBut a h h') : P2 h' k T := by
  have hne : T ≠ a := by
    rintro rfl
    obtain ⟨o', n, h1, _, h3⟩ := x
    rw [ho] at h1
    cases h1
    rw [hd] at h3
    cases h3
  exact x.keep fun o e => (hs.2 T hne).trans e
theorem add_sim {a : Addr} {L : List (Addr × BB)} {t t' : SetTable} {ks' : List BB} {x : Addr} {k : BB} {Q : Bool → Shared → Prop} (S : SB s.heap a L t) (hx : P2 s.heap k x) (hu : A.units < cLine) (hl : L.length < 64) (hs : simA t (L.map (·.2)) k = some (ks', t'))
    (hQ : ∀ b h' L', Heap.SameBut a s.heap h' → SB h' a L' t' → L'.map (·.2) = ks' → L'.length ≤ L.length + 1 → (∀ q ∈ L', q ∈ L ∨ q = (x, k)) → Q b { s with heap := h' }) : wpAny (model P w) A (setAddHashed a (.ref x) (hP k)) Q E s := by
  obtain ⟨o, es, ep, ho, hex, hd, he⟩ := S.ob
  have hsz : es.size = L.length := by
    have := congrArg List.length he
    rw [Array.length_toList, List.length_map] at this
    exact this
  have hf : t.fits es.size = true := by rw [hsz]; exact S.fits
  have zl := sizeLine_eq
  unfold setAddHashed
  refine wpAny_holding ?_
  rw [show (100000 : Nat) = 99999 + 1 from rfl, setAddHashedIn_succ]
  refine wpAny_bind (wpAny_setState_of ho hd hf ?_)
  dsimp only
  refine wp_if_neg (by simp [byScan, Value.scannable]) ?_
  try refine wpAny_bind (wpAny_pure ?_)
  unfold simA at hs
  split at hs
  · rename_i e
    cases hs
    refine wpAny_bind ?_
    unfold setSearch
    refine search_sim (r := none) S hx hu ?_ 100000 none (simS_more e 99980)
    dsimp only
    exact wpAny_pure (hQ false s.heap L (Heap.SameBut.refl a s.heap) S rfl (Nat.le_succ _) fun q hq => .inl hq)
  · rename_i j e
    split at hs
    case isFalse => cases hs
    rename_i c
    obtain ⟨c1, c2, c3, c4⟩ := c
    cases hs
    refine wpAny_bind ?_
    unfold setSearch
    refine search_sim (r := some j) S hx hu ?_ 100000 none (simS_more e 99980)
    dsimp only
    refine wpAny_bind (wpAny_setState_of ho hd hf ?_)
    dsimp only
    generalize hpt : t.put j = pt at c1 c2 c3 c4 hQ ⊢
    obtain ⟨t1, p⟩ := pt
    dsimp only at c1 c2 c3 c4 hQ ⊢
    have hpl : t.plain = true := S.plain
    have hpl1 : t1.plain = true := c3
    first
      | (refine wpAny_bind ?_; refine wp_if_pos hpl1 ?_; refine hashBy_p hx ?_)
      | refine wp_if_pos hpl1 (wpAny_bind (hashBy_p hx ?_))
    simp only [if_true]
    have hin : (SetTable.insertAt es p (hP k, Value.ref x)).toList = (L.take p ++ (x, k) :: L.drop p).map fun p => (hP p.2, Value.ref p.1) := by
      rw [SetTable.toList_insertAt, he, List.map_append, List.map_cons, List.map_take, List.map_drop]
    have hlen : (L.take p ++ (x, k) :: L.drop p).length = L.length + 1 := by
      rw [List.length_append, List.length_cons, List.length_take, List.length_drop]; omega
    have hes : (SetTable.insertAt es p (hP k, Value.ref x)).size = L.length + 1 := by
      have := congrArg List.length hin
      rw [Array.length_toList, List.length_map, hlen] at this
      exact this
    generalize SetTable.insertAt es p (hP k, Value.ref x) = es1 at hin hes ⊢
    have mp : (L.take p ++ (x, k) :: L.drop p).map (·.2) = (L.map (·.2)).take p ++ k :: (L.map (·.2)).drop p := by
      rw [List.map_append, List.map_cons, List.map_take, List.map_drop]
    refine wpAny_bind (wpAny_storeSet_of ho hd ?_ (by rw [hes]; omega))
    have sb : Heap.SameBut a s.heap (s.heap.update a (Obj.putSet es1 t1)) := Heap.SameBut.update ..
    have ho1 := store_at (es' := es1) (t' := t1) ho hd
    generalize s.heap.update a (Obj.putSet es1 t1) = h1 at sb ho1 ⊢
    first
      | (refine wp_if_neg (by simp [c1]) ?_)
      | (refine wpAny_bind ?_; refine wp_if_neg (by simp [c1]) ?_; refine wpAny_pure ?_)
    refine wpAny_pure (hQ true h1 (L.take p ++ (x, k) :: L.drop p) sb ⟨⟨_, es1, ep + 1, ho1, ⟨hex.1, hex.2.1, hex.2.2⟩, rfl, hin⟩, fun q hq => ?_, ?_, hpl1, c4⟩ mp (Nat.le_of_eq hlen) fun q hq => ?_)
    · rcases List.mem_append.mp hq with hq | hq
      · exact (S.tup q (List.mem_of_mem_take hq)).same ho hd sb
      · rcases List.mem_cons.mp hq with rfl | hq
        · exact hx.same ho hd sb
        · exact (S.tup q (List.mem_of_mem_drop hq)).same ho hd sb
    · rw [hlen]
      rw [List.length_map] at c2
      exact c2
    · rcases List.mem_append.mp hq with hq | hq
      · exact .inl (List.mem_of_mem_take hq)
      · rcases List.mem_cons.mp hq with rfl | hq
        · exact .inr rfl
        · exact .inl (List.mem_of_mem_drop hq)
  · cases hs
def simF : List BB → List BB → SetTable → Option (List BB × SetTable)
  | [], ks, t => some (ks, t)
  | k :: r, ks, t => match simA t ks k with
    | some (ks', t') => simF r ks' t'
    | none => none
theorem fill_sim {I : Addr} {fp wr : List Addr} {G : Array GenState → Array GenState → Prop} {n : Nat} {Pv : Nat → Value → Prop} {St : Nat → Shared → Prop} {R : Result → Shared → Prop}
    (W : WalksS P w A.in1 I fp wr G n Pv St) (S : Addr) (hSf : S ∉ fp) (xs : List (Addr × BB)) (hn : n = xs.length) (hfew : xs.length < 32) (hval : ∀ i v, Pv i v → ∃ p, xs[i]? = some p ∧ v = .ref p.1)
    (h0 : Heap) (hk : ∀ p ∈ xs, P2 h0 p.2 p.1) (hS0 : h0.get? S = none) (hw0 : ∀ b ∈ wr, h0.get? b = none) (hu : A.in1.units < cLine) (ks' : List BB) (t' : SetTable) :
    ∀ (k i : Nat) (s : Shared) (L : List (Addr × BB)) (t : SetTable), n - i = k → i ≤ n → St i s → (∀ b o, h0.get? b = some o → s.heap.get? b = some o) → SB s.heap S L t → (∀ p ∈ L, p ∈ xs) → L.length ≤ i → simF ((xs.drop i).map (·.2)) (L.map (·.2)) t = some (ks', t') →
      (∀ s' L', Moved (S :: wr) G s s' → SB s'.heap S L' t' → L'.map (·.2) = ks' → (∀ b o, h0.get? b = some o → s'.heap.get? b = some o) → R (.ok (.ret .none)) s') →
      codeAny (model P w) A (.builtin "set.update.loop" ⟨[.ref S, .ref I], []⟩) R s := by
  have hSw : S ∉ wr := fun h => hSf (W.sub _ h)
  have hsub : ∀ b ∈ wr, b ∈ S :: wr := fun b hb => List.mem_cons_of_mem _ hb
  have old : ∀ {s s' : Shared}, Moved wr G s s' → (∀ b o, h0.get? b = some o → s.heap.get? b = some o) → ∀ b o, h0.get? b = some o → s'.heap.get? b = some o := fun hm hkp b o e =>
    hm.heap b o (fun hb => by rw [hw0 b hb] at e; cases e) (hkp b o e)
  have SBkeep : ∀ {h h' : Heap} {L : List (Addr × BB)} {t : SetTable}, SB h S L t → (∀ o, h.get? S = some o → h'.get? S = some o) → (∀ p ∈ L, p ∈ xs) → (∀ b o, h0.get? b = some o → h'.get? b = some o) → SB h' S L t := fun {h h' L t} q ha hL hh => by
    obtain ⟨o, es, ep, ho, r⟩ := q.ob
    exact ⟨⟨o, es, ep, ha o ho, r⟩, fun p hp => (hk p (hL p hp)).keep fun o e => hh _ o e, q.fits, q.plain, q.gw⟩
  intro k
  induction k with
  | zero =>
    intro i s L t hk' hi hst hkp hS hL hlen hsim hR
    have hin : i = n := by omega
    subst hin
    rw [hn, List.drop_length] at hsim
    cases hsim
    refine codeAny_builtin F.entry_set_update_loop ?_
    rw [Around.under_plainId F.plain_set_update_loop _]
    show wpAny _ A.in1 (pyNext (.ref I) >>= _) _ _ s
    refine wpAny_bind (W.done s _ _ hst fun s' hm => ?_)
    show wpAny _ A.in1 (ret Value.none) _ _ s'
    have hkp' := old hm hkp
    exact wpAny_pure (hR s' L (hm.mono hsub) (SBkeep hS (fun o e => hm.heap S o hSw e) hL hkp') rfl hkp')
  | succ k ih =>
    intro i s L t hk' hi hst hkp hS hL hlen hsim hR
    have hlt : i < n := by omega
    refine codeAny_builtin F.entry_set_update_loop ?_
    rw [Around.under_plainId F.plain_set_update_loop _]
    show wpAny _ A.in1 (pyNext (.ref I) >>= _) _ _ s
    refine wpAny_bind (W.item i s _ _ hlt hst fun v s' hP hst' hm => ?_)
    obtain ⟨p, hp, rfl⟩ := hval i v hP
    have hkp' := old hm hkp
    have hS' := SBkeep hS (fun o e => hm.heap S o hSw e) hL hkp'
    have hx : P2 s'.heap p.2 p.1 := (hk p (List.mem_of_getElem? hp)).keep fun o e => hkp' _ o e
    have hdr : xs.drop i = p :: xs.drop (i + 1) := by
      rw [List.drop_eq_getElem_cons (by omega)]
      congr 1
      exact (List.getElem?_eq_some_iff.mp hp).2
    rw [hdr, List.map_cons, simF] at hsim
    split at hsim
    case h_2 => cases hsim
    rename_i ks2 t2 e2
    show wpAny _ A.in1 (holding [Value.ref p.1] (setAdd S (.ref p.1)) >>= _) _ _ s'
    refine wpAny_bind (wpAny_holding ?_)
    unfold setAdd
    refine wpAny_holding ?_
    refine wpAny_bind (wpAny_pyHash_tuple hu (hx.key (P := P) (w := w)) ?_)
    refine add_sim (s := { s' with toks := s'.toks + ([p.2.1, p.2.2].length + 1) }) hS' hx hu (by omega) e2 fun b h' L' hsb hS2 hL2 hlen2 hm2 => ?_
    have hkp2 : ∀ b o, h0.get? b = some o → h'.get? b = some o := fun b o e => (hsb.2 b (fun z => by rw [z, hS0] at e; cases e)).trans (hkp' b o e)
    refine wpAny_pure ⟨plainId_quiet F.plain_set_update_loop _, ih (i + 1) _ L' t2 (by omega) hlt (W.frame _ s' _ _ hst' (Nat.le_add_right _ _) fun b hb o e => ?_) hkp2 hS2 (fun q hq => ?_) (by omega) (by rw [hL2]; exact hsim) fun s'' L2 hm'' hS'' e'' hkp'' => ?_⟩
    · rw [hsb.2 b (fun h : b = S => hSf (by rw [← h]; exact hb))]; exact e
    · rcases hm2 q hq with hq | rfl
      · exact hL q hq
      · exact List.mem_of_getElem? hp
    · refine hR s'' L2 (Moved.trans W.gtrans ((hm.mono hsub).then_heap (Nat.le_add_right _ _) fun b o hb e => ?_) hm'') hS'' e'' hkp''
      rw [hsb.2 b (fun h : b = S => hb (by rw [h]; exact List.mem_cons_self))]; exact e
end
end T
set_option Elab.async false
set_option linter.all false
set_option maxRecDepth 100000
set_option maxHeartbeats 4000000
namespace T
open PySem PySem.Spec PyProof.Rows L2 HT
def chkP (led : Bool) (l : List BB) : Bool := match simF l [] (.fresh 0 0 led) with
  | some (ks, _) => decide ks.Nodup && (l.all (fun k => decide (k ∈ ks)) && ks.all fun k => decide (k ∈ l))
  | none => false
theorem chkP_all : ∀ led a1 a2 b1 b2 c1 c2 d1 d2 : Bool, chkP led [(a1, a2), (b1, b2), (c1, c2), (d1, d2)] = true := by decide +kernel
theorem chkP_ex {led : Bool} {l : List BB} (h : chkP led l = true) : ∃ ks t, simF l [] (.fresh 0 0 led) = some (ks, t) ∧ ks.Nodup ∧ ∀ k, k ∈ ks ↔ k ∈ l := by
  unfold chkP at h
  generalize simF l [] (.fresh 0 0 led) = r at h
  match r, h with
  | some (ks, t), h =>
    simp only [Bool.and_eq_true, decide_eq_true_eq, List.all_eq_true] at h
    exact ⟨ks, t, rfl, h.1, fun k => ⟨h.2.2 k, h.2.1 k⟩⟩
theorem chkP_four {led : Bool} : ∀ {l : List BB}, l.length = 4 → chkP led l = true
  | [a, b, c, d], _ => chkP_all led a.1 a.2 b.1 b.2 c.1 c.2 d.1 d.2
section
variable {P : Program} {w : World} {A : Around} {E : Value → Shared → Prop} {s : Shared}
abbrev setO (w : World) : Obj := { cls := .type "set", dict := none, data := .set #[] 0 (.fresh 0 0 (!w.params.followText "set-order")) }
theorem SB.fresh {w : World} {h : Heap} {a : Addr} (ho : h.get? a = some (setO w)) : SB h a [] (.fresh 0 0 (!w.params.followText "set-order")) where
  ob := ⟨_, #[], 0, ho, ⟨rfl, rfl, rfl⟩, rfl, rfl⟩
  tup := fun p hp => by cases hp
  fits := rfl
  plain := rfl
  gw := by show ((7 : Nat) % 2 == 0) = false; decide
/-- set(l), l a list of such pairs -/
theorem call_set_pairs {l : Addr} {items : Array Value} {xs : List (Addr × BB)} {ks' : List BB} {t' : SetTable} {Q : Value → Shared → Prop} (hh : A.handled = none) (hl : s.heap.IsList l items) (hit : items.toList = xs.map fun p => Value.ref p.1)
    (hk : ∀ p ∈ xs, P2 s.heap p.2 p.1) (hfew : xs.length < 32) (hu : A.units + 3 < cLine) (hsim : simF (xs.map (·.2)) [] (.fresh 0 0 (!w.params.followText "set-order")) = some (ks', t'))
    (h : ∀ (h' : Heap) (tk : Nat) L, SB h' s.heap.objs.size L t' → L.map (·.2) = ks' → (∀ b o, s.heap.get? b = some o → h'.get? b = some o) → Q (.ref s.heap.objs.size) { s with heap := h', toks := tk }) :
    wpAny (model P w) A (call (.type "set") [.ref l]) Q E s := by
  have hisz : items.size = xs.length := by
    have q := congrArg List.length hit
    rw [Array.length_toList, List.length_map] at q
    exact q
  generalize hprop : (simF (xs.map (·.2)) [] (.fresh 0 0 (!w.params.followText "set-order")) = some (ks', t')) = Pr at hsim
  obtain ⟨c, tl, hmro⟩ := F.called_set.mro
  have hmade := F.called_set.made
  have hsub := F.called_set.sub
  refine wpAny_call (codeAny_of_tree ?_)
  show wpAny _ _ (callAny (.type "set") _) _ _ _
  refine wpAny_pure ⟨Code.quiet_builtin _ (by decide +kernel), codeAny_builtin F.entry_type_call ?_⟩
  rw [Around.under_plain (weight_type_call_type "set" [.ref l] []) rfl]
  have h1 := F.called_set.notType
  have h2 := F.called_set.canCreate
  have hct := F.typeCall_set_1 (.ref l)
  repeat (any_goals (first | assumption | wp_step))
  refine codeAny_mono (code_set_led1 (.ref l) (E := E) (Q₁ := fun obj s₁ => obj = .ref s.heap.objs.size ∧ s₁ = { s with heap := s.heap.push (setO w) }) ⟨rfl, rfl⟩) fun r s₁ hr => ?_
  match r, hr with
  | .error e, hr => exact hr
  | .ok (.ret obj), hr =>
    obtain ⟨rfl, rfl⟩ := hr
    have hS : (s.heap.push (setO w)).get? s.heap.objs.size = some (setO w) := Heap.get?_push_size _ rfl
    have hT : Shared.TypeIs { s with heap := s.heap.push (setO w) } (.ref s.heap.objs.size) "set" := ⟨_, hS, rfl⟩
    have hli := F.called_set.init.lookup
    have hbi := F.called_set.init.bind (.ref s.heap.objs.size)
    repeat (any_goals (first | assumption | wp_step))
    refine codeAny_mono (codeAny_call_builtin (R := wants (fun r s₂ => r = .none ∧ ∃ h' tk L, s₂ = { s with heap := h', toks := tk } ∧ SB h' s.heap.objs.size L t' ∧ L.map (·.2) = ks' ∧
        (∀ b o, s.heap.get? b = some o → h'.get? b = some o)) E) F.called_set.init.plain F.entry_set_init (check_set_init_1 hT ?_)) fun r₂ s₂ hr₂ => ?_
    · subst hprop
      obtain ⟨ol, hol, hcl, nl, hdl⟩ := id hl
      obtain ⟨ocls, odict, odata, oslots⟩ := ol
      simp only at hcl hdl
      subst hcl; subst hdl
      have hlS : l < s.heap.objs.size := Heap.lt_size hol
      have none_of : ∀ b, s.heap.objs.size ≤ b → s.heap.get? b = none := fun b hb => Heap.get?_none_of_le hb
      have hol' : (s.heap.push (setO w)).get? l = some { cls := .type "list", dict := odict, data := .seq items nl, slots := oslots } := Heap.get?_push_of_some _ hol
      have hsls := F.sub_list_set
      have hslf := F.sub_list_frozenset
      have hne : (Value.type "list" == Value.type "dict") = false := by decide
      have hl1 : (s.heap.push (setO w)).IsList l items := ⟨_, hol', rfl, nl, rfl⟩
      unfold Builtin.«set.__init__» noKeywords Builtin.Frozenset.updateFrom
      generalize hPI : pyIter = PI
      wp_walk
      subst hPI
      refine wpAny_pyIter_list hl1 ?_
      refine wpAny_bind (wpAny_runValue ?_)
      have hh3 : A.in1.in1.in1.handled = none := by simp [hh]
      have hz1 : (s.heap.push (setO w)).objs.size = s.heap.objs.size + 1 := Heap.size_push ..
      have hneI : l ≠ (s.heap.push (setO w)).objs.size := by rw [Heap.size_push]; exact Nat.ne_of_lt (Nat.lt_succ_of_lt hlS)
      have hSf : s.heap.objs.size ∉ [(s.heap.push (setO w)).objs.size, l] := by
        rw [Heap.size_push]
        simp only [List.mem_cons, List.mem_singleton, List.not_mem_nil, or_false, not_or]
        exact ⟨Nat.ne_of_lt (Nat.lt_succ_self _), Nat.ne_of_gt hlS⟩
      have hval : ∀ (i : Nat) (v : Value), items[i]? = some v → ∃ p, xs[i]? = some p ∧ v = .ref p.1 := fun i v hv => by
        rw [← Array.getElem?_toList, hit, List.getElem?_map, Option.map_eq_some_iff] at hv
        obtain ⟨p, hp, e⟩ := hv
        exact ⟨p, hp, e.symm⟩
      refine fill_sim ((Walks.list hh3 _ l hneI items).toS) s.heap.objs.size hSf xs hisz hfew hval s.heap hk (none_of _ (Nat.le_refl _)) (fun b hb => none_of b (by
          rw [List.mem_singleton.mp hb, Heap.size_push]; exact Nat.le_succ _)) hu ks' t' (items.size - 0) 0 _ [] _ (by omega) (Nat.zero_le _)
        ⟨⟨_, Heap.get?_push_size _ rfl, rfl, rfl⟩, (hl1.push _)⟩ (fun b o e => Heap.get?_push_of_some _ (Heap.get?_push_of_some _ e)) (SB.fresh (Heap.get?_push_of_some _ hS)) (fun p hp => by cases hp) (Nat.le_refl _) (by rw [List.drop_zero]; exact hsim) ?_
      intro s' L hm hS' hL hkp
      obtain ⟨h', g2, d', tk', os'⟩ := s'
      have eg : g2 = s.gens := hm.gens
      have ed : d' = s.drawn := hm.drawn
      have eo : os' = s.os := hm.os
      subst eg; subst ed; subst eo
      show wpAny _ _ _ _ _ _
      refine wpAny_pure ?_
      show wpAny _ _ (ret Value.none) _ _ _
      exact wpAny_pure ⟨rfl, h', tk', L, rfl, hS', hL, hkp⟩
    · match r₂, hr₂ with
      | .error e, hr₂ => exact hr₂
      | .ok (.ret r), hr₂ =>
        obtain ⟨rfl, h', tk, L, rfl, hS', hL, hk'⟩ := hr₂
        repeat (any_goals (first | assumption | wp_step))
        exact h _ _ _ hS' hL hk'
end
end T
set_option Elab.async false
set_option linter.all false
set_option maxRecDepth 100000
set_option maxHeartbeats 4000000
namespace T
open PySem PySem.Spec PyProof.Rows L2 HT
theorem zip_no_len : typeLookup (.type "zip") "__len__" = pure none := by rw [typeLookup_type, builtinLookup_eq_fast]; kernel_rfl
theorem zip_no_hint : typeLookup (.type "zip") "__length_hint__" = pure none := by rw [typeLookup_type, builtinLookup_eq_fast]; kernel_rfl
/-- a zip object before its i-th turn -/
def ZSt (z TI TO i1 i2 l1 l2 : Addr) (xs ys : Array Value) (i : Nat) (h : Heap) : Prop := (∃ o, h.get? TO = some o) ∧ IsPair h TI (.ref i1) (.ref i2) ∧ h.IsListIter i1 l1 i ∧ h.IsListIter i2 l2 i ∧ h.IsList l1 xs ∧ h.IsList l2 ys ∧
  ((IsZip h z TI TO .none ∧ ∃ a b, IsPair h TO a b) ∨ ∃ T f oT, IsZipHeld h z TI TO T f ∧ h.get? T = some oT ∧ T ≠ z ∧ T ≠ i1 ∧ T ≠ i2 ∧ T ∉ [TI, TO, l1, l2])
section
variable {P : Program} {w : World} {A : Around} {E : Value → Shared → Prop} {s : Shared} {z TI TO i1 i2 l1 l2 : Addr} {xs ys : Array Value}
theorem ZSt.type {i : Nat} {s : Shared} (q : ZSt z TI TO i1 i2 l1 l2 xs ys i s.heap) : s.TypeIs (.ref z) "zip" := by
  obtain ⟨_, _, _, _, _, _, ⟨h, _⟩ | ⟨T, f, oT, h, _⟩⟩ := q
  · exact ⟨_, h, rfl⟩
  · exact ⟨_, h, rfl⟩
theorem ZSt.keep {i : Nat} {h h' : Heap} (q : ZSt z TI TO i1 i2 l1 l2 xs ys i h) (hk : ∀ b ∈ [z, TI, TO, i1, i2, l1, l2], ∀ o, h.get? b = some o → h'.get? b = some o) (hT : ∀ T o, h.get? T = some o → ∃ o', h'.get? T = some o') : ZSt z TI TO i1 i2 l1 l2 xs ys i h' := by
  obtain ⟨⟨oo, ho⟩, hTI, h1, h2, hl1, hl2, hz⟩ := q
  refine ⟨⟨oo, hk TO (by simp) _ ho⟩, hk TI (by simp) _ hTI, h1.at fun o e => hk i1 (by simp) o e, h2.at fun o e => hk i2 (by simp) o e, hl1.at fun o e => hk l1 (by simp) o e, hl2.at fun o e => hk l2 (by simp) o e, ?_⟩
  rcases hz with ⟨hz, a, b, hTO⟩ | ⟨T, f, oT, hz, hT', r⟩
  · exact .inl ⟨hk z (by simp) _ hz, a, b, hk TO (by simp) _ hTO⟩
  · obtain ⟨o', e'⟩ := hT T oT hT'
    exact .inr ⟨T, f, o', hk z (by simp) _ hz, e', r⟩
theorem zip_step {i : Nat} {x y : Value} {Q : Option Value → Shared → Prop} (D : ZipApart z TI TO i1 i2 l1 l2) (q : ZSt z TI TO i1 i2 l1 l2 xs ys i s.heap) (hx : xs[i]? = some x) (hy : ys[i]? = some y)
    (hQ : ∀ h', ZSt z TI TO i1 i2 l1 l2 xs ys (i + 1) h' → IsPair h' s.heap.objs.size x y → (∀ c o, c ∉ [z, TO, i1, i2] → s.heap.get? c = some o → h'.get? c = some o) → Q (some (.ref s.heap.objs.size)) { s with heap := h' }) :
    wpAny (model P w) A (pyNext (.ref z)) Q E s := by
  obtain ⟨⟨oo, ho⟩, hTI, h1, h2, hl1, hl2, hz⟩ := q
  have lt : ∀ {c o}, s.heap.get? c = some o → s.heap.objs.size ≠ c := fun e => Nat.ne_of_gt (Heap.lt_size e)
  have n1 : s.heap.objs.size ≠ i1 := let ⟨_, e, _⟩ := h1; lt e
  have n2 : s.heap.objs.size ≠ i2 := let ⟨_, e, _⟩ := h2; lt e
  have n3 : s.heap.objs.size ≠ l1 := let ⟨_, e, _⟩ := hl1; lt e
  have n4 : s.heap.objs.size ≠ l2 := let ⟨_, e, _⟩ := hl2; lt e
  rcases hz with ⟨hz, a, b, hTO⟩ | ⟨T, f, oT, hz, hT, r1, r2, r3, r4⟩
  · refine wpAny_pyNext_zip_item D hz hTI hTO h1 h2 hl1 hl2 hx hy fun h' a1 a2 a3 a4 a5 a6 hk => hQ h' ⟨⟨_, a2⟩, hk _ _ D.TIz D.TITO D.TIi1 D.TIi2 hTI, a3, a4, hl1.at fun o e => hk _ o D.l1z D.l1TO D.l1i1 D.l1i2 e, hl2.at fun o e => hk _ o D.l2z D.l2TO D.l2i1 D.l2i2 e, .inr ⟨s.heap.objs.size, false, _, a1, a5, lt hz, n1, n2, ?_⟩⟩ a5 fun c o hc e => ?_
    · simp only [List.mem_cons, List.not_mem_nil, or_false, not_or]
      exact ⟨lt hTI, lt hTO, n3, n4⟩
    · simp only [List.mem_cons, List.not_mem_nil, or_false, not_or] at hc
      exact hk c o hc.1 hc.2.1 hc.2.2.1 hc.2.2.2 e
  · refine wpAny_pyNext_zip_item_held D hz hT hTI h1 h2 hl1 hl2 hx hy fun h' a1 a3 a4 a5 a6 hk => hQ h' ⟨⟨_, hk _ _ D.TOz D.TOi1 D.TOi2 ho⟩, hk _ _ D.TIz D.TIi1 D.TIi2 hTI, a3, a4, hl1.at fun o e => hk _ o D.l1z D.l1i1 D.l1i2 e, hl2.at fun o e => hk _ o D.l2z D.l2i1 D.l2i2 e, .inr ⟨T, true, oT, a1, hk _ _ r1 r2 r3 hT, r1, r2, r3, r4⟩⟩ a5 fun c o hc e => ?_
    simp only [List.mem_cons, List.not_mem_nil, or_false, not_or] at hc
    exact hk c o hc.1 hc.2.2.1 hc.2.2.2 e
theorem zip_end {i : Nat} {Q : Option Value → Shared → Prop} (hh : A.handled = none) (D : ZipApart z TI TO i1 i2 l1 l2) (q : ZSt z TI TO i1 i2 l1 l2 xs ys i s.heap) (hend : xs[i]? = none)
    (hQ : ∀ h', (∀ c o, c ∉ [z, TO, i1, i2] → s.heap.get? c = some o → h'.get? c = some o) → Q none { s with heap := h' }) : wpAny (model P w) A (pyNext (.ref z)) Q E s := by
  obtain ⟨⟨oo, ho⟩, hTI, h1, h2, hl1, hl2, hz⟩ := q
  rcases hz with ⟨hz, a, b, hTO⟩ | ⟨T, f, oT, hz, hT, r1, r2, r3, r4⟩
  · refine wpAny_pyNext_zip_end hh D hz hTI hTO h1 h2 hl1 hl2 (.inl hend) fun h' hk => hQ h' fun c o hc e => ?_
    simp only [List.mem_cons, List.not_mem_nil, or_false, not_or] at hc
    exact hk c o hc.1 hc.2.1 hc.2.2.1 hc.2.2.2 e
  · refine wpAny_pyNext_zip_end_held hh D hz hT hTI h1 h2 hl1 hl2 (.inl hend) fun h' hk => hQ h' fun c o hc e => ?_
    simp only [List.mem_cons, List.not_mem_nil, or_false, not_or] at hc
    exact hk c o hc.1 hc.2.2.1 hc.2.2.2 e
/-- the pairs that stand at the addresses -/
def PrsAt (xs ys : Array Value) (av : List Addr) (h : Heap) (as : List Addr) : Prop := ∀ (j : Nat) (a : Addr), as[j]? = some a → a ∉ av ∧ ∃ x y, xs[j]? = some x ∧ ys[j]? = some y ∧ IsPair h a x y
theorem zip_loop {S : Addr} {R : Result → Shared → Prop} (hh : A.handled = none) (D : ZipApart z TI TO i1 i2 l1 l2) (hS : S ∉ [z, TI, TO, i1, i2, l1, l2]) (hxy : ys.size = xs.size) (hn : xs.size ≤ sizeLine) (res : Value) (h₁ : Heap)
    (hR : ∀ h' tk acc c as, (∀ b o, b ∉ [S, z, TO, i1, i2] → h₁.get? b = some o → h'.get? b = some o) → h'.get? S = some { cls := .type "list", dict := none, data := .seq acc c, slots := #[] } → as.length = xs.size → PrsAt xs ys [S, z, TO, i1, i2] h' as → acc.toList = as.map Value.ref → R (.ok (.ret res)) { s with heap := h', toks := tk }) :
    ∀ (k i : Nat) (h : Heap) (tk c : Nat) (acc : Array Value) (as : List Addr), xs.size - i = k → i ≤ xs.size → ZSt z TI TO i1 i2 l1 l2 xs ys i h → (∀ b o, b ∉ [S, z, TO, i1, i2] → h₁.get? b = some o → h.get? b = some o) →
      h.get? S = some { cls := .type "list", dict := none, data := .seq acc c, slots := #[] } → acc.toList = as.map Value.ref → as.length = i → PrsAt xs ys [S, z, TO, i1, i2] h as →
      codeAny (model P w) A (.builtin "list.extend.loop" ⟨[.ref S, .ref z, res], []⟩) R { s with heap := h, toks := tk } := by
  simp only [List.mem_cons, List.not_mem_nil, or_false, not_or] at hS
  obtain ⟨Sz, STI, STO, Si1, Si2, Sl1, Sl2⟩ := hS
  have sub : ∀ {c : Addr}, c ∉ [S, z, TO, i1, i2] → c ∉ [z, TO, i1, i2] := fun h m => h (List.mem_cons_of_mem _ m)
  have nS : S ∉ [z, TO, i1, i2] := by simp only [List.mem_cons, List.not_mem_nil, or_false, not_or]; exact ⟨Sz, STO, Si1, Si2⟩
  intro k
  induction k with
  | zero =>
    intro i h tk c acc as hk hi hst hkeep hSl hacc hal hP
    have hin : i = xs.size := by omega
    refine codeAny_builtin PySem.F.entry_extend_loop ?_
    rw [Around.under_plainId PySem.F.plain_extend_loop _]
    show wpAny _ A.in1 (pyNext (.ref z) >>= _) _ _ _
    refine wpAny_bind (zip_end (s := { s with heap := h, toks := tk }) (A := A.in1) hh D hst (Array.getElem?_eq_none (by omega)) fun h' hkp => ?_)
    refine wpAny_pure (hR h' tk acc c as (fun b o hb e => hkp b o (sub hb) (hkeep b o hb e)) (hkp S _ nS hSl) (by omega) (fun j a ha => ?_) hacc)
    obtain ⟨p1, x, y, p2, p3, p4⟩ := hP j a ha
    exact ⟨p1, x, y, p2, p3, hkp a _ (sub p1) p4⟩
  | succ k ih =>
    intro i h tk c acc as hk hi hst hkeep hSl hacc hal hP
    have hlt : i < xs.size := by omega
    have hsz : acc.size = i := by rw [← Array.length_toList, hacc, List.length_map, hal]
    have hlt2 : i < ys.size := by omega
    refine codeAny_builtin PySem.F.entry_extend_loop ?_
    rw [Around.under_plainId PySem.F.plain_extend_loop _]
    show wpAny _ A.in1 (pyNext (.ref z) >>= _) _ _ _
    have lt : ∀ {c o}, h.get? c = some o → h.objs.size ≠ c := fun e => Nat.ne_of_gt (Heap.lt_size e)
    have nT : h.objs.size ∉ [S, z, TO, i1, i2] := by
      obtain ⟨⟨oo, ho⟩, hTI, ⟨_, e1, _⟩, ⟨_, e2, _⟩, _, _, hz⟩ := id hst
      have hzl : h.objs.size ≠ z := by
        rcases hz with ⟨hz, _⟩ | ⟨T, f, oT, hz, _⟩
        · exact lt hz
        · exact lt hz
      simp only [List.mem_cons, List.not_mem_nil, or_false, not_or]
      exact ⟨lt hSl, hzl, lt ho, lt e1, lt e2⟩
    refine wpAny_bind (zip_step (s := { s with heap := h, toks := tk }) D hst (Array.getElem?_eq_getElem hlt) (Array.getElem?_eq_getElem hlt2) fun h' hst' hp hkp => ?_)
    dsimp only at hp hkp ⊢
    have hS' := hkp S _ nS hSl
    have up : ∀ b o, b ≠ S → h'.get? b = some o → (h'.update S (Obj.mapSeq (·.push (Value.ref h.objs.size)))).get? b = some o := fun b o hb e => (Heap.get?_update_other _ _ (Ne.symm hb)).trans e
    have hSu := Heap.get?_update_self (Obj.mapSeq (·.push (Value.ref h.objs.size))) hS' rfl
    show wpAny _ A.in1 (updateSeq S (·.push (Value.ref h.objs.size)) >>= _) _ _ _
    refine wpAny_bind ?_
    refine wpAny_updateSeq hS' rfl (wpAny_pure ⟨plainId_quiet PySem.F.plain_extend_loop _, ih (i + 1) _ tk _ (acc.push (Value.ref h.objs.size)) (as ++ [h.objs.size]) (by omega) hlt (hst'.keep (fun b hb o e => up b o ?_ e) fun T o e => ?_) (fun b o hb e => up b o (fun z => hb (by rw [z]; exact List.mem_cons_self)) (hkp b o (sub hb) (hkeep b o hb e))) hSu (by rw [Array.toList_push, hacc, List.map_append]; rfl) (by rw [List.length_append, hal]; rfl) fun j b hj => ?_⟩) (by rw [hsz]; omega) (by show (acc.push (Value.ref h.objs.size)).size ≤ sizeLine + 1; rw [Array.size_push, hsz]; omega)
    · rintro rfl
      simp only [List.mem_cons, List.not_mem_nil, or_false] at hb
      rcases hb with e | e | e | e | e | e | e
      · exact Sz e
      · exact STI e
      · exact STO e
      · exact Si1 e
      · exact Si2 e
      · exact Sl1 e
      · exact Sl2 e
    · by_cases e2 : T = S
      · subst e2; exact ⟨_, hSu⟩
      · exact ⟨o, up T o e2 e⟩
    · rcases Nat.lt_or_ge j as.length with h1 | h1
      · rw [List.getElem?_append_left h1] at hj
        obtain ⟨p1, x, y, p2, p3, p4⟩ := hP j b hj
        exact ⟨p1, x, y, p2, p3, up b _ (fun z => p1 (by rw [z]; exact List.mem_cons_self)) (hkp b _ (sub p1) p4)⟩
      · have hj2 := (List.getElem?_eq_some_iff.mp hj).1
        rw [List.length_append, List.length_singleton] at hj2
        obtain rfl : j = as.length := by omega
        have hb : h.objs.size = b := by simpa using hj
        subst hb
        subst hal
        exact ⟨nT, _, _, Array.getElem?_eq_getElem hlt, Array.getElem?_eq_getElem hlt2, up _ _ (fun z => nT (by rw [z]; exact List.mem_cons_self)) hp⟩
theorem zip_hint {Q : Bool → Shared → Prop} (hT : s.TypeIs (.ref z) "zip") (h : Q true s) : wpAny (model P w) A (Builtin.List.listLengthHint (.ref z)) Q E s := by
  unfold Builtin.List.listLengthHint
  refine wpAny_bind (wpAny_specialOf hT zip_no_len ?_)
  show wpAny _ _ (specialOf (Value.ref z) (Str.ofString "__length_hint__") >>= _) _ _ _
  refine wpAny_bind (wpAny_specialOf hT zip_no_hint ?_)
  exact wpAny_pure h
theorem zip_extend {S : Addr} {R : Result → Shared → Prop} (hh : A.handled = none) (D : ZipApart z TI TO i1 i2 l1 l2) (hS : S ∉ [z, TI, TO, i1, i2, l1, l2]) (hxy : ys.size = xs.size) (hn : xs.size ≤ sizeLine) (res : Value) (c₀ : Nat) (hz : IsZip s.heap z TI TO .none)
    (hst : ZSt z TI TO i1 i2 l1 l2 xs ys 0 s.heap) (hSl : s.heap.get? S = some { cls := .type "list", data := .seq #[] c₀ })
    (hR : ∀ h' tk acc c as, (∀ b o, b ∉ [S, z, TO, i1, i2] → s.heap.get? b = some o → h'.get? b = some o) → h'.get? S = some { cls := .type "list", dict := none, data := .seq acc c, slots := #[] } → as.length = xs.size → PrsAt xs ys [S, z, TO, i1, i2] h' as → acc.toList = as.map Value.ref → R (.ok (.ret res)) { s with heap := h', toks := tk }) :
    wpAny (model P w) A.in1 (Builtin.List.listExtendWith (.ref S) (.ref z) res)
      (fun fin s' => match fin with | .done f => R (.ok f) s' | .again c' => c'.quiet = true ∧ codeAny (model P w) A c' R s') (fun e s' => R (.error e) s') s := by
  have hSz : S ≠ z := fun e => hS (by rw [e]; exact List.mem_cons_self)
  unfold Builtin.List.listExtendWith
  refine wpAny_bind (wpAny_typeOf (T := "zip") hst.type ?_)
  have h1 : Builtin.List.listSameRef (.ref S) (.ref z) = false := by simp [Builtin.List.listSameRef, hSz]
  have h2 : (Value.type "zip" == Value.type "list") = false := by decide
  have h3 : (Value.type "zip" == Value.type "tuple") = false := by decide
  simp only [h1, h2, h3, Bool.or_false, Bool.false_eq_true, if_false]
  refine wpAny_bind (wpAny_pyIter_zip hz ?_)
  refine wpAny_bind (wpAny_holding (zip_hint hst.type ?_))
  have go : ∀ (h : Heap) (c₁ : Nat), ZSt z TI TO i1 i2 l1 l2 xs ys 0 h → (∀ b o, b ≠ S → s.heap.get? b = some o → h.get? b = some o) → h.get? S = some { cls := .type "list", data := .seq #[] c₁ } → codeAny (model P w) A (.builtin "list.extend.loop" ⟨[.ref S, .ref z, res], []⟩) R { s with heap := h } := fun h c₁ q hk e =>
    zip_loop hh D hS hxy hn res s.heap (fun h' tk acc c as k1 k2 k3 k4 k5 => hR h' tk acc c as k1 k2 k3 k4 k5) xs.size 0 h s.toks c₁ #[] [] (Nat.sub_zero _) (Nat.zero_le _) q (fun b o hb e => hk b o (fun z => hb (by rw [z]; exact List.mem_cons_self)) e) e rfl rfl fun j a hj => by simp at hj
  refine wpAny_ite_split (fun _ => ?_) (fun e => absurd rfl e)
  refine wpAny_bind (wpAny_rule ?_)
  refine wpAny_bind ?_
  show wpAny _ _ (updateSeq S (·.push .none) >>= fun _ => updateSeq S (·.pop)) _ _ _
  refine wpAny_bind (wpAny_updateSeq hSl rfl ?_)
  have hS₂ := Heap.get?_update_self (Obj.mapSeq (·.push Value.none)) hSl rfl
  refine wpAny_updateSeq (hz := by seq_fits) hS₂ rfl ?_
  have hS₃ := Heap.get?_update_self (Obj.mapSeq (·.pop)) hS₂ rfl
  have ot : ∀ b o, b ≠ S → s.heap.get? b = some o → ((s.heap.update S (Obj.mapSeq (·.push Value.none))).update S (Obj.mapSeq (·.pop))).get? b = some o := fun b o hb e => (Heap.get?_update_other _ _ (Ne.symm hb)).trans ((Heap.get?_update_other _ _ (Ne.symm hb)).trans e)
  refine wpAny_pure ⟨plainId_quiet PySem.F.plain_extend_loop _, go _ _ (hst.keep (fun b hb o e => ot b o (fun z => hS (by rw [← z]; exact hb)) e) fun T o e => ?_) ot hS₃⟩
  by_cases e2 : T = S
  · subst e2; exact ⟨_, hS₃⟩
  · exact ⟨o, ot T o e2 e⟩
theorem call_list_zip {Q : Value → Shared → Prop} (hh : A.handled = none) (D : ZipApart z TI TO i1 i2 l1 l2) (hlt : ∀ b ∈ [z, TI, TO, i1, i2, l1, l2], b < s.heap.objs.size) (hxy : ys.size = xs.size) (hn : xs.size ≤ sizeLine) (hz : IsZip s.heap z TI TO .none) (hst : ZSt z TI TO i1 i2 l1 l2 xs ys 0 s.heap)
    (hQ : ∀ h' tk acc c as, (∀ b o, b ∉ [z, TO, i1, i2] → s.heap.get? b = some o → h'.get? b = some o) → h'.get? s.heap.objs.size = some { cls := .type "list", dict := none, data := .seq acc c, slots := #[] } → as.length = xs.size → PrsAt xs ys [s.heap.objs.size, z, TO, i1, i2] h' as → acc.toList = as.map Value.ref → Q (.ref s.heap.objs.size) { s with heap := h', toks := tk }) :
    wpAny (model P w) A (call (.type "list") [.ref z]) Q E s := by
  refine callType_codes (Q₁ := fun obj s₁ => obj = .ref s.heap.objs.size ∧ s₁ = { s with heap := s.heap.push { cls := .type "list", data := .seq #[] } }) PySem.F.called_list (PySem.F.typeCall_list_1 _) PySem.F.entry_list_init
    (code_list_new _ ⟨rfl, rfl⟩) fun obj s₁ h₁ => ?_
  obtain ⟨rfl, rfl⟩ := h₁
  have hS : (s.heap.push { cls := .type "list", data := .seq #[] }).get? s.heap.objs.size = some { cls := .type "list", data := .seq #[] } := Heap.get?_push_size _ rfl
  refine ⟨⟨_, hS, rfl⟩, PySem.F.args_list_init_2 _ _, ?_⟩
  show wpAny _ _ (do let old ← Builtin.List.listItems (.ref s.heap.objs.size); Builtin.List.listUpdate (.ref s.heap.objs.size) (fun _ => #[]); letGo old.toList.reverse; Builtin.List.listExtendWith (.ref s.heap.objs.size) (.ref z) .none) _ _ _
  refine wpAny_bind ?_
  unfold Builtin.List.listItems
  refine wpAny_bind (wpAny_seqItems hS rfl (wpAny_pure ?_))
  show wpAny _ _ (updateSeq s.heap.objs.size (fun _ => #[]) >>= fun _ => letGo (#[] : Array Value).toList.reverse >>= fun _ => Builtin.List.listExtendWith (.ref s.heap.objs.size) (.ref z) .none) _ _ _
  refine wpAny_bind (wpAny_updateSeq hS rfl ?_)
  have hS₂ := Heap.get?_update_self (Obj.mapSeq (fun _ => (#[] : Array Value))) hS rfl
  have ot : ∀ b o, s.heap.get? b = some o → ((s.heap.push { cls := .type "list", data := .seq #[] }).update s.heap.objs.size (Obj.mapSeq (fun _ => (#[] : Array Value)))).get? b = some o :=
    fun b o e => (Heap.get?_update_other _ _ (Nat.ne_of_gt (Heap.lt_size e))).trans (Heap.get?_push_of_some _ e)
  refine wpAny_bind (wpAny_letGo ?_)
  refine zip_extend (A := A.in1) hh D (fun hm => Nat.lt_irrefl _ (hlt _ hm)) hxy hn .none _ (ot z _ hz) (hst.keep (fun b _ o e => ot b o e) fun T o e => ⟨o, ot T o e⟩) hS₂ fun h' tk acc c as k1 k2 k3 k4 k5 => ?_
  refine ⟨rfl, hQ h' tk acc c as (fun b o hb e => k1 b o (fun hm => ?_) (ot b o e)) k2 k3 k4 k5⟩
  rcases List.mem_cons.mp hm with e2 | e2
  · exact absurd (Heap.lt_size e) (by rw [e2]; exact Nat.lt_irrefl _)
  · exact hb e2
end
end T
set_option Elab.async false
set_option linter.all false
set_option maxRecDepth 100000
set_option maxHeartbeats 4000000
namespace T
open PySem PySem.Spec PyProof.Rows L2 HT
theorem prs_of : ∀ {ds : List D} {ks : List BB}, prs? ds = some ks → ds = ks.map fun k => .tup [.bl k.1, .bl k.2]
  | [], ks, h => by cases h; rfl
  | .tup [.bl a, .bl b] :: r, ks, h => by
    simp only [prs?, Option.map_eq_some_iff] at h
    obtain ⟨cs, h1, rfl⟩ := h
    rw [prs_of h1]; rfl
theorem zip_lt {n a b c : Nat} (la : a < n) (lb : b < n) (h : c ∈ [n + 4, n + 2, n + 3, n, n + 1, a, b]) : c < n + 5 := by
  simp only [List.mem_cons, List.not_mem_nil, or_false] at h
  omega
theorem zip_old {n c : Nat} (h : c ∈ [n + 4, n + 3, n, n + 1]) (hl : c < n) : False := by
  simp only [List.mem_cons, List.not_mem_nil, or_false] at h
  omega
theorem nodup_le {α : Type} [DecidableEq α] : ∀ {l m : List α}, l.Nodup → (∀ x ∈ l, x ∈ m) → l.length ≤ m.length
  | [], _, _, _ => Nat.zero_le _
  | x :: r, m, nd, h => by
    obtain ⟨n1, n2⟩ := List.nodup_cons.mp nd
    have hx := h x List.mem_cons_self
    have := nodup_le (l := r) (m := m.erase x) n2 fun y hy => (List.mem_erase_of_ne (fun e : y = x => n1 (by rw [← e]; exact hy))).mpr (h y (List.mem_cons_of_mem _ hy))
    rw [List.length_erase_of_mem hx] at this
    have := List.length_pos_of_mem hx
    rw [List.length_cons]; omega
section
variable {X : Cx}
theorem vals_bl {K : PySem.W.Frag} {F : Hp} : ∀ {bs : List Bool} {ws : List V} {us : List Value}, RepA K F ws (bs.map .bl) → Vals ws us → us = bs.map .bool
  | [], _, _, r, v => by cases r; cases v; rfl
  | b :: bs, _, _, r, v => by
    cases r with
    | cons r1 r2 =>
    cases r1
    cases v with
    | cons e1 e2 =>
    rw [vals_bl r2 e2, show _ = Value.bool b from e1]
    rfl
theorem rep_p2 {pins : List (Addr × Obj)} {σ : L2.St} {F Z H : Hp} {M : MH} {s : Shared} (sr : SR X.K F M Z H) (I : Inv X pins σ H s) {v : V} {u : Value} {k : BB} (r : Rep X.K F v (.tup [.bl k.1, .bl k.2])) (e : RelV v u) : ∃ T, u = .ref T ∧ P2 s.heap k T := by
  obtain ⟨a, vs, rfl, ht, ra⟩ := vw_tup (M := M) r rfl
  cases e
  obtain ⟨its, rv, ⟨o, h1, h2, n, h3⟩, hz⟩ := I.tuple (ht.mono sr.f).sqt
  have : its = [k.1, k.2].map .bool := vals_bl ra rv
  subst this
  exact ⟨a, rfl, o, n, h1, h2, h3⟩
end
section
variable {P : Nat → Option Fn} {G : Nat → Option D} {tb : Tb} {n : Nat} {e0 : Option (Addr × Xc)} {N : List Str} {sc : Scope} {X : Cx} {R : Xc → MH → Prop} {C : SC}
theorem je_kget (hu : X.A.units + 65 < cLine) {m : Bool} {a b : Str} {i j d : Int} (hab : a ≠ b) {o1 o2 o3 o4 o5 : Nat} {p1 p2 p3 p4 p5 dpos apos cpos : Pos} {y : Expr} {e : Ex} (hline : (apos.endLine == cpos.line) = true) (hs : noStar y = true) (hy : PE X y (tD X tb C R (wpE C R e))) :
    PE X (.Call (.Attribute (.Dict [some (.Constant (.str a) o1 p1), some (.Constant (.str b) o2 p2)] [.Constant (.int i) o3 p3, .Constant (.int j) o4 p4] dpos) "get" apos) [y, .Constant (.int d) o5 p5] [] cpos) (tD X tb C R (wpE C R (.px m (.kget a i b j d) (.cons e .nil)))) := by
  have hdisp := pe_disp (X := X) (pos := dpos) (pps_cons (pe_str (x := a) (j := o1) (pos := p1)) (pe_int (i := i) (j := o3) (pos := p3)) (pps_cons (pe_str (x := b) (j := o2) (pos := p2)) (pe_int (i := j) (j := o4) (pos := p4)) pps_nil)) rfl rfl (by simp) (by simp)
  have hst : starEach [y, .Constant (.int d) o5 p5] X.env = [(false, eval y X.env), (false, eval (.Constant (.int d) o5 p5) X.env)] := by rw [star_of hs]; rfl
  have hm : M2 X (.Dict [some (.Constant (.str a) o1 p1), some (.Constant (.str b) o2 p2)] [.Constant (.int i) o3 p3, .Constant (.int j) o4 p4] dpos) "get" apos y (.Constant (.int d) o5 p5) cpos :=
    ⟨rfl, by rw [hst]; rfl, hline, by rw [hst]; rfl⟩
  refine PE_imp (pe_dget2 (by omega) hdisp hy (pe_int (i := d) (j := o5) (pos := p5)) hm) fun σ H Q ⟨F, M, Z, ρ, Q', sr, re, hw, k⟩ => ?_
  simp only [wpE, wpEs] at hw
  intro p hp
  refine ⟨upd_same, [(.inr a, .int i), (.inr b, .int j)], rfl, by simp, p, rfl, ?_⟩
  rw [upd_upd]
  have em : mergeK ([] : List (Key × V)) [(.inr a, .int i), (.inr b, .int j)] = [(.inr a, .int i), (.inr b, .int j)] := by
    unfold mergeK putK
    simp [hab]
  rw [em]
  obtain ⟨sF, sr1⟩ := sr.layF (o := .dK [(.inr a, .int i), (.inr b, .int j)]) hp
  refine ⟨.inl ⟨_, .of upd_same⟩, _, M, Z, ρ, _, sr1, re.mono sF, hw, fun v H2 ⟨F2, M2, dx, s2, sr2, rx, h2⟩ => ?_⟩
  have hd : H2 p = some (.dK [(.inr a, .int i), (.inr b, .int j)]) := sr2.f _ _ (s2 _ _ upd_same)
  obtain ⟨w, rfl, h2⟩ : ∃ w, dx = .str w ∧ Q' (.int (if w = a then i else if w = b then j else d)) M2 := by
    cases dx <;> first
      | exact ⟨_, rfl, h2⟩
      | exact h2.elim
  cases rx
  refine ⟨valV [((.inr a : Key), V.int i), (.inr b, .int j)] (.inr w), .inl ⟨_, .inr w, .of hd, rfl, rfl⟩, k _ _ ⟨F2, M2, _, sF.trans s2, sr2, ?_, h2⟩⟩
  have e1 : ((valV [((.inr a : Key), V.int i), (.inr b, .int j)] (.inr w)).getD (.int d)) = .int (if w = a then i else if w = b then j else d) := by
    unfold valV
    by_cases c1 : w = a
    · subst c1
      rw [if_pos rfl]
      simp [List.find?_cons]
    · rw [if_neg c1]
      have c1' : ¬ a = w := fun e => c1 e.symm
      by_cases c2 : w = b
      · subst c2
        rw [if_pos rfl]
        simp [List.find?_cons, c1']
      · rw [if_neg c2]
        have c2' : ¬ b = w := fun e => c2 e.symm
        simp [List.find?_cons, c1', c2']
  rw [e1]
  exact .int _
theorem je_lsz (c : CK P G tb n e0 N sc X) (hh : tb.hot = false) {m : Bool} {u v : Expr} {es : Es} {p1 p2 p3 p4 q2 q3 q4 pos : Pos} (g1 : glB sc "len" = true) (g2 : glB sc "set" = true) (g3 : glB sc "list" = true) (g4 : glB sc "zip" = true) (hu : noStar u = true) (hv : noStar v = true)
    (ha : PA X [u, v] (tDs X tb C R (wpEs C R es))) : PE X (.Call (.Name "len" p1) [.Call (.Name "set" p2) [.Call (.Name "list" p3) [.Call (.Name "zip" p4) [u, v] [] q4] [] q3] [] q2] [] pos) (tD X tb C R (wpE C R (.px m .lsz es))) := by
  refine ⟨fun pins s σ H Q I h => ?_⟩
  obtain ⟨F, M, Z, ρ, Q', sr, re, hw, k⟩ := h
  simp only [wpE] at hw
  refine Call_ (ld_blt I (c.gl g1) (c.blt _ (by decide)) PySem.boot_len ?_)
  refine PyProof.Rows.callWith_builtin1 (PyProof.Rows.args_cons ?_ rfl) rfl rfl
  refine Call_ (ld_blt I (c.gl g2) (c.blt _ (by decide)) PyProof.Rows.boot_set ?_)
  refine PyProof.Rows.callWith_type1 (PyProof.Rows.args_cons ?_ rfl) rfl rfl
  refine Call_ (ld_blt I (c.gl g3) (c.blt _ (by decide)) PyProof.Rows.boot_list ?_)
  refine PyProof.Rows.callWith_type1 (PyProof.Rows.args_cons ?_ rfl) rfl rfl
  refine Call_ (ld_blt I (c.gl g4) (c.blt _ (by decide)) PyProof.Rows.boot_zip ?_)
  refine PyProof.Rows.callWith_type1 (thn (ha.run q4 pins s σ H _ I ⟨F, M, Z, ρ, _, sr, re, hw, fun vs H1 q => q⟩) fun us s1 ⟨vs, H1, I1, r1, F1, M1, ds, s1', sr1, ra, h1⟩ => ?_) (star_of hu) (any_of fun y hy => by rw [List.mem_singleton.mp hy]; exact hv)
  simp only [pxD] at h1
  split at h1 <;> first
    | exact h1.elim
    | contradiction
    | skip
  rename_i x y _
  split at h1
  case h_2 => exact h1.elim
  rename_i xs ys e1 e2
  split at h1
  case h_2 => exact h1.elim
  rename_i ba bb q1 q2'
  obtain ⟨⟨l1, l2⟩, h1⟩ := h1
  obtain ⟨w1, w2, rfl, rx, ry⟩ := ra.two
  obtain ⟨a, va, rfl, hxa, rva⟩ := vw_lst sr1 rx e1
  obtain ⟨b, vb, rfl, hxb, rvb⟩ := vw_lst sr1 ry e2
  rw [bls_of q1] at rva
  rw [bls_of q2'] at rvb
  cases r1 with
  | cons r r1 =>
  cases r1 with
  | cons r' r1 =>
  cases r1
  cases r
  cases r'
  obtain ⟨its, rv, pl1, _⟩ := I1.list (SqL.of hxa)
  obtain ⟨its2, rv2, pl2, _⟩ := I1.list (SqL.of hxb)
  obtain rfl := vals_bl rva rv
  obtain rfl := vals_bl rvb rv2
  have la : a < s1.heap.objs.size := pl1.lt
  have lb : b < s1.heap.objs.size := pl2.lt
  have zl := sizeLine_eq
  have hcalm := I1.ok.hd (c.calm hh)
  have hun := c.hu
  refine call_zip_2 pl1.isList pl2.isList fun h' hz hTI hTO hi1 hi2 hsz hk => PyProof.Rows.args_nil ?_
  refine call_list_zip (s := { s1 with heap := h' }) hcalm (PySem.W.ktu_apart s1.heap.objs.size a b la lb) (fun b' hb' => ?_) (xs := (ba.map Value.bool).toArray) (ys := (bb.map Value.bool).toArray) (by simp; omega) (by simp; omega) hz
    ⟨⟨_, hTO⟩, hTI, hi1, hi2, pl1.isList.at fun o e => hk _ o e, pl2.isList.at fun o e => hk _ o e, .inl ⟨hz, _, _, hTO⟩⟩ fun h2 tk2 acc cc as k1 k2 k3 k4 k5 => PyProof.Rows.args_nil ?_
  · show b' < h'.objs.size
    rw [hsz]
    exact zip_lt la lb hb'
  have as4 : as.length = 4 := by rw [k3]; simp; exact l1
  have zl4 : (ba.zip bb).length = 4 := by rw [List.length_zip, l1, l2]; rfl
  obtain ⟨ks, tt, hsim, nd, mem⟩ := chkP_ex (chkP_four (led := !X.w.params.followText "set-order") zl4)
  have ms : (as.zip (ba.zip bb)).map (·.2) = ba.zip bb := List.map_snd_zip (by omega)
  have mf : (as.zip (ba.zip bb)).map (fun p : Addr × BB => Value.ref p.1) = as.map Value.ref := by
    rw [show (fun p : Addr × BB => Value.ref p.1) = Value.ref ∘ (fun p : Addr × BB => p.1) from rfl, ← List.map_map, List.map_fst_zip (by omega)]
  refine call_set_pairs (s := { s1 with heap := h2, toks := tk2 }) (xs := as.zip (ba.zip bb)) (ks' := ks) (t' := tt) (items := acc) hcalm ⟨_, k2, rfl, cc, rfl⟩ (by rw [k5, mf]) (fun p hp => ?_) (by rw [List.length_zip]; omega) (by show X.A.units + 3 < cLine; omega) (by rw [ms]; exact hsim) fun h3 tk3 L SBL hL hk3 => PyProof.Rows.args_nil ?_
  · obtain ⟨jj, hj⟩ := List.mem_iff_getElem?.mp hp
    rw [List.getElem?_zip_eq_some] at hj
    obtain ⟨j1, j2⟩ := hj
    rw [List.getElem?_zip_eq_some] at j2
    obtain ⟨_, x', y', e3, e4, hp2⟩ := k4 jj p.1 j1
    have e3' : x' = .bool p.2.1 := by
      simp only [List.getElem?_toArray, List.getElem?_map, j2.1, Option.map_some, Option.some.injEq] at e3
      exact e3.symm
    have e4' : y' = .bool p.2.2 := by
      simp only [List.getElem?_toArray, List.getElem?_map, j2.2, Option.map_some, Option.some.injEq] at e4
      exact e4.symm
    subst e3' e4'
    exact ⟨_, _, hp2, rfl, rfl⟩
  obtain ⟨o, es', ep, ho, hex, hd, he⟩ := SBL.ob
  have hes : es'.size = ks.length := by
    have := congrArg List.length he
    rw [Array.length_toList, List.length_map] at this
    rw [this, ← hL, List.length_map]
  have I2 : Inv X pins σ H1 { s1 with heap := h3, toks := tk3 } := I1.kept fun b' o' e' => hk3 b' o' (k1 b' o' (fun hm => ?_) (hk b' o' e'))
  · have kl : ks.length ≤ 4 := by
      have := nodup_le nd fun x hx => (mem x).mp hx
      omega
    refine call_len_set ho hex hd (by rw [hes, ← hL, List.length_map]; exact SBL.fits) (by rw [hes]; omega) ⟨.int ks.length, H1, I2.tok _, ⟨_, by rw [hes]⟩, ?_⟩
    exact k _ _ ⟨F1, M1, .int (ks.length : Nat), s1', sr1, .int _, h1 ks nd mem⟩
  · exact zip_old hm (Heap.lt_size e')
theorem je_lsp (c : CK P G tb n e0 N sc X) (hh : tb.hot = false) {m : Bool} {u : Expr} {es : Es} {p1 p2 q2 pos : Pos} (g1 : glB sc "len" = true) (g2 : glB sc "set" = true) (hu : noStar u = true)
    (ha : PA X [u] (tDs X tb C R (wpEs C R es))) : PE X (.Call (.Name "len" p1) [.Call (.Name "set" p2) [u] [] q2] [] pos) (tD X tb C R (wpE C R (.px m .lsp es))) := by
  refine ⟨fun pins s σ H Q I h => ?_⟩
  obtain ⟨F, M, Z, ρ, Q', sr, re, hw, k⟩ := h
  simp only [wpE] at hw
  refine Call_ (ld_blt I (c.gl g1) (c.blt _ (by decide)) PySem.boot_len ?_)
  refine PyProof.Rows.callWith_builtin1 (PyProof.Rows.args_cons ?_ rfl) rfl rfl
  refine Call_ (ld_blt I (c.gl g2) (c.blt _ (by decide)) PyProof.Rows.boot_set ?_)
  refine PyProof.Rows.callWith_type1 (thn (ha.run q2 pins s σ H _ I ⟨F, M, Z, ρ, _, sr, re, hw, fun vs H1 q => q⟩) fun us s1 ⟨vs, H1, I1, r1, F1, M1, ds, s1', sr1, ra, h1⟩ => ?_) (star_of hu) rfl
  simp only [pxD] at h1
  split at h1 <;> first
    | exact h1.elim
    | contradiction
    | skip
  rename_i x _
  split at h1
  case h_2 => exact h1.elim
  rename_i xs e1
  split at h1
  case h_2 => exact h1.elim
  rename_i kk q1
  obtain ⟨l4, h1⟩ := h1
  obtain ⟨w1, rfl, rx⟩ := ra.one
  obtain ⟨a, va, rfl, hxa, rva⟩ := vw_lst sr1 rx e1
  rw [prs_of q1] at rva
  rw [Vals.ref1 r1]
  obtain ⟨its, rv, pl1, hzz⟩ := I1.list (SqL.of hxa)
  clear hzz
  have zl := sizeLine_eq
  have hcalm := I1.ok.hd (c.calm hh)
  have hun := c.hu
  obtain ⟨L0, hL0, hP0⟩ : ∃ L0 : List (Addr × BB), its = L0.map (fun p => Value.ref p.1) ∧ L0.map (·.2) = kk ∧ ∀ p ∈ L0, P2 s1.heap p.2 p.1 := by
    clear hxa pl1 e1 q1 l4 h1 ra rx
    induction kk generalizing va its with
    | nil => cases rva; cases rv; exact ⟨[], rfl, rfl, fun p hp => by cases hp⟩
    | cons k0 kk ih =>
      cases rva with
      | cons r1 r2 =>
      cases rv with
      | cons e1 e2 =>
      obtain ⟨T, rfl, hT⟩ := rep_p2 sr1 I1 r1 e1
      obtain ⟨L0, h1, h2, h3⟩ := ih _ r2 _ e2
      refine ⟨(T, k0) :: L0, by rw [h1]; rfl, by rw [List.map_cons, h2], fun p hp => ?_⟩
      rcases List.mem_cons.mp hp with rfl | hp
      · exact hT
      · exact h3 p hp
  obtain ⟨ms, hP0⟩ := hP0
  obtain ⟨ks, tt, hsim, nd, mem⟩ := chkP_ex (chkP_four (led := !X.w.params.followText "set-order") l4)
  have l0 : L0.length = 4 := by rw [← l4, ← ms, List.length_map]
  refine call_set_pairs (xs := L0) (ks' := ks) (t' := tt) hcalm pl1.isList (by simpa using hL0) hP0 (by omega) (by omega) (by rw [ms]; exact hsim) fun h3 tk3 L SBL hL hk3 => PyProof.Rows.args_nil ?_
  obtain ⟨o, es', ep, ho, hex, hd, he⟩ := SBL.ob
  have hes : es'.size = ks.length := by
    have := congrArg List.length he
    rw [Array.length_toList, List.length_map] at this
    rw [this, ← hL, List.length_map]
  have I2 : Inv X pins σ H1 { s1 with heap := h3, toks := tk3 } := I1.kept hk3
  have kl : ks.length ≤ 4 := by
    have := nodup_le nd fun x hx => (mem x).mp hx
    omega
  refine call_len_set ho hex hd (by rw [hes, ← hL, List.length_map]; exact SBL.fits) (by rw [hes]; omega) ⟨.int ks.length, H1, I2.tok _, ⟨_, by rw [hes]⟩, ?_⟩
  exact k _ _ ⟨F1, M1, .int (ks.length : Nat), s1', sr1, .int _, h1 ks nd mem⟩
def rLtT (X : Cx) : R2 := fun x y H Q => ∃ F M Z a b, SR X.K F M Z H ∧ Rep X.K F x (.tup (a.map .int)) ∧ Rep X.K F y (.tup (b.map .int)) ∧ Q (.bl (decide ((a : List Int) < b))) H
theorem op_ltT (hu : X.A.units + 65 < cLine) : OpR X (compareOp .Lt) (rLtT X) := by
  intro pins s σ H x y v u Q I rx ry h
  obtain ⟨F, M, Z, a, b, sr, hx, hy, q⟩ := h
  obtain ⟨as1, r1⟩ := row_reads sr I ⟨x, rx, hx⟩
  obtain ⟨as2, r2⟩ := row_reads sr I ⟨y, ry, hy⟩
  have lay : ∀ b : List Int, (PyData.tuple (b.map .int)).depth = 1 := fun b => by simp only [PyData.depth, PySem.W.depth_ints]
  refine PySem.W.lt_data r1 r2 (by simp only [PySem.W.alike, PySem.W.alike_ints]) (by simp) (by rw [lay, lay]; omega) ?_
  have ed : PySem.W.dataLt (.tuple (a.map .int)) (.tuple (b.map .int)) = decide (a < b) := by
    rw [PySem.W.dataLt_tuple]
    exact PySem.W.dataLt_ints a b
  rw [ed]
  exact ⟨.bl _, H, I, rfl, q⟩
theorem code_lex {B : Int} : ∀ {r q : List Int}, r.length = q.length → TS.Bd B r → TS.Bd B q → TS.code B r ≤ TS.code B q → r ≤ q
  | [], [], _, _, _, _ => List.le_refl _
  | [], _ :: _, h, _, _, _ => by simp at h
  | _ :: _, [], h, _, _, _ => by simp at h
  | d :: r, e :: q, hl, hr, hq, h => by
    have hl' : r.length = q.length := by simpa using hl
    show ¬ (e :: q) < (d :: r)
    intro hlt
    rcases List.cons_lt_cons_iff.mp hlt with h1 | ⟨h1, h2⟩
    · have := TS.code_lt hl'.symm hq.tail hr.tail h1
      omega
    · subst h1
      have h3 : TS.code B r ≤ TS.code B q := by
        have h4 : e * B ^ r.length + TS.code B r ≤ e * B ^ q.length + TS.code B q := h
        rw [hl'] at h4
        omega
      exact code_lex hl' hr.tail hq.tail h3 h2
theorem je_ssT (c : CK P G tb n e0 N sc X) (hh : tb.hot = false) {m : Bool} {u : Expr} {es : Es} {p1 p2 q2 pos : Pos} (g1 : glB sc "sorted" = true) (g2 : glB sc "set" = true) (hu : noStar u = true)
    (ha : PA X [u] (tDs X tb C R (wpEs C R es))) : PE X (.Call (.Name "sorted" p1) [.Call (.Name "set" p2) [u] [] q2] [] pos) (tD X tb C R (wpE C R (.px m .ssT es))) := by
  refine ⟨fun pins s σ H Q I h => ?_⟩
  obtain ⟨F, M, Z, ρ, Q', sr, re, hw, k⟩ := h
  simp only [wpE] at hw
  refine Call_ (ld_blt I (c.gl g1) (c.blt _ (by decide)) (show bootBuiltins "sorted" = some (.builtin "sorted") by decide +kernel) ?_)
  refine PyProof.Rows.callWith_builtin1 (PyProof.Rows.args_cons ?_ rfl) rfl rfl
  refine Call_ (ld_blt I (c.gl g2) (c.blt _ (by decide)) PyProof.Rows.boot_set ?_)
  refine PyProof.Rows.callWith_type1 (thn (ha.run q2 pins s σ H _ I ⟨F, M, Z, ρ, _, sr, re, hw, fun vs H1 q => q⟩) fun us s1 ⟨vs, H1, I1, r1, F1, M1, ds, s1', sr1, ra, h1⟩ => ?_) (star_of hu) rfl
  simp only [pxD] at h1
  split at h1 <;> first
    | exact h1.elim
    | contradiction
    | skip
  rename_i x _
  split at h1
  case h_2 => exact h1.elim
  rename_i xs e1
  split at h1
  case h_2 => exact h1.elim
  rename_i rs q1
  obtain ⟨⟨l64, d, B, hd, hB⟩, h1⟩ := h1
  obtain ⟨w1, rfl, rx⟩ := ra.one
  obtain ⟨a, va, rfl, hxa, rva⟩ := vw_lst sr1 rx e1
  have ers := rowsT_of q1
  subst ers
  obtain ⟨ks, hks, hk2, hkS⟩ : ∃ ks : List (Addr × List Int), va = ks.map (fun p => V.ref p.1) ∧ ks.map (·.2) = rs ∧ ∀ p ∈ ks, Rep X.K F1 (.ref p.1) (.tup (p.2.map .int)) := by
    clear hxa h1 q1 e1 l64 hB rx ra
    induction rs generalizing va with
    | nil => cases rva; exact ⟨[], rfl, rfl, fun p hp => by cases hp⟩
    | cons r rs ih =>
      cases rva with
      | cons r1 r2 =>
      obtain ⟨ks, h1, h2, h3⟩ := ih _ r2
      obtain ⟨b, vs, rfl, _, _⟩ := vw_tup (M := M1) r1 rfl
      refine ⟨(b, r) :: ks, by rw [h1]; rfl, by rw [List.map_cons, h2], fun p hp => ?_⟩
      rcases List.mem_cons.mp hp with rfl | hp
      · exact r1
      · exact h3 p hp
  have tupI : ∀ {F2 H2 : Hp} {M2 : MH} {p : Addr × List Int}, SR X.K F2 M2 Z H2 → Rep X.K F2 (.ref p.1) (.tup (p.2.map .int)) → SqT X.K H2 p.1 (p.2.map V.int) := fun {F2 H2 M2 p} sr2 r => by
    obtain ⟨b, vs, e, ht, ra⟩ := vw_tup (M := M2) r rfl
    cases e
    have ev : vs = p.2.map V.int := ra.toInts
    rw [← ev]
    exact (ht.mono sr2.f).sqt
  have hcalm : X.calm = true := c.calm hh
  have hun := c.hu
  refine thn (cr_setOfT hcalm (by omega) pins s1 σ H1 _ us (fun v0 H2 => ∃ a L, v0 = .ref a ∧ H1 a = none ∧ H2 = upd H1 a (SetTO X.prog X.w a L) ∧ (∀ p ∈ L, p ∈ ks) ∧ ∀ p ∈ ks, p.2 ∈ L.map (·.2)) I1 r1 ⟨a, ks, rfl, ?_, fun p hp => tupI sr1 (hkS p hp), ?_, fun a L h1 h2 h3 => ⟨a, L, rfl, h1, rfl, h2, h3⟩⟩) fun v s2 ⟨v0, H2, I2, r2, b, L, e2, hb, e3, hL1, hL2⟩ => PyProof.Rows.args_nil ?_
  · rw [← hks]; exact SqL.of hxa
  · rw [← hk2, List.length_map] at l64; exact l64
  subst e2 e3
  obtain ⟨sF, sr2⟩ := sr1.layF (o := SetTO X.prog X.w b L) hb
  have hkS2 : ∀ p ∈ L, Rep X.K (upd F1 b (SetTO X.prog X.w b L)) (.ref p.1) (.tup (p.2.map .int)) := fun p hp => (hkS p (hL1 p hp)).mono sF
  have hB2 : ∀ p ∈ L, p.2.length = d ∧ TS.Bd B p.2 := fun p hp => hB p.2 (by rw [← hk2]; exact List.mem_map_of_mem (hL1 p hp))
  have hmem : ∀ {L' : List (Addr × List Int)}, L'.Perm L → ∀ k, k ∈ L'.map (·.2) ↔ k ∈ rs := fun {L'} pm k => by
    rw [← hk2]
    constructor
    · intro h
      obtain ⟨p, hp, rfl⟩ := List.mem_map.mp h
      exact List.mem_map_of_mem (hL1 p (pm.mem_iff.mp hp))
    · intro h
      obtain ⟨p, hp, rfl⟩ := List.mem_map.mp h
      obtain ⟨q, hq, e⟩ := List.mem_map.mp (hL2 p hp)
      exact List.mem_map.mpr ⟨q, pm.mem_iff.mpr hq, e⟩
  refine L2.cr_sortedT hcalm pins s2 σ _ [.ref b] _ Q I2 (.cons r2 .nil) ⟨b, L, d, B, rfl, upd_same, fun p hp => tupI sr2 (hkS2 p hp), hd, hB2, fun L' p pm nd l64' pw hp => ?_⟩
  have rl : RepA X.K (upd F1 b (SetTO X.prog X.w b L)) (L'.map fun q => V.ref q.1) ((L'.map (·.2)).map fun r => D.tup (r.map .int)) := by
    have : ∀ l : List (Addr × List Int), (∀ p ∈ l, p ∈ L) → RepA X.K (upd F1 b (SetTO X.prog X.w b L)) (l.map fun q => V.ref q.1) ((l.map (·.2)).map fun r => D.tup (r.map .int)) := fun l => by
      induction l with
      | nil => intro _; exact .nil
      | cons p l ih => intro h; exact .cons (hkS2 p (h p List.mem_cons_self)) (ih fun q hq => h q (List.mem_cons_of_mem _ hq))
    exact this L' fun p hp => pm.mem_iff.mp hp
  refine k _ _ (((mkL_new sr2 rl hp (h1 _ nd (hmem pm) ?_)).back sF).back s1')
  rw [List.pairwise_map]
  refine pw.imp_of_mem fun {p q} hp hq hle => ?_
  obtain ⟨a1, a2⟩ := hB2 p (pm.mem_iff.mp hp)
  obtain ⟨b1, b2⟩ := hB2 q (pm.mem_iff.mp hq)
  exact code_lex (by omega) a2 b2 hle
end
end T
set_option Elab.async false
set_option linter.all false
set_option maxRecDepth 100000
set_option maxHeartbeats 4000000
namespace PySem
open PySem PySem.Spec PyProof.Rows HT L2
namespace T140
theorem args_sum2 (a b : Value) : argsOk "sum" ⟨[a, b], []⟩ := by unfold argsOk; kernel_rfl
theorem sub_ts : isSubtype (.type "tuple") (.type "str") = pure false := by rw [isSubtype_type]; kernel_rfl
theorem sub_tb : isSubtype (.type "tuple") (.type "bytes") = pure false := by rw [isSubtype_type]; kernel_rfl
theorem sub_tba : isSubtype (.type "tuple") (.type "bytearray") = pure false := by rw [isSubtype_type]; kernel_rfl
section
variable {prog : Program} {w : World} {A : Around} {R : Result → Shared → Prop} {I : Addr} {fp wr : List Addr} {G : Array GenState → Array GenState → Prop} {n : Nat} {P : Nat → Value → Prop} {St : Nat → Shared → Prop}
theorem add_any {E : Value → Shared → Prop} {s : Shared} {t b : Addr} {vs ws : List Value} {Q : Value → Shared → Prop} (ht : IsTup s.heap t vs.toArray) (hb : IsTup s.heap b ws.toArray) (hsz : vs.length + ws.length ≤ sizeLine)
    (h : ∀ (u : Addr) (h' : Heap), (∀ b o, s.heap.get? b = some o → h'.get? b = some o) → IsTup h' u (vs ++ ws).toArray → ((u = t ∧ ws = []) ∨ (u = b ∧ vs = []) ∨ (s.heap.get? u = none ∧ ∃ o, h'.get? u = some o ∧ o.dict = none)) → Q (.ref u) { s with heap := h' }) :
    wpAny (model prog w) A (binaryOp .Add (.ref t) (.ref b)) Q E s := by
  by_cases hv : vs = []
  · subst hv
    exact cat_tup0 ht hb (h b s.heap (fun _ _ e => e) hb (.inr (.inl ⟨rfl, rfl⟩)))
  · refine HT.cat_tup ht hb hv (fun z => ?_) (fun z => ?_) hsz
    · subst z
      rw [List.append_nil] at h
      exact h t s.heap (fun _ _ e => e) ht (.inl ⟨rfl, rfl⟩)
    · refine h _ _ (fun b o e => Heap.get?_push_of_some _ e) ⟨_, Heap.get?_push_size _ rfl, rfl, _, rfl⟩ (.inr (.inr ⟨?_, _, Heap.get?_push_size _ rfl, rfl⟩))
      cases q : s.heap.get? s.heap.objs.size with
      | none => rfl
      | some o => exact absurd (Heap.lt_size q) (Nat.lt_irrefl _)
theorem isTup_at {h h' : Heap} {t : Addr} {its : Array Value} (x : IsTup h t its) (k : ∀ o, h.get? t = some o → h'.get? t = some o) : IsTup h' t its := by
  obtain ⟨o, ho, r⟩ := x
  exact ⟨o, k o ho, r⟩
/-- what is joined from place i on -/
def join (its : Nat → List Value) : Nat → Nat → List Value
  | _, 0 => []
  | i, k + 1 => its i ++ join its (i + 1) k
theorem code_sumT {s0 : Shared} (W : WalksS prog w A.in1 I fp wr G n P St) (its : Nat → List Value) (hval : ∀ i v, P i v → ∃ b, v = .ref b ∧ IsTup s0.heap b (its i).toArray) (S : Addr) (hSf : S ∉ fp) (hS0 : s0.heap.get? S = none) (hw0 : ∀ b ∈ wr, s0.heap.get? b = none)
    (hlt : ∀ i s, St i s → ∀ b ∈ wr, ∃ o, s.heap.get? b = some o) (Tp : Addr → List Value → Prop) (hTb : ∀ i b, P i (.ref b) → Tp b (its i)) (hTf : ∀ u acc, s0.heap.get? u = none → Tp u acc) :
    ∀ (k i : Nat) (s : Shared) (t : Addr) (acc : List Value) (c : Nat), n - i = k → i ≤ n → St i s → s.heap.get? S = some { cls := .type "list", dict := none, data := .seq #[.ref t] c, slots := #[] } →
    Moved (S :: wr) G s0 s → IsTup s.heap t acc.toArray → (s0.heap.get? t = none → ∃ o, s.heap.get? t = some o ∧ o.dict = none) → Tp t acc → t ≠ S → t ∉ wr → (acc ++ join its i k).length ≤ sizeLine →
    (∀ s' t', Moved (S :: wr) G s0 s' → IsTup s'.heap t' (acc ++ join its i k).toArray → (s0.heap.get? t' = none → ∃ o, s'.heap.get? t' = some o ∧ o.dict = none) → Tp t' (acc ++ join its i k) → R (.ok (.ret (.ref t'))) s') → codeAny (model prog w) A (.builtin "sum.loop" ⟨[.ref I, .ref S, rawInt 2, rawInt 0], []⟩) R s := by
  have hSw : S ∉ wr := fun h => hSf (W.sub _ h)
  have hsub : ∀ b ∈ wr, b ∈ S :: wr := fun b hb => List.mem_cons_of_mem _ hb
  intro k
  induction k with
  | zero =>
    intro i s t acc c hk hi hst hS hm0 ht hD hT htS htw hz hR
    have hin : i = n := by omega
    subst hin
    refine codeAny_builtin F.entry_sum_loop ?_
    rw [Around.under_plainId F.plain_sum_loop _]
    show wpAny _ A.in1 (seqItems? (.ref S) >>= _) _ _ s
    refine wpAny_bind (wpAny_seqItems hS rfl ?_)
    show wpAny _ A.in1 (tryCatch (pyNext (.ref I)) _ >>= _) _ _ s
    refine wpAny_bind (wpAny_tryCatch (W.done s _ _ hst fun s' hm => ?_))
    refine wpAny_pure (hR s' t (hm0.trans W.gtrans (hm.mono hsub)) ?_ (fun z => ?_) ?_)
    · simp only [join, List.append_nil]
      exact isTup_at ht fun o e => hm.heap t o htw e
    · obtain ⟨o, h1, h2⟩ := hD z
      exact ⟨o, hm.heap t o htw h1, h2⟩
    · simp only [join, List.append_nil]
      exact hT
  | succ k ih =>
    intro i s t acc c hk hi hst hS hm0 ht hD hT htS htw hz hR
    have hlt' : i < n := by omega
    refine codeAny_builtin F.entry_sum_loop ?_
    rw [Around.under_plainId F.plain_sum_loop _]
    show wpAny _ A.in1 (seqItems? (.ref S) >>= _) _ _ s
    refine wpAny_bind (wpAny_seqItems hS rfl ?_)
    show wpAny _ A.in1 (tryCatch (pyNext (.ref I)) _ >>= _) _ _ s
    refine wpAny_bind (wpAny_tryCatch (W.item i s _ _ hlt' hst fun v s' hP hst' hm => ?_))
    obtain ⟨b, rfl, hb⟩ := hval i v hP
    have hS' := hm.heap S _ hSw hS
    have ht' : IsTup s'.heap t acc.toArray := isTup_at ht fun o e => hm.heap t o htw e
    have hm1 : Moved (S :: wr) G s0 s' := hm0.trans W.gtrans (hm.mono hsub)
    have old : ∀ b o, s0.heap.get? b = some o → b ≠ S ∧ b ∉ wr := fun b o e => ⟨(fun z => by rw [z, hS0] at e; cases e), (fun z => by rw [hw0 b z] at e; cases e)⟩
    have hb' : IsTup s'.heap b (its i).toArray := isTup_at hb fun o e => hm1.heap b o (fun z => by
      rcases List.mem_cons.mp z with z | z
      · exact (old b o e).1 z
      · exact (old b o e).2 z) e
    have hbS : b ≠ S ∧ b ∉ wr := by
      obtain ⟨o, ho, _⟩ := hb
      exact old b o ho
    show wpAny _ A.in1 ((holding [Value.ref b] (binaryOp .Add (.ref t) (.ref b))).attempt >>= _) _ _ _
    refine wpAny_bind (wpAny_attempt (wpAny_holding (add_any ht' hb' ?_ fun u h' hk' hu hu2 => ?_)))
    · simp only [join, List.length_append] at hz; omega
    have huS : u ≠ S ∧ u ∉ wr := by
      rcases hu2 with ⟨rfl, _⟩ | ⟨rfl, _⟩ | ⟨e, _⟩
      · exact ⟨htS, htw⟩
      · exact hbS
      · refine ⟨(fun z => by rw [z, hS'] at e; cases e), fun z => ?_⟩
        obtain ⟨o, ho⟩ := hlt _ _ hst' u z
        rw [ho] at e; cases e
    have hTu : Tp u (acc ++ its i) := by
      rcases hu2 with ⟨rfl, e⟩ | ⟨rfl, e⟩ | ⟨e, _⟩
      · rw [e, List.append_nil]; exact hT
      · rw [e, List.nil_append]; exact hTb i _ hP
      · refine hTf u _ ?_
        cases q : s0.heap.get? u with
        | none => rfl
        | some o =>
          have := hm1.heap u o (fun z => by
            rcases List.mem_cons.mp z with z | z
            · exact huS.1 z
            · exact huS.2 z) q
          rw [e] at this; cases this
    have hDu : s0.heap.get? u = none → ∃ o, h'.get? u = some o ∧ o.dict = none := fun z => by
      rcases hu2 with ⟨rfl, e⟩ | ⟨rfl, e⟩ | ⟨_, e⟩
      · obtain ⟨o, h1, h2⟩ := hD z
        exact ⟨o, hk' _ o (hm.heap _ o htw h1), h2⟩
      · obtain ⟨o, h1, _⟩ := hb
        rw [h1] at z; cases z
      · exact e
    have hS2 := hk' S _ hS'
    show wpAny _ A.in1 (updateSeq S (fun _ => #[.ref u]) >>= _) _ _ _
    refine wpAny_bind (wpAny_updateSeq hS2 rfl ?_)
    have hS₂ := Heap.get?_update_self (Obj.mapSeq fun _ => #[Value.ref u]) hS2 rfl
    refine wpAny_bind (wpAny_letGo ?_)
    have ej : acc ++ join its i (k + 1) = (acc ++ its i) ++ join its (i + 1) k := by simp [join]
    refine wpAny_bind (wpAny_updateSeq hS₂ rfl (wpAny_pure ⟨plainId_quiet F.plain_sum_loop _, ih (i + 1) _ u (acc ++ its i) _ (by omega) hlt' (W.frame _ s' _ _ hst' (by first | exact Nat.le_refl _ | exact Nat.le_succ _ | omega) fun b hb o e => ?_) (Heap.get?_update_self _ hS₂ rfl) ?_ ?_ (fun z => ?_) hTu huS.1 huS.2 (by rw [← ej]; exact hz) fun s'' t'' hm'' ht'' hD'' hT'' => hR s'' t'' hm'' (by rw [ej]; exact ht'') hD'' (by rw [ej]; exact hT'')⟩))
    · exact (Heap.get?_update_other _ _ (fun h : S = b => hSf (by rw [h]; exact hb))).trans ((Heap.get?_update_other _ _ (fun h : S = b => hSf (by rw [h]; exact hb))).trans (hk' b o e))
    · refine hm1.then_heap (by first | exact Nat.le_refl _ | exact Nat.le_succ _ | omega) fun b o hb e => ?_
      exact (Heap.get?_update_other _ _ (fun h : S = b => hb (by rw [h]; exact List.mem_cons_self))).trans ((Heap.get?_update_other _ _ (fun h : S = b => hb (by rw [h]; exact List.mem_cons_self))).trans (hk' b o e))
    · refine isTup_at hu fun o e => ?_
      exact (Heap.get?_update_other _ _ (fun h : S = u => huS.1 h.symm)).trans ((Heap.get?_update_other _ _ (fun h : S = u => huS.1 h.symm)).trans e)
    · obtain ⟨o, h1, h2⟩ := hDu z
      exact ⟨o, (Heap.get?_update_other _ _ (fun h : S = u => huS.1 h.symm)).trans ((Heap.get?_update_other _ _ (fun h : S = u => huS.1 h.symm)).trans h1), h2⟩
end
section
variable {prog : Program} {w : World} {A : Around} {E : Value → Shared → Prop} {s : Shared}
theorem call_sumT {x t0 : Addr} {vs0 : List Value} {nn : Nat} {its : Nat → List Value} {Q : Value → Shared → Prop} (Tp : Addr → List Value → Prop) (hT0 : Tp t0 vs0) (hTf : ∀ u acc, s.heap.get? u = none → Tp u acc) (ht0 : IsTup s.heap t0 vs0.toArray) (hz : (vs0 ++ join its 0 nn).length ≤ sizeLine)
    (hit : ∀ (Q' : Value → Shared → Prop), (∀ (I : Addr) (s₂ : Shared) (P : Nat → Value → Prop) (St : Nat → Shared → Prop), WalksS prog w A.in1 I [I, x] [I] (fun a b => b = a) nn P St → St 0 s₂ → (∀ i s, St i s → ∃ o, s.heap.get? I = some o) → s.heap.get? I = none → Moved [] (fun a b => b = a) s s₂ → (∃ o, s₂.heap.get? x = some o) →
      (∀ i v, P i v → ∃ b, v = .ref b ∧ IsTup s.heap b (its i).toArray ∧ Tp b (its i)) → Q' (.ref I) s₂) → wpAny (model prog w) A.in1 (pyIter (.ref x)) Q' E s)
    (h : ∀ s' t', (∀ b o, s.heap.get? b = some o → s'.heap.get? b = some o) → s'.gens = s.gens → s'.drawn = s.drawn → s'.os = s.os → IsTup s'.heap t' (vs0 ++ join its 0 nn).toArray → (s.heap.get? t' = none → ∃ o, s'.heap.get? t' = some o ∧ o.dict = none) → Tp t' (vs0 ++ join its 0 nn) → Q (.ref t') s') :
    wpAny (model prog w) A (call (.builtin "sum") [.ref x, .ref t0]) Q E s := by
  refine call_function_tree F.kind_sum F.plain_sum F.entry_sum (args_sum2 _ _) ?_
  unfold Builtin.«sum»
  simp only [List.length_cons, List.length_nil]
  rw [if_neg (by decide)]
  refine wpAny_bind (wpAny_of_eq (show Builtin.Builtins.bindParams "sum" ["start"] 0 ⟨[.ref t0], []⟩ = pure [some (.ref t0)] from rfl) ?_)
  refine wpAny_bind (hit _ fun I s₂ P St W hst hI hI0 hm2 hx hval => ?_)
  have ht2 : IsTup s₂.heap t0 vs0.toArray := isTup_at ht0 fun o e => hm2.heap t0 o (by simp) e
  obtain ⟨o0, ho0, hc0, _⟩ := ht2
  have ty : s₂.TypeIs (.ref t0) "tuple" := ⟨o0, ho0, hc0⟩
  refine wpAny_bind (wpAny_pure ?_)
  simp only [List.forIn_cons, List.forIn_nil]
  refine wpAny_bind (wpAny_bind (wpAny_bind (wpAny_isInstance (T := "tuple") (b := false) ty sub_ts ?_)))
  simp only [Bool.false_eq_true, if_false]
  refine wpAny_pure (wpAny_bind (wpAny_bind (wpAny_isInstance (T := "tuple") (b := false) ty sub_tb ?_)))
  simp only [Bool.false_eq_true, if_false]
  refine wpAny_pure (wpAny_bind (wpAny_bind (wpAny_isInstance (T := "tuple") (b := false) ty sub_tba ?_)))
  simp only [Bool.false_eq_true, if_false]
  refine wpAny_pure (wpAny_pure ?_)
  refine wpAny_bind (wpAny_newObj_type ?_)
  have hI2 := hI 0 s₂ hst
  have lt2 : ∀ b o, s₂.heap.get? b = some o → b < s₂.heap.objs.size := fun b o e => Heap.lt_size e
  have hSf : s₂.heap.objs.size ∉ [I, x] := fun hm => by
    rcases List.mem_cons.mp hm with e | hm
    · obtain ⟨o, ho⟩ := hI2
      exact absurd (lt2 _ _ ho) (by rw [← e]; exact Nat.lt_irrefl _)
    · have e := List.mem_singleton.mp hm
      obtain ⟨o, ho⟩ := hx
      exact absurd (lt2 _ _ ho) (by rw [← e]; exact Nat.lt_irrefl _)
  have hS0 : s.heap.get? s₂.heap.objs.size = none := by
    cases q : s.heap.get? s₂.heap.objs.size with
    | none => rfl
    | some o => exact absurd (lt2 _ _ (hm2.heap _ o (by simp) q)) (Nat.lt_irrefl _)
  have ne0 : ∀ b o, s.heap.get? b = some o → b ≠ s₂.heap.objs.size ∧ b ≠ I := fun b o e => ⟨(fun z => by rw [z, hS0] at e; cases e), (fun z => by rw [z, hI0] at e; cases e)⟩
  obtain ⟨o1, ho1, r1⟩ := ht0
  refine wpAny_pure ⟨plainId_quiet F.plain_sum_loop _, code_sumT (s0 := s) (G := fun a b => b = a) W its (fun i v hP => by obtain ⟨b, e, h1, _⟩ := hval i v hP; exact ⟨b, e, h1⟩) s₂.heap.objs.size hSf hS0 (fun b hb => by rw [List.mem_singleton.mp hb]; exact hI0) (fun i s hs b hb => by rw [List.mem_singleton.mp hb]; exact hI i s hs) Tp (fun i b hP => by obtain ⟨b', e, _, h2⟩ := hval i _ hP; cases e; exact h2) hTf nn 0 _ t0 vs0 0 rfl (Nat.zero_le _)
    (W.frame 0 s₂ _ _ hst (by first | exact Nat.le_refl _ | exact Nat.le_succ _ | omega) fun b _ o e => Heap.get?_push_of_some _ e) (Heap.get?_push_size _ rfl) ?_ ?_ (fun z => by rw [ho1] at z; cases z) hT0 ?_ ?_ hz fun s' t' hm ht hD hT => ?_⟩
  · refine (hm2.mono (fun b hb => by cases hb)).then_heap (by first | exact Nat.le_refl _ | exact Nat.le_succ _ | omega) fun b o _ e => Heap.get?_push_of_some _ e
  · exact isTup_at ⟨o1, hm2.heap t0 o1 (by simp) ho1, r1⟩ fun o e => Heap.get?_push_of_some _ e
  · exact (ne0 t0 o1 ho1).1
  · intro z
    exact (ne0 t0 o1 ho1).2 (List.mem_singleton.mp z)
  · refine h s' t' (fun b o e => hm.heap b o (fun z => ?_) e) hm.gens hm.drawn hm.os ht hD hT
    rcases List.mem_cons.mp z with z | z
    · exact (ne0 b o e).1 z
    · exact (ne0 b o e).2 (List.mem_singleton.mp z)
end
end T140
end PySem
set_option Elab.async false
set_option linter.all false
set_option maxRecDepth 100000
set_option maxHeartbeats 4000000
namespace T
open PySem PySem.Spec PyProof.Rows L2 HT
def rPx (X : Cx) (m : Bool) (p : Px) : List V → Hp → VK → Prop := fun vs H Q => ∃ F M Z ds Q', SR X.K F M Z H ∧ RepA X.K F vs ds ∧ pxD m p ds M Q' ∧ ∀ v H', KQ X.K F Z Q' v H' → Q v H'
section
variable {P : Nat → Option Fn} {G : Nat → Option D} {tb : Tb} {n : Nat} {e0 : Option (Addr × Xc)} {N : List Str} {sc : Scope} {X : Cx} {R : Xc → MH → Prop} {C : SC} {x : Expr} {xs : List Expr} {es : Es} {pos : Pos} {e : Ex}
theorem px_read {m : Bool} {p : Px} : ∀ σ H Q, tD X tb C R (wpE C R (.px m p es)) σ H Q → tCB (rPx X m p) (tDs X tb C R (wpEs C R es)) σ H Q := fun σ H Q ⟨F, M, Z, ρ, Q', sr, re, hw, k⟩ => by
  simp only [wpE] at hw
  exact ⟨F, M, Z, ρ, _, sr, re, hw, fun vs H1 ⟨F1, M1, ds, s1, sr1, rs, h1⟩ => ⟨F1, M1, Z, ds, Q', sr1, rs, h1, tD_then s1 k⟩⟩
theorem je_pxB (c : CK P G tb n e0 N sc X) {m : Bool} {b : Px} {nm : Str} {id : String} {p : Pos} (hr : CallR X (.builtin id) (rPx X m b)) (hn : nm ∈ bltNames) (hg : glB sc nm = true) (hv : bootBuiltins nm = some (.builtin id)) (h1 : nm ≠ "__name__") (h2 : (nm == ("__debug__" : Str)) = false)
    (hs : ∀ y ∈ x :: xs, noStar y = true) (ha : PA X (x :: xs) (tDs X tb C R (wpEs C R es))) : PE X (.Call (.Name nm p) (x :: xs) [] pos) (tD X tb C R (wpE C R (.px m b es))) :=
  PE_imp (pe_callB hr (c.gl hg) (c.blt nm hn) hv ha h1 h2 (star_of (hs x List.mem_cons_self)) (any_of fun y hy => hs y (List.mem_cons_of_mem _ hy))) px_read
theorem cb_lenD (m : Bool) : CallR X (.builtin "len") (rPx X m .lenD) := by
  intro pins s σ H xs us Q I r h
  obtain ⟨F, M, Z, ds, Q', sr, ra, h, k⟩ := h
  match ds, h with
  | [d], h =>
    obtain ⟨v, rfl, rv⟩ := ra.one
    obtain ⟨a, es, ep, rfl, hM, hz, h⟩ := dtW_inv (show dtW M d (fun _ es _ => Q' (.int es.length) M) from h)
    obtain rfl := rp_ref rv
    rw [Vals.ref1 r]
    obtain ⟨xs, hx, rd⟩ := cell_dtH sr hM
    obtain ⟨c1, as, hr, hs, _⟩ := dt_entries I hx
    have hl := rd.len
    have hsz := sizeLine_eq
    refine PyProof.Rows.call_len_slot (n := (es.length : Int)) hr.typeIs PySem.F.slot_dict_len (fun Q' hq => call_len_raw c1 hr (by rw [hs, hl]; exact hq)) (by omega) (by omega) ?_
    exact ⟨.int ((es.length : Nat) : Int), H, I.tok _, ⟨_, rfl⟩, k _ _ (.of sr (.int _) h)⟩
theorem cb_dvm (m : Bool) : CallR X (.builtin "divmod") (rPx X m .dvm) := by
  intro pins s σ H xs us Q I r h
  obtain ⟨F, M, Z, ds, Q', sr, ra, h, k⟩ := h
  simp only [pxD] at h
  split at h <;> first
    | exact h.elim
    | contradiction
    | skip
  rename_i i j _
  obtain ⟨⟨h0, h64⟩, h⟩ := h
  obtain ⟨v1, v2, rfl, r1, r2⟩ := ra.two
  cases r1
  cases r2
  have hw : CDivW i j := wide_div (b := 64) h0 (by omega) (by decide) (by decide)
  obtain ⟨u, w', rfl, ⟨t, rfl⟩, ⟨t', rfl⟩⟩ := vals2 r
  refine divmod_int (by omega) ?_ (.inl (PyProof.noPylong_of_log2 hw.2))
  rw [Int.fdiv_eq_ediv_of_nonneg i (by omega), Int.fmod_eq_emod_of_nonneg i (by omega)]
  exact newTup (X := X) (vs := [.int (i / j), .int (i % j)]) (its := [.int (i / j) s.toks, .int (i % j) (s.toks + 1)]) (ds := [.int (i / j), .int (i % j)]) sr I (.cons ⟨_, rfl⟩ (.cons ⟨_, rfl⟩ .nil)) (.cons (.int _) (.cons (.int _) .nil)) (by rw [sizeLine_eq]; show 2 ≤ 16777216; omega) h k
theorem tups_of : ∀ {ds : List D} {ts : List (List D)}, tups? ds = some ts → ds = ts.map D.tup
  | [], ts, h => by cases h; rfl
  | .tup xs :: r, ts, h => by
    simp only [tups?, Option.map_eq_some_iff] at h
    obtain ⟨cs, h1, rfl⟩ := h
    rw [tups_of h1]; rfl
  | .non :: _, _, h => by cases h
  | .bl _ :: _, _, h => by cases h
  | .int _ :: _, _, h => by cases h
  | .str _ :: _, _, h => by cases h
  | .lst _ :: _, _, h => by cases h
  | .dct _ _ :: _, _, h => by cases h
  | .ref _ :: _, _, h => by cases h
  | .scr _ :: _, _, h => by cases h
/-- a tuple in the heap: its place, its items, what they are -/
structure TRow (X : Cx) (F : Hp) (s : Shared) (t : List D) (b : Addr) (vs : List V) (us : List Value) : Prop where
  tp : TupS X.K F b vs
  ra : RepA X.K F vs t
  rv : Vals vs us
  it : IsTup s.heap b us.toArray
theorem trows {pins : List (Addr × Obj)} {σ : L2.St} {F Z H : Hp} {M : MH} {s : Shared} (sr : SR X.K F M Z H) (I : Inv X pins σ H s) : ∀ {ts : List (List D)} {vs : List V} {us : List Value}, RepA X.K F vs (ts.map D.tup) → Vals vs us →
    ∃ L : List (Addr × List V × List Value), us = L.map (fun p => Value.ref p.1) ∧ L.length = ts.length ∧ ∀ (i : Nat) (p : Addr × List V × List Value) (t : List D), L[i]? = some p → ts[i]? = some t → TRow X F s t p.1 p.2.1 p.2.2
  | [], _, _, r, v => by cases r; cases v; exact ⟨[], rfl, rfl, fun i p t h => by simp at h⟩
  | t :: ts, _, _, r, v => by
    cases r with
    | cons r1 r2 =>
    cases v with
    | cons e1 e2 =>
    obtain ⟨b, ws, rfl, ht, ra⟩ := vw_tup (M := M) r1 rfl
    cases e1
    obtain ⟨its, rv, pt, _⟩ := I.tuple (SqT.mono sr.f ht.sqt)
    obtain ⟨L, h1, h2, h3⟩ := trows sr I r2 e2
    refine ⟨(b, ws, its) :: L, by rw [h1]; rfl, by simp [h2], fun i p t' hp ht' => ?_⟩
    cases i with
    | zero =>
      simp only [List.getElem?_cons_zero, Option.some.injEq] at hp ht'
      subst hp ht'
      exact ⟨ht, ra, rv, pt⟩
    | succ i =>
      simp only [List.getElem?_cons_succ] at hp ht'
      exact h3 i p t' hp ht'
theorem join_flat {α : Type} (f : α → List Value) : ∀ (L : List α) (g : Nat → List Value) (k : Nat), (∀ i a, L[i]? = some a → g (k + i) = f a) → PySem.T140.join g k L.length = (L.map f).flatten
  | [], _, _, _ => rfl
  | a :: L, g, k, h => by
    rw [List.map_cons, List.flatten_cons, List.length_cons]
    show g k ++ PySem.T140.join g (k + 1) L.length = _
    rw [show g k = f a from h 0 a rfl, join_flat f L g (k + 1) fun i b hb => by have := h (i + 1) b (by simpa using hb); rwa [show k + 1 + i = k + (i + 1) by omega]]
theorem rows_flat {F : Hp} {s : Shared} : ∀ {L : List (Addr × List V × List Value)} {ts : List (List D)}, L.length = ts.length → (∀ (i : Nat) (p : Addr × List V × List Value) (t : List D), L[i]? = some p → ts[i]? = some t → TRow X F s t p.1 p.2.1 p.2.2) →
    RepA X.K F (L.map fun p => p.2.1).flatten ts.flatten ∧ Vals (L.map fun p => p.2.1).flatten (L.map fun p => p.2.2).flatten
  | [], [], _, _ => ⟨.nil, .nil⟩
  | [], _ :: _, h, _ => by simp at h
  | _ :: _, [], h, _ => by simp at h
  | p :: L, t :: ts, h, hr => by
    obtain ⟨h1, h2⟩ := rows_flat (L := L) (ts := ts) (by simpa using h) fun i p' t' a b => hr (i + 1) p' t' (by simpa using a) (by simpa using b)
    have h0 := hr 0 p t rfl rfl
    simp only [List.map_cons, List.flatten_cons]
    exact ⟨h0.ra.app h1, h0.rv.append h2⟩
theorem cb_sumT (hc : X.calm = true) (m : Bool) : CallR X (.builtin "sum") (rPx X m .sumT) := by
  intro pins s σ H xs us Q I r h
  obtain ⟨F, M, Z, ds, Q', sr, ra, h, k⟩ := h
  simp only [pxD] at h
  split at h <;> first
    | exact h.elim
    | contradiction
    | skip
  rename_i d _
  obtain ⟨ys, e, h⟩ := seq_inv h
  split at h
  case h_2 => exact h.elim
  rename_i tss q
  obtain ⟨hz, h⟩ := h
  have ey := tups_of q
  subst ey
  obtain ⟨v1, v2, rfl, r1, r2⟩ := ra.two
  obtain ⟨t0, vs0, rfl, ht0, ra0⟩ := vw_tup (M := M) r2 rfl
  cases ra0
  cases r with
  | cons rA r =>
  cases r with
  | cons rB r =>
  cases r
  cases rB
  obtain ⟨its0, rv0, pt0, _⟩ := I.tuple (SqT.mono sr.f ht0.sqt)
  cases rv0
  have hh := I.ok.hd hc
  -- the rows
  have main : ∀ (a : Addr) (vs : List V) (its : List Value), RepA X.K F vs (tss.map D.tup) → Vals vs its →
      ((∃ o, s.heap.get? a = some o) ∧ ∀ (Q' : Value → Shared → Prop), (∀ (I : Addr) (s₂ : Shared) (P : Nat → Value → Prop) (St : Nat → Shared → Prop), WalksS X.prog X.w X.A.in1 I [I, a] [I] (fun a b => b = a) its.length P St → St 0 s₂ → (∀ i s, St i s → ∃ o, s.heap.get? I = some o) → s.heap.get? I = none → Moved [] (fun a b => b = a) s s₂ → (∃ o, s₂.heap.get? a = some o) → (∀ i v, P i v → its[i]? = some v) → Q' (.ref I) s₂) → wpAny (model X.prog X.w) X.A.in1 (pyIter (.ref a)) Q' X.xe s) →
      wpAny (model X.prog X.w) X.A (call (.builtin "sum") [.ref a, .ref t0]) (EP X pins σ Q) X.xe s := by
    intro a vs its rep vals ⟨hao, hit⟩
    obtain ⟨L, hL, hlen, hrow⟩ := trows sr I rep vals
    obtain ⟨f1, f2⟩ := rows_flat hlen hrow
    have hlenI : its.length = L.length := by rw [hL, List.length_map]
    let g : Nat → List Value := fun i => (L[i]?.map fun p => p.2.2).getD []
    have hg : ∀ i p, L[i]? = some p → g i = p.2.2 := fun i p hp => by show ((L[i]?.map fun p => p.2.2).getD []) = _; rw [hp]; rfl
    have ej : PySem.T140.join g 0 its.length = (L.map fun p => p.2.2).flatten := by
      rw [hlenI]
      exact join_flat (fun p : Addr × List V × List Value => p.2.2) L g 0 fun i p hp => by rw [Nat.zero_add]; exact hg i p hp
    have fl : (L.map fun p => p.2.2).flatten.length = tss.flatten.length := by rw [← f2.length, f1.len]
    let Tp : Addr → List Value → Prop := fun u acc => s.heap.get? u = none ∨ ∃ t vs, TupS X.K F u vs ∧ RepA X.K F vs t ∧ Vals vs acc
    refine PySem.T140.call_sumT (vs0 := []) (nn := its.length) (its := g) Tp (.inr ⟨[], [], ht0, .nil, .nil⟩) (fun u acc e => .inl e) pt0 (by rw [List.nil_append, ej, fl]; exact hz) (fun Q2 h2 => hit Q2 fun I0 s₂ P St W hst hI hI0 hm2 hx hP => h2 I0 s₂ P St W hst hI hI0 hm2 hx fun i v hv => ?_) fun s' t' hk hgn hdr hos ht hD hT => ?_
    · have hi := hP i v hv
      rw [hL, List.getElem?_map, Option.map_eq_some_iff] at hi
      obtain ⟨p, hp, rfl⟩ := hi
      obtain ⟨t, ht⟩ : ∃ t, tss[i]? = some t := by
        have := (List.getElem?_eq_some_iff.mp hp).1
        exact ⟨_, List.getElem?_eq_getElem (by omega)⟩
      have rw' := hrow i p t hp ht
      rw [hg i p hp]
      exact ⟨p.1, rfl, rw'.it, .inr ⟨t, p.2.1, rw'.tp, rw'.ra, rw'.rv⟩⟩
    · rw [List.nil_append, ej] at ht hT
      obtain ⟨hp', g', d', tk', os'⟩ := s'
      simp only at hgn hdr hos
      subst hgn hdr hos
      have I2 : Inv X pins σ H { s with heap := hp', toks := tk' } := I.kept hk
      rcases hT with hT | ⟨t, ws, w1, w2, w3⟩
      · have hHn : H t' = none := by
          cases qq : H t' with
          | none => rfl
          | some o =>
            have := I.hok.gone (a := t') hT
            rw [qq] at this; cases this
        obtain ⟨ob, hc', hd'⟩ := hD hT
        obtain ⟨ob2, hc2, hc3, hc4⟩ := ht
        have : ob2 = ob := Option.some.inj (hc2.symm.trans hc')
        subst this
        obtain ⟨sF, sr'⟩ := sr.layF (o := .frz ob2 (.tup (L.map fun p => p.2.1).flatten)) hHn
        refine ⟨.ref t', _, I.laidN (t' := tk') (o := .frz ob2 (.tup (L.map fun p => p.2.1).flatten)) hk hT hHn ?_, rfl, k _ _ ⟨_, M, _, sF, sr', .tup (.inl ⟨_, upd_same, hd'⟩) (f1.mono sF), h⟩⟩
        exact ⟨hc', by rw [f1.len]; exact hz, _, f2, ⟨_, hc', hc3, hc4⟩⟩
      · have ev := Vals.inj w3 f2
        subst ev
        exact ⟨.ref t', H, I2, rfl, k _ _ (.of sr (.tup w1 f1) h)⟩
  have zl := sizeLine_eq
  rcases e with e | e
  · obtain ⟨a, vs, rfl, ha, ra'⟩ := vw_lst sr r1 e
    cases rA
    obtain ⟨its, r', pl, hz'⟩ := I.list (SqL.of ha)
    have hl := pl.isList
    obtain ⟨o, ho, _⟩ := hl
    have hne : a ≠ s.heap.objs.size := Nat.ne_of_lt (Heap.lt_size ho)
    refine main a vs its ra' r' ⟨⟨o, ho⟩, fun Q2 h2 => ?_⟩
    refine wpAny_pyIter_list pl.isList ?_
    have W := (Walks.list (prog := X.prog) (w := X.w) (A := X.A.in1) hh s.heap.objs.size a hne its.toArray).toS
    rw [List.size_toArray] at W
    refine h2 _ _ _ _ W ⟨⟨_, Heap.get?_push_size _ rfl, rfl, rfl⟩, pl.isList.at fun o e => Heap.get?_push_of_some _ e⟩ (fun i s' hs => ?_) ?_ ⟨fun b o _ e => Heap.get?_push_of_some _ e, rfl, rfl, rfl, Nat.le_refl _⟩ ⟨o, Heap.get?_push_of_some _ ho⟩ (fun i v hv => by simpa using hv)
    · obtain ⟨o', ho', _⟩ := hs.1
      exact ⟨o', ho'⟩
    · cases q : s.heap.get? s.heap.objs.size with
      | none => rfl
      | some o => exact absurd (Heap.lt_size q) (Nat.lt_irrefl _)
  · obtain ⟨a, vs, rfl, ha, ra'⟩ := vw_tup r1 e
    cases rA
    obtain ⟨its, r', pl, hz'⟩ := I.tuple (SqT.mono sr.f ha.sqt)
    obtain ⟨o, ho, _⟩ := id pl
    have hne : a ≠ s.heap.objs.size := Nat.ne_of_lt (Heap.lt_size ho)
    refine main a vs its ra' r' ⟨⟨o, ho⟩, fun Q2 h2 => ?_⟩
    refine wpAny_pyIter_tuple pl ?_
    have W := (Walks.tuple (prog := X.prog) (w := X.w) (A := X.A.in1) hh s.heap.objs.size a hne its.toArray).toS
    rw [List.size_toArray] at W
    refine h2 _ _ _ _ W ⟨⟨_, Heap.get?_push_size _ rfl, rfl, rfl⟩, Heap.IsTuple.at pl fun o e => Heap.get?_push_of_some _ e⟩ (fun i s' hs => ?_) ?_ ⟨fun b o _ e => Heap.get?_push_of_some _ e, rfl, rfl, rfl, Nat.le_refl _⟩ ⟨o, Heap.get?_push_of_some _ ho⟩ (fun i v hv => by simpa using hv)
    · obtain ⟨o', ho', _⟩ := hs.1
      exact ⟨o', ho'⟩
    · cases q : s.heap.get? s.heap.objs.size with
      | none => rfl
      | some o => exact absurd (Heap.lt_size q) (Nat.lt_irrefl _)
theorem je_tup2 (c : CK P G tb n e0 N sc X) (hh : tb.hot = false) {m : Bool} {p q pos2 : Pos} {y : Expr} {b : Ex} (hg : glB sc "tuple" = true) (hg2 : glB sc "range" = true) (hs : noStar x = true) (hs2 : noStar y = true) (ha : PE X x (tD X tb C R (wpE C R e))) (hb : PE X y (tD X tb C R (wpE C R b))) :
    PE X (.Call (.Name "tuple" p) [.Call (.Name "range" q) [x, y] [] pos2] [] pos) (tD X tb C R (wpE C R (.px m .tup2 (.cons e (.cons b .nil))))) := by
  have hr := prg_2 (p := q) (pos := pos2) (c.gl hg2) (c.blt _ (by decide)) ha hb (star_of hs) (star_of hs2) (by rw [star_of hs2]; rfl)
  refine ⟨fun pins s σ H Q I h => ?_⟩
  obtain ⟨F, M, Z, ρ, Q', sr, re, hw, k⟩ := h
  simp only [wpE, wpEs] at hw
  refine Call_ (ld_blt I (c.gl hg) (c.blt _ (by decide)) boot_tuple (PyProof.Rows.callWith_type1 (args_cons (thn (hr pins s σ H (fun a b H1 => RgOk a b ∧ ∃ F1 M1, Same F F1 ∧ SR X.K F1 M1 Z H1 ∧ Q' (.tup ((List.range (b - a).toNat).map fun i : Nat => .int (a + (i : Int)))) M1) I ?_) fun x s1 ⟨r, a, b, t, u, v, H1, ex, hr, I1, ok, q1⟩ => args_nil ?_) rfl) rfl))
  · refine ⟨F, M, Z, ρ, _, sr, re, hw, fun v H1 ⟨F1, M1, dx, s1, sr1, rx, h1⟩ => ⟨F1, M1, Z, ρ, _, sr1, re.mono s1, h1, fun v2 H2 ⟨F2, M2, dy, s2, sr2, ry, h2⟩ => ?_⟩⟩
    have rx' := rx.mono s2
    cases dx <;> first
      | exact h2.elim
      | skip
    cases dy <;> first
      | exact h2.elim
      | skip
    cases rx
    cases ry
    obtain ⟨⟨h3, h4, h5, h6, h7⟩, h2⟩ := h2
    have hsz := sizeLine_eq
    exact ⟨_, _, rfl, rfl, ⟨by omega, by omega, by omega, by omega, by omega⟩, F2, M2, s1.trans s2, sr2, h2⟩
  subst ex
  obtain ⟨b1, b2, b3, b4, b5⟩ := ok
  obtain ⟨F1, M1, s1', sr1, h1⟩ := q1
  refine call_tuple_range (n := (b - a).toNat) (I1.ok.hd (c.calm hh)) hr (small_one b1 b2 b3 b4) (rangeSize_nat a b) b5 fun h' tk acc hk hi => ?_
  have I2 : Inv X pins σ H1 { s1 with heap := h', toks := tk } := I1.kept hk
  have ra : RepA X.K F1 (rgV a b) ((List.range (b - a).toNat).map fun i : Nat => .int (a + (i : Int))) := rep_range (fun i => a + (i : Int)) _
  have fin := newTup (X := X) (t' := tk) sr1 I2 (vals_rg hi) ra (by rw [rgV_length]; exact b5) h1 (tD_then s1' k)
  rw [Array.toArray_toList] at fin
  exact fin
/-- sorted(d.values()) -/
theorem je_sortV (c : CK P G tb n e0 N sc X) (hh : tb.hot = false) {m : Bool} {p apos cpos : Pos} (hg : glB sc "sorted" = true) (hbase : attributeBase x "values" X.env (eval x X.env) = eval x X.env) (hline : (apos.endLine == cpos.line) = true) (ha : PE X x (tD X tb C R (wpE C R e))) :
    PE X (.Call (.Name "sorted" p) [.Call (.Attribute x "values" apos) [] [] cpos] [] pos) (tD X tb C R (wpE C R (.px m .sortV (.cons e .nil)))) := by
  refine ⟨fun pins s σ H Q I h => ?_⟩
  obtain ⟨F, M, Z, ρ, Q', sr, re, hw, k⟩ := h
  simp only [wpE, wpEs] at hw
  refine Call_ (ld_blt I (c.gl hg) (c.blt _ (by decide)) (show bootBuiltins "sorted" = some (.builtin "sorted") by decide +kernel) ?_)
  refine PyProof.Rows.callWith_builtin1 (PyProof.Rows.args_cons ?_ rfl) rfl rfl
  refine wpAny_Call_method (T := "dict") (id := "dict.values") hbase rfl hline PySem.F.plainAttrs_dict PySem.F.slot_dict_values PySem.F.type_dict_values (thn (ha.run pins s σ H _ I ⟨F, M, Z, ρ, _, sr, re, hw, fun v H1 q => q⟩) fun u s1 ⟨v, H1, I1, r1, F1, M1, d, s1', sr1, rd, h1⟩ => ?_)
  replace h1 : pxD m .sortV [d] M1 Q' := h1
  simp only [pxD] at h1
  obtain ⟨a, es, ep, rfl, hM, hz, h1⟩ := dtW_inv h1
  split at h1
  case h_2 => exact h1.elim
  rename_i is hq
  obtain rfl := rp_ref rd
  obtain rfl : u = Value.ref a := r1
  obtain ⟨xs, hx, rde⟩ := cell_dtH sr1 hM
  obtain ⟨c1, as, hr, hs, he⟩ := dt_entries I1 hx
  have hl := rde.len
  have ek := ints_of hq
  have hil : is.length = es.length := by
    have := congrArg List.length ek
    simpa using this.symm
  have hun := c.hu
  refine ⟨hr.typeIs, raw_noDict hr, ?_⟩
  have I2 : Inv X pins σ H1 { s1 with heap := s1.heap.push { cls := .type "dict_values", data := .fields #[.ref a] } } := I1.kept (t' := s1.toks) fun b ob q => Heap.get?_push_of_some _ q
  suffices fin : wpAny (model X.prog X.w) X.A (call (.builtin "sorted") [.ref s1.heap.objs.size]) (EP X pins σ Q) X.xe { s1 with heap := s1.heap.push { cls := .type "dict_values", data := .fields #[.ref a] } } by
    show wpAny _ _ (callWith cpos (.builtin "dict.values") [.ref a] [] []) _ X.xe s1
    exact method_meetsIn PySem.F.slot_dict_values PySem.F.entry_dict_values rfl (PySem.evalArgs_none ⟨rfl, hr.typeIs, PySem.F.args_dict_values_1 _, _, meets_dict_values_raw a c1, ⟨as, ep, hr⟩, PyProof.Rows.args_nil fin⟩)
  refine sorted_src (s := { s1 with heap := s1.heap.push { cls := .type "dict_values", data := .fields #[.ref a] } }) (KdlSrc.rawValues (es := as) (ep := ep)) (I2.ok.hd (c.calm hh)) ⟨⟨_, Heap.get?_push_size _ rfl, rfl, rfl⟩, hr.push _⟩ (by omega) (bs := is) (enc := fun i : Int => PyData.int i) (R := fun u i => RelV (.int i) u) (by omega) (fun i w b hP hb => ?_) ?_ ?_ (fun b _ => ?_) fun h1' h' tk p out cc hk1 hsz hk hnp eo ho hat => ?_
  · obtain ⟨hi, rfl⟩ := hP
    obtain ⟨e1, he1⟩ : ∃ e1, es[i]? = some e1 := ⟨_, List.getElem?_eq_getElem (by omega)⟩
    obtain ⟨pp, hp, _, r2⟩ := rde.get he1
    obtain ⟨_, _, k2⟩ := he i pp hp
    have e3 : e1.2 = .int b := by
      have := congrArg (fun l => l[i]?) ek
      simp only [List.getElem?_map, he1, hb, Option.map_some, Option.some.injEq] at this
      exact this
    rw [e3] at r2
    cases hv : pp.2.2 with
    | int j =>
      rw [hv] at r2 k2
      cases r2
      obtain ⟨t, ht⟩ := k2
      rw [ht]
      exact ⟨⟨t, rfl⟩, [], .int _ _⟩
    | _ => rw [hv] at r2; cases r2
  · exact PySem.W.AllAlike.of fun b b' => by simp [PySem.W.alike]
  · refine .inr fun d hd => ?_
    obtain ⟨b, _, rfl⟩ := List.mem_map.mp hd
    exact ⟨by simp, fun xs => by simp⟩
  · show X.A.units + 3 + (PyData.int b).depth < cLine
    simp only [PyData.depth]; omega
  · have el : (PySem.W.dataLe false fun i : Int => PyData.int i) = fun a b : Int => decide (a ≤ b) := by
      funext a b
      show (!PySem.W.dataLt (.int b) (.int a)) = _
      rw [PySem.W.dataLt_int]
      by_cases h : b < a
      · have h' : ¬ a ≤ b := by omega
        simp [h, h']
      · have h' : a ≤ b := by omega
        simp [h, h']
    rw [el] at eo
    have hv : Vals ((is.mergeSort).map V.int) out := by
      have : ∀ {us : List Value} {l : List Int}, PySem.W.EachIs (fun u i => RelV (.int i) u) us l → Vals (l.map V.int) us := fun {us l} h => by
        induction h with
        | nil => exact .nil
        | cons h1 _ ih => exact .cons h1 ih
      exact this eo
    have hHp : H1 p = none := (I2.kept (t' := s1.toks) hk1).hok.fresh hsz
    have ln : ((is.mergeSort).map V.int).length ≤ sizeLine := by rw [List.length_map, List.length_mergeSort]; omega
    refine ⟨.ref p, upd H1 p (.lst ((is.mergeSort).map V.int)), ?_, rfl, k _ _ ((mkL_new sr1 (RepA.ints _) hHp h1).back s1')⟩
    exact I2.laidN (t' := tk) hk hnp hHp ⟨ln, out, cc, hv, hat⟩
end
end T
set_option Elab.async false
set_option linter.all false
set_option maxRecDepth 100000
set_option maxHeartbeats 400000
namespace T
open PySem PySem.Spec PyProof.Rows L2 HT
structure JE (X : Cx) (tb : Tb) (C : SC) (R : Xc → MH → Prop) (ex : Ex) (x : Expr) : Prop where
  e : PE X x (tD X tb C R (wpE C R ex))
  t : PT X x (tDt X tb C R (wpB' C R ex))
  w : ∀ op vs pos, x = .BoolOp op vs pos → PW X x (tDt X tb C R (wpB' C R ex))
def plainT : Expr → Bool
  | .UnaryOp .Not _ _ => false
  | .BoolOp _ _ _ => false
  | .IfExp _ _ _ _ => false
  | .Compare _ _ _ _ => false
  | _ => true
theorem isTrue_of {x : Expr} {env : Env} (h : plainT x = true) (whole : Sem Value) : isTrue x env whole = (do let v ← whole; standAt x.pos; holding [v] (truthy v)) := by
  cases x <;> first
    | rfl
    | cases h
    | skip
  rename_i op a p
  cases op <;> first
    | rfl
    | cases h
theorem JE.mk' {X : Cx} {C : SC} {R : Xc → MH → Prop} {e : Ex} {x : Expr} (h : PE X x (tD X tb C R (wpE C R e))) (hp : plainT x = true) : JE X tb C R e x := ⟨h, jt_val h (isTrue_of hp), fun op vs pos z => by subst z; cases hp⟩
theorem JE.mk2 {X : Cx} {C : SC} {R : Xc → MH → Prop} {e : Ex} {x : Expr} (h : PE X x (tD X tb C R (wpE C R e))) (t : PT X x (tDt X tb C R (wpB' C R e))) (hp : ∀ op vs pos, x ≠ .BoolOp op vs pos) : JE X tb C R e x := ⟨h, t, fun op vs pos z => absurd z (hp op vs pos)⟩
inductive JL (X : Cx) (tb : Tb) (C : SC) (R : Xc → MH → Prop) : Es → List Expr → Prop
  | nil : JL X tb C R .nil []
  | cons {e : Ex} {r : Es} {x : Expr} {xs : List Expr} : good x = true → JE X tb C R e x → JL X tb C R r xs → JL X tb C R (.cons e r) (x :: xs)
section
variable {X : Cx}
theorem of_rc' {prog : Program} {w : World} {A : Around} {E : Value → Shared → Prop} {s : Shared} {Q : Value → Shared → Prop} {a b : Value} {k : Bool} (h : SeqAt.RcAt A s a b k) (hq : Q (.bool k) s) : wpAny (model prog w) A (compareOp .Eq a b) Q E s := h prog w E Q hq
theorem of_rcne' {prog : Program} {w : World} {A : Around} {E : Value → Shared → Prop} {s : Shared} {Q : Value → Shared → Prop} {a b : Value} {k : Bool} (h : SeqAt.RcNeAt A s a b k) (hq : Q (.bool k) s) : wpAny (model prog w) A (compareOp .NotEq a b) Q E s := h prog w E Q hq
/-- == and != against the empty list -/
def rNilL (X : Cx) (ne : Bool) : R2 := fun x y H Q => ∃ a b vs, x = .ref a ∧ y = .ref b ∧ SqL X.K H a vs ∧ SqL X.K H b [] ∧ Q (.bl (vs.isEmpty != ne)) H
def rNilT (X : Cx) (ne : Bool) : R2 := fun x y H Q => ∃ a b vs, x = .ref a ∧ y = .ref b ∧ SqT X.K H a vs ∧ SqT X.K H b [] ∧ Q (.bl (vs.isEmpty != ne)) H
theorem Vals.nilR {us : List Value} (r : Vals [] us) : us = [] := by cases r; rfl
theorem op_nilL (hu : X.A.units + 65 < cLine) : ∀ ne, OpR X (compareOp (if ne then CmpOp.NotEq else .Eq)) (rNilL X ne) := by
  intro ne pins s σ H x y v u Q I rx ry h
  obtain ⟨a, b, vs, rfl, rfl, ha, hb, q⟩ := h
  cases rx
  cases ry
  obtain ⟨its, r, pl, hz⟩ := I.list ha
  obtain ⟨its2, r2, pl2, hz2⟩ := I.list hb
  obtain rfl := Vals.nilR r2
  have fin : ∀ k : Bool, k = (vs.isEmpty != ne) → EP X pins σ Q (.bool k) s := fun k e => by subst e; exact ⟨.bl _, H, I, rfl, q⟩
  cases vs with
  | nil =>
    obtain rfl := Vals.nilR r
    cases ne with
    | false => exact of_rc' (SeqAt.RcAt.lists (e := fun _ => true) pl.isList pl2.isList rfl (by omega) (fun j h1 _ => absurd h1 (by simp))) (fin _ (by simp))
    | true => exact of_rcne' (SeqAt.RcNeAt.lists (e := fun _ => true) pl.isList pl2.isList rfl (by omega) (fun j h1 _ => absurd h1 (by simp))) (fin _ (by simp))
  | cons y ys =>
    have hl := r.length
    have hs : (its.toArray.size != (#[] : Array Value).size) = true := by
      cases its with
      | nil => cases r
      | cons => simp
    cases ne with
    | false => exact of_rc' (SeqAt.RcAt.lists_lengths pl.isList pl2.isList hs (by omega)) (fin _ (by simp))
    | true => exact of_rcne' (SeqAt.RcNeAt.lists_lengths pl.isList pl2.isList hs (by omega)) (fin _ (by simp))
theorem op_nilT (hu : X.A.units + 65 < cLine) : ∀ ne, OpR X (compareOp (if ne then CmpOp.NotEq else .Eq)) (rNilT X ne) := by
  intro ne pins s σ H x y v u Q I rx ry h
  obtain ⟨a, b, vs, rfl, rfl, ha, hb, q⟩ := h
  cases rx
  cases ry
  obtain ⟨its, r, pl, hz⟩ := I.tuple ha
  obtain ⟨its2, r2, pl2, hz2⟩ := I.tuple hb
  obtain rfl := Vals.nilR r2
  have hl := r.length
  have e1 : vs.isEmpty = (its.toArray.size == (#[] : Array Value).size) := by
    cases vs with
    | nil => obtain rfl := Vals.nilR r; rfl
    | cons y ys =>
      cases its with
      | nil => cases r
      | cons => simp
  have fin : ∀ k : Bool, k = (vs.isEmpty != ne) → EP X pins σ Q (.bool k) s := fun k e => by subst e; exact ⟨.bl _, H, I, rfl, q⟩
  cases ne with
  | false => exact of_rc' (SeqAt.RcAt.tuples (e := fun _ => true) pl pl2 (by omega) (fun j _ h1 => absurd h1 (by simp))) (fin _ (by rw [e1]; simp))
  | true => exact of_rcne' (SeqAt.RcNeAt.tuples (e := fun _ => true) pl pl2 (by omega) (fun j _ h1 => absurd h1 (by simp))) (fin _ (by rw [e1]; simp))
end
section
variable {P : Nat → Option Fn} {G : Nat → Option D} {tb : Tb} {n : Nat} {e0 : Option (Addr × Xc)} {N : List Str} {sc : Scope} {X : Cx} {R : Xc → MH → Prop} {C : SC}
theorem pc_of {o : CmpOp} {r : R2} {l y : Expr} {tl ty : TE} {pos : Pos} (ho : OpR X (compareOp o) r) (hl : PE X l tl) (hy : PE X y ty) (hm : behindInMarks o y = false) {ex : Ex} {i : ∀ σ H Q, tD X tb C R (wpE C R ex) σ H Q → tl σ H fun x H1 => ty σ H1 fun y H2 => r x y H2 Q}
    {i2 : ∀ σ H Q, tDt X tb C R (wpB' C R ex) σ H Q → tl σ H fun x H1 => ty σ H1 fun y H2 => r x y H2 fun z H3 => ∃ k, z = .bl k ∧ Q k H3} : JE X tb C R ex (.Compare l [o] [y] pos) :=
  .mk2 (PE_imp (pe_cmpR ho hl hy hm) i) (PT_imp (pt_cmpR ho hl hy hm) i2) (fun _ _ _ z => nomatch z)
theorem eqn_readL {m ne : Bool} {e : Ex} {σ : L2.St} {H : Hp} {Q : VK} {F Z : Hp} {M : MH} {ρ : En} {Q' : D → MH → Prop} (sr : SR X.K F M Z H) (re : RX X tb C R F Z σ ρ) (hw : wpE C R (.px m (.eqn ne false) (.cons e .nil)) ρ M Q') (k : ∀ b M1 F1 H1, Same F F1 → SR X.K F1 M1 Z H1 → Q' (.bl b) M1 → Q (.bl b) H1) :
    tD X tb C R (wpE C R e) σ H fun x H1 => 0 ≤ sizeLine ∧ ∀ p, H1 p = none → rNilL X ne x (.ref p) (upd H1 p (.lst [])) Q := by
  simp only [wpE, wpEs] at hw
  refine ⟨F, M, Z, ρ, _, sr, re, hw, fun x H1 ⟨F1, M1, dx, s1, sr1, rx, h1⟩ => ⟨Nat.zero_le _, fun p hp => ?_⟩⟩
  simp only [pxD] at h1
  split at h1
  case h_2 => exact h1.elim
  rename_i xs hv
  obtain ⟨a, vs, rfl, ha, ra⟩ := vw_lst sr1 rx hv
  obtain ⟨sF, sr2⟩ := sr1.layF (o := .lst []) hp
  refine ⟨a, p, vs, rfl, rfl, SqL.of (by rw [upd_ne (ne_of_none ha hp)]; exact ha), SqL.of upd_same, ?_⟩
  have e1 : vs.isEmpty = xs.isEmpty := by
    have := ra.len
    cases vs <;> cases xs <;> simp_all
  rw [e1]
  exact k _ _ _ _ (s1.trans sF) sr2 h1
theorem eqn_readT {m ne : Bool} {e : Ex} {σ : L2.St} {H : Hp} {Q : VK} {F Z : Hp} {M : MH} {ρ : En} {Q' : D → MH → Prop} (sr : SR X.K F M Z H) (re : RX X tb C R F Z σ ρ) (hw : wpE C R (.px m (.eqn ne true) (.cons e .nil)) ρ M Q') (k : ∀ b M1 F1 H1, Same F F1 → SR X.K F1 M1 Z H1 → Q' (.bl b) M1 → Q (.bl b) H1) :
    tD X tb C R (wpE C R e) σ H fun x H1 => tD X tb C R (wpE C R (.tup .nil)) σ H1 fun y H2 => rNilT X ne x y H2 Q := by
  simp only [wpE, wpEs] at hw
  refine ⟨F, M, Z, ρ, _, sr, re, hw, fun x H1 ⟨F1, M1, dx, s1, sr1, rx, h1⟩ => ?_⟩
  simp only [pxD] at h1
  split at h1
  case h_2 => exact h1.elim
  rename_i xs hv
  obtain ⟨a, vs, rfl, ha, ra⟩ := vw_tup rx hv
  refine ⟨F1, M1, Z, ρ, fun d M2 => d = .tup [] ∧ M2 = M1, sr1, re.mono s1, by simp only [wpE, wpEs]; exact ⟨Nat.zero_le _, trivial, trivial⟩, fun y H2 ⟨F2, M2, dy, s2, sr2, ry, e1, e2⟩ => ?_⟩
  subst e1 e2
  cases ry with
  | tup hb rb =>
  cases rb
  refine ⟨a, _, vs, rfl, rfl, SqT.mono sr2.f (ha.mono s2).sqt, SqT.mono sr2.f hb.sqt, ?_⟩
  have e1 : vs.isEmpty = xs.isEmpty := by
    have := ra.len
    cases vs <;> cases xs <;> simp_all
  rw [e1]
  exact k _ _ _ _ (s1.trans s2) sr2 h1
theorem pe_lst0 {pos : Pos} : PE X (.List [] pos) (fun _ H1 Q => 0 ≤ sizeLine ∧ ∀ p, H1 p = none → Q (.ref p) (upd H1 p (.lst []))) := PE_imp (pe_lst pa_nil) fun σ H Q h => h
theorem je_eqnL (hu : X.A.units + 65 < cLine) {m ne : Bool} {e : Ex} {l : Expr} {pos p2 : Pos} (ha : PE X l (tD X tb C R (wpE C R e))) : JE X tb C R (.px m (.eqn ne false) (.cons e .nil)) (.Compare l [if ne then CmpOp.NotEq else .Eq] [.List [] p2] pos) := by
  refine pc_of (op_nilL hu ne) ha pe_lst0 (by cases ne <;> rfl) (i := fun σ H Q ⟨F, M, Z, ρ, Q', sr, re, hw, k⟩ => ?_) (i2 := fun σ H Q ⟨F, M, Z, ρ, Q', sr, re, hw, k⟩ => ?_)
  · exact eqn_readL sr re hw fun b M1 F1 H1 s1 sr1 q => k _ _ ⟨F1, M1, _, s1, sr1, .bl b, q⟩
  · exact eqn_readL sr re hw fun b M1 F1 H1 s1 sr1 q => ⟨b, rfl, k _ _ ⟨F1, M1, s1, sr1, q⟩⟩
theorem je_eqnT (hu : X.A.units + 65 < cLine) {m ne : Bool} {e : Ex} {l : Expr} {pos p2 : Pos} {kk : Nat} (ha : PE X l (tD X tb C R (wpE C R e))) : JE X tb C R (.px m (.eqn ne true) (.cons e .nil)) (.Compare l [if ne then CmpOp.NotEq else .Eq] [.Tuple [] kk p2] pos) := by
  refine pc_of (op_nilT hu ne) ha (je_tup (tb := tb) (C := C) (R := R) ja_nil) (by cases ne <;> rfl) (i := fun σ H Q ⟨F, M, Z, ρ, Q', sr, re, hw, k⟩ => ?_) (i2 := fun σ H Q ⟨F, M, Z, ρ, Q', sr, re, hw, k⟩ => ?_)
  · exact eqn_readT sr re hw fun b M1 F1 H1 s1 sr1 q => k _ _ ⟨F1, M1, _, s1, sr1, .bl b, q⟩
  · exact eqn_readT sr re hw fun b M1 F1 H1 s1 sr1 q => ⟨b, rfl, k _ _ ⟨F1, M1, s1, sr1, q⟩⟩
theorem je_dct0K {m : Bool} {pos : Pos} : JE X tb C R (.px m (.dct0 false) .nil) (.Dict [] [] pos) := by
  refine .mk' (PE_imp pe_dnewK fun σ H Q ⟨F, M, Z, ρ, Q', sr, re, hw, k⟩ => ?_) rfl
  simp only [wpE, wpEs, pxD] at hw
  intro p hp
  cases m with
  | true =>
    rw [if_pos rfl] at hw
    obtain ⟨hF, hM, hZ⟩ := sr.new hp
    exact k _ _ ⟨F, _, .ref p, Same.refl F, sr.layM (c := .dct [] []) hp (.dK (kvs := []) .nil), .ref p, hw p hM⟩
  | false =>
    rw [if_neg (by decide)] at hw
    obtain ⟨sF, sr2⟩ := sr.layF (o := .dK []) hp
    exact k _ _ ⟨_, M, .dct [] [], sF, sr2, .dK (kvs := []) upd_same .nil, hw⟩
def rCatC (X : Cx) (m : Bool) : R2 := fun x y H Q => ∃ F M Z dx dy Q' xs ys, SR X.K F M Z H ∧ Rep X.K F x dx ∧ Rep X.K F y dy ∧ vw M dx = .lst xs ∧ vw M dy = .lst ys ∧ xs.length + ys.length ≤ sizeLine ∧ mkL m (xs ++ ys) M Q' ∧ ∀ v H', KQ X.K F Z Q' v H' → Q v H'
theorem or_catC (m : Bool) : OpR X (binaryOp .Add) (rCatC X m) := by
  intro pins s σ H x y v u Q I rx ry h
  obtain ⟨F, M, Z, dx, dy, Q', xs, ys, sr, hx, hy, e1, e2, hz, q, k⟩ := h
  obtain ⟨a, vs, rfl, ha, ra⟩ := vw_lst sr hx e1
  obtain ⟨b, ws, rfl, hb, rb⟩ := vw_lst sr hy e2
  exact op_cat pins s σ H _ _ v u Q I rx ry ⟨a, b, vs, ws, rfl, rfl, ha, hb, by rw [ra.len, rb.len]; exact hz, fun p hp => k _ _ (mkL_new sr (ra.app rb) hp q)⟩
theorem je_cat {m : Bool} {e e2 : Ex} {l r : Expr} {pos : Pos} (ha : PE X l (tD X tb C R (wpE C R e))) (hb : PE X r (tD X tb C R (wpE C R e2))) : JE X tb C R (.px m .cat (.cons e (.cons e2 .nil))) (.BinOp l .Add r pos) := by
  refine .mk' (PE_imp (pe_op (or_catC m) ha hb) fun σ H Q h => ?_) rfl
  obtain ⟨F, M, Z, ρ, Q', sr, re, hw, k⟩ := h
  simp only [wpE, wpEs] at hw
  refine ⟨F, M, Z, ρ, _, sr, re, hw, fun x H1 ⟨F1, M1, dx, s1, sr1, rx, h1⟩ => ⟨F1, M1, Z, ρ, _, sr1, re.mono s1, h1, fun y H2 ⟨F2, M2, dy, s2, sr2, ry, h2⟩ => ?_⟩⟩
  simp only [pxD] at h2
  split at h2
  case h_2 => exact h2.elim
  rename_i xs ys e1 e2
  exact ⟨F2, M2, Z, dx, dy, Q', xs, ys, sr2, rx.mono s2, ry, e1, e2, h2.1, h2.2, tD_then (s1.trans s2) k⟩
theorem din_read {m neg : Bool} {e e2 : Ex} {σ : L2.St} {H : Hp} {Q : VK} {F Z : Hp} {M : MH} {ρ : En} {Q' : D → MH → Prop} (sr : SR X.K F M Z H) (re : RX X tb C R F Z σ ρ) (hw : wpE C R (.px m (.din neg) (.cons e (.cons e2 .nil))) ρ M Q') (k : ∀ b M1 F1 H1, Same F F1 → SR X.K F1 M1 Z H1 → Q' (.bl b) M1 → Q (.bl b) H1) :
    tD X tb C R (wpE C R e) σ H fun x H1 => tD X tb C R (wpE C R e2) σ H1 fun y H2 => rDin X neg x y H2 Q := by
  simp only [wpE, wpEs] at hw
  refine ⟨F, M, Z, ρ, _, sr, re, hw, fun x H1 ⟨F1, M1, dx, s1, sr1, rx, h1⟩ => ⟨F1, M1, Z, ρ, _, sr1, re.mono s1, h1, fun y H2 ⟨F2, M2, dy, s2, sr2, ry, h2⟩ => ?_⟩⟩
  simp only [pxD] at h2
  exact ⟨F2, M2, Z, dx, dy, fun b => Q' (.bl b) M2, sr2, rx.mono s2, ry, h2, fun b q => k b _ _ _ (s1.trans s2) sr2 q⟩
theorem je_din (hu : X.A.units + 65 < cLine) {m neg : Bool} {e e2 : Ex} {l r : Expr} {pos : Pos} (hm : behindInMarks (if neg then CmpOp.NotIn else .In) r = false) (ha : PE X l (tD X tb C R (wpE C R e))) (hb : PE X r (tD X tb C R (wpE C R e2))) : JE X tb C R (.px m (.din neg) (.cons e (.cons e2 .nil))) (.Compare l [if neg then CmpOp.NotIn else .In] [r] pos) := by
  refine pc_of (op_din (by omega) neg) ha hb hm (i := fun σ H Q ⟨F, M, Z, ρ, Q', sr, re, hw, k⟩ => ?_) (i2 := fun σ H Q ⟨F, M, Z, ρ, Q', sr, re, hw, k⟩ => ?_)
  · exact din_read sr re hw fun b M1 F1 H1 s1 sr1 q => k _ _ ⟨F1, M1, _, s1, sr1, .bl b, q⟩
  · exact din_read sr re hw fun b M1 F1 H1 s1 sr1 q => ⟨b, rfl, k _ _ ⟨F1, M1, s1, sr1, q⟩⟩
theorem je_dtget (hu : X.A.units + 65 < cLine) {m : Bool} {e e2 : Ex} {l r : Expr} {pos : Pos} (hs : noSlice r = true) (ha : PE X l (tD X tb C R (wpE C R e))) (hb : PE X r (tD X tb C R (wpE C R e2))) : JE X tb C R (.px m .dget (.cons e (.cons e2 .nil))) (.Subscript l r pos) := by
  refine .mk' (PE_imp (pe_dtget (by omega) ha hb (plainIx_of hs)) fun σ H Q ⟨F, M, Z, ρ, Q', sr, re, hw, k⟩ => ?_) rfl
  simp only [wpE, wpEs] at hw
  refine ⟨F, M, Z, ρ, _, sr, re, hw, fun x H1 ⟨F1, M1, dx, s1, sr1, rx, h1⟩ => ⟨F1, M1, Z, ρ, _, sr1, re.mono s1, h1, fun y H2 ⟨F2, M2, dy, s2, sr2, ry, h2⟩ => ?_⟩⟩
  simp only [pxD] at h2
  exact ⟨F2, M2, Z, dy, dx, fun d => Q' d M2, sr2, ry, rx.mono s2, h2, fun v d rd q => k _ _ ⟨F2, M2, d, s1.trans s2, sr2, rd, q⟩⟩
theorem pe_dnewD {pos : Pos} : PE X (.Dict [] [] pos) (fun _ H Q => ∀ p, H p = none → Q (.ref p) (upd H p (dtO p [] 0))) := ⟨fun pins s σ H Q I h =>
  wpAny_Dict_empty ⟨.ref s.heap.objs.size, _, I.laid (a := s.heap.objs.size) (o := dtO s.heap.objs.size [] 0) (t' := s.toks) (fun _ _ q => Heap.get?_push_of_some _ q) (Nat.le_refl _)
    (dtO_ok ⟨beq_eq_false_iff_ne.mpr (Ne.symm (Nat.ne_of_lt I.big)), Nat.zero_le _, [], .nil, _, #[], Heap.get?_push_size _ rfl, ⟨rfl, rfl, rfl⟩, rfl, fun _ _ => rfl, List.nodup_nil⟩), rfl, h _ (I.hok.fresh (Nat.le_refl _))⟩⟩
theorem je_dct0T {m : Bool} {pos : Pos} : JE X tb C R (.px m (.dct0 true) .nil) (.Dict [] [] pos) := by
  refine .mk' (PE_imp pe_dnewD fun σ H Q ⟨F, M, Z, ρ, Q', sr, re, hw, k⟩ => ?_) rfl
  simp only [wpE, wpEs, pxD] at hw
  intro p hp
  obtain ⟨hF, hM, hZ⟩ := sr.new hp
  exact k _ _ ⟨F, _, .ref p, Same.refl F, sr.layM (c := .dt [] 0) hp (.dt .nil), .ref p, hw p hM⟩
theorem je_ltT (hu : X.A.units + 65 < cLine) {m : Bool} {e e2 : Ex} {l r : Expr} {pos : Pos} (hm : behindInMarks .Lt r = false) (ha : PE X l (tD X tb C R (wpE C R e))) (hb : PE X r (tD X tb C R (wpE C R e2))) : JE X tb C R (.px m .ltT (.cons e (.cons e2 .nil))) (.Compare l [.Lt] [r] pos) := by
  have rd : ∀ {σ H} {Q : VK} {F Z : Hp} {M : MH} {ρ : En} {Q' : D → MH → Prop}, SR X.K F M Z H → RX X tb C R F Z σ ρ → wpE C R (.px m .ltT (.cons e (.cons e2 .nil))) ρ M Q' → (∀ b M1 F1 H1, Same F F1 → SR X.K F1 M1 Z H1 → Q' (.bl b) M1 → Q (.bl b) H1) →
      tD X tb C R (wpE C R e) σ H fun x H1 => tD X tb C R (wpE C R e2) σ H1 fun y H2 => rLtT X x y H2 Q := fun {σ H Q F Z M ρ Q'} sr re hw k => by
    simp only [wpE, wpEs] at hw
    refine ⟨F, M, Z, ρ, _, sr, re, hw, fun x H1 ⟨F1, M1, dx, s1, sr1, rx, h1⟩ => ⟨F1, M1, Z, ρ, _, sr1, re.mono s1, h1, fun y H2 ⟨F2, M2, dy, s2, sr2, ry, h2⟩ => ?_⟩⟩
    simp only [pxD] at h2
    split at h2 <;> first
      | exact h2.elim
      | contradiction
      | skip
    rename_i heq
    simp only [List.cons.injEq, and_true] at heq
    obtain ⟨rfl, rfl⟩ := heq
    split at h2
    case h_2 => exact h2.elim
    rename_i a b q1 q2
    obtain rfl := ints_of q1
    obtain rfl := ints_of q2
    exact ⟨F2, M2, Z, a, b, sr2, rx.mono s2, ry, k _ _ _ _ (s1.trans s2) sr2 h2⟩
  refine pc_of (op_ltT hu) ha hb hm (i := fun σ H Q ⟨F, M, Z, ρ, Q', sr, re, hw, k⟩ => ?_) (i2 := fun σ H Q ⟨F, M, Z, ρ, Q', sr, re, hw, k⟩ => ?_)
  · exact rd sr re hw fun b M1 F1 H1 s1 sr1 q => k _ _ ⟨F1, M1, _, s1, sr1, .bl b, q⟩
  · exact rd sr re hw fun b M1 F1 H1 s1 sr1 q => ⟨b, rfl, k _ _ ⟨F1, M1, s1, sr1, q⟩⟩
theorem pe_szs (z : SzOK X.K X.w X.mg) (hg : glB sc "SIZES" = true) (c : CK P G tb n e0 N sc X) {p : Pos} : ∃ a t3 t4 es n, PE X (.Name "SIZES" p) (tC (.ref a)) ∧ KDict X.K X.w a es n ∧ PySem.W.nsIn X.K a "triple" = some (some (.ref t3)) ∧ PySem.W.nsIn X.K a "quadruple" = some (some (.ref t4)) ∧ (∀ z : Str, z ≠ "triple" → z ≠ "quadruple" → PySem.W.nsIn X.K a z = some none) ∧
    (∀ F, TupS X.K F t3 [.int 3, .int 3]) ∧ ∀ F, TupS X.K F t4 [.int 4, .int 2] := by
  obtain ⟨a, t3, t4, es, n, hm, hl, hk, hs, r⟩ := z.ex
  exact ⟨a, t3, t4, es, n, pe_glob (c.gl hg) hm rfl (by decide), ⟨hl, hk, hs⟩, r⟩
theorem je_sin (c : CK P G tb n e0 N sc X) (z : SzOK X.K X.w X.mg) (hg : glB sc "SIZES" = true) {m neg : Bool} {e : Ex} {l : Expr} {p pos : Pos} (ha : PE X l (tD X tb C R (wpE C R e))) : JE X tb C R (.px m (.sin neg) (.cons e .nil)) (.Compare l [if neg then CmpOp.NotIn else .In] [.Name "SIZES" p] pos) := by
  obtain ⟨a, t3, t4, es, n, pn, KD, n3, n4, no, _⟩ := pe_szs z hg c (p := p)
  have key : ∀ w : Str, ∃ r, PySem.W.nsIn X.K a w = some r ∧ r.isSome = decide (w = "triple" ∨ w = "quadruple") := fun w => by
    by_cases h3 : w = "triple"
    · subst h3; exact ⟨_, n3, by simp⟩
    · by_cases h4 : w = "quadruple"
      · subst h4; exact ⟨_, n4, by simp⟩
      · exact ⟨_, no w h3 h4, by simp [h3, h4]⟩
  have rd : ∀ {σ H} {Q : VK} {F Z : Hp} {M : MH} {ρ : En} {Q' : D → MH → Prop}, SR X.K F M Z H → RX X tb C R F Z σ ρ → wpE C R (.px m (.sin neg) (.cons e .nil)) ρ M Q' → (∀ b M1 F1 H1, Same F F1 → SR X.K F1 M1 Z H1 → Q' (.bl b) M1 → Q (.bl b) H1) →
      tD X tb C R (wpE C R e) σ H fun x H1 => (tC (.ref a) : TE) σ H1 fun y H2 => ∃ (w : Str) (r : Option Value), x = .str w ∧ y = .ref a ∧ PySem.W.nsIn X.K a w = some r ∧ Q (.bl (r.isSome != neg)) H2 := fun {σ H Q F Z M ρ Q'} sr re hw k => by
    simp only [wpE, wpEs] at hw
    refine ⟨F, M, Z, ρ, _, sr, re, hw, fun x H1 ⟨F1, M1, dx, s1, sr1, rx, h1⟩ => ?_⟩
    simp only [pxD] at h1
    split at h1 <;> first
      | exact h1.elim
      | contradiction
      | skip
    rename_i hpx heq
    cases hpx
    simp only [List.cons.injEq, and_true] at heq
    subst heq
    cases rx
    obtain ⟨r, e1, e2⟩ := key _
    rw [← e2] at h1
    exact ⟨_, r, rfl, rfl, e1, k _ _ _ _ s1 sr1 h1⟩
  cases neg with
  | false =>
    refine pc_of (op_in_kd KD) ha pn rfl (i := fun σ H Q ⟨F, M, Z, ρ, Q', sr, re, hw, k⟩ => ?_) (i2 := fun σ H Q ⟨F, M, Z, ρ, Q', sr, re, hw, k⟩ => ?_)
    · have := rd (Q := Q) sr re hw fun b M1 F1 H1 s1 sr1 q => k _ _ ⟨F1, M1, _, s1, sr1, .bl b, q⟩
      simpa using this
    · have := rd (Q := fun z H3 => ∃ k, z = .bl k ∧ Q k H3) sr re hw fun b M1 F1 H1 s1 sr1 q => ⟨b, rfl, k _ _ ⟨F1, M1, s1, sr1, q⟩⟩
      simpa using this
  | true =>
    refine pc_of (op_notIn_kd KD) ha pn rfl (i := fun σ H Q ⟨F, M, Z, ρ, Q', sr, re, hw, k⟩ => ?_) (i2 := fun σ H Q ⟨F, M, Z, ρ, Q', sr, re, hw, k⟩ => ?_)
    · have := rd (Q := Q) sr re hw fun b M1 F1 H1 s1 sr1 q => k _ _ ⟨F1, M1, _, s1, sr1, .bl b, q⟩
      simpa using this
    · have := rd (Q := fun z H3 => ∃ k, z = .bl k ∧ Q k H3) sr re hw fun b M1 F1 H1 s1 sr1 q => ⟨b, rfl, k _ _ ⟨F1, M1, s1, sr1, q⟩⟩
      simpa using this
theorem je_sget (c : CK P G tb n e0 N sc X) (z : SzOK X.K X.w X.mg) (hg : glB sc "SIZES" = true) {m : Bool} {e : Ex} {r : Expr} {p pos : Pos} (hs : noSlice r = true) (ha : PE X r (tD X tb C R (wpE C R e))) : JE X tb C R (.px m .sget (.cons e .nil)) (.Subscript (.Name "SIZES" p) r pos) := by
  obtain ⟨a, t3, t4, es, n, pn, KD, n3, n4, no, k3, k4⟩ := pe_szs z hg c (p := p)
  refine .mk' (PE_imp (pe_ix ix_kdict pn ha (plainIx_of hs)) fun σ H Q ⟨F, M, Z, ρ, Q', sr, re, hw, k⟩ => ?_) rfl
  simp only [wpE, wpEs] at hw
  refine ⟨F, M, Z, ρ, _, sr, re, hw, fun x H1 ⟨F1, M1, dx, s1, sr1, rx, h1⟩ => ?_⟩
  simp only [pxD] at h1
  split at h1 <;> first
    | exact h1.elim
    | contradiction
    | skip
  rename_i w _ heq
  simp only [List.cons.injEq, and_true] at heq
  subst heq
  cases rx
  by_cases h3 : w = "triple"
  · subst h3
    rw [if_pos rfl] at h1
    exact ⟨a, _, .ref t3, rfl, rfl, ⟨es, n, _, KD.at_, KD.lit, n3, rfl⟩, k _ _ ⟨F1, M1, _, s1, sr1, .tup (k3 F1) (.cons (.int 3) (.cons (.int 3) .nil)), h1⟩⟩
  · rw [if_neg h3] at h1
    by_cases h4 : w = "quadruple"
    · subst h4
      rw [if_pos rfl] at h1
      exact ⟨a, _, .ref t4, rfl, rfl, ⟨es, n, _, KD.at_, KD.lit, n4, rfl⟩, k _ _ ⟨F1, M1, _, s1, sr1, .tup (k4 F1) (.cons (.int 4) (.cons (.int 2) .nil)), h1⟩⟩
    · rw [if_neg h4] at h1
      exact h1.elim
/-- a form of its own -/
theorem jpx (c : CK P G tb n e0 N sc X) (hh : tb.hot = false) {m : Bool} {p : Px} {es : Es} {x : Expr} {xs : List Expr} (h : pxA tb.sz p sc x = some xs) (hl : JL X tb C R es xs) : JE X tb C R (.px m p es) x := by
  cases p with
  | eqn ne tup =>
    simp only [pxA] at h
    split at h
    case h_2 => cases h
    rename_i l ops rs pos
    obtain ⟨op, r, rfl, rfl⟩ : ∃ op r, ops = [op] ∧ rs = [r] := by
      match ops, rs, h with
      | [op], [r], _ => exact ⟨op, r, rfl, rfl⟩
    simp only at h
    by_cases hop : op = (if ne then CmpOp.NotEq else .Eq) ∧ noStar l = true
    · rw [if_pos hop] at h
      obtain ⟨rfl, hs⟩ := hop
      split at h
      · cases h
        cases hl with
        | cons g1 j1 r1 =>
          cases r1
          exact je_eqnL c.hu j1.e
      · cases h
        cases hl with
        | cons g1 j1 r1 =>
          cases r1
          exact je_eqnT c.hu j1.e
      · cases h
    · rw [if_neg hop] at h; cases h
  | cat =>
    simp only [pxA] at h
    split at h
    case h_2 => cases h
    rename_i l op r pos
    by_cases hop : op = .Add
    · rw [if_pos hop] at h
      subst hop
      cases h
      cases hl with
      | cons g1 j1 r1 =>
        cases r1 with
        | cons g2 j2 r2 =>
          cases r2
          exact je_cat j1.e j2.e
    · rw [if_neg hop] at h; cases h
  | dct0 t =>
    simp only [pxA] at h
    split at h
    case h_2 => cases h
    cases h
    cases hl
    cases t with
    | false => exact je_dct0K
    | true => exact je_dct0T
  | din neg =>
    simp only [pxA] at h
    split at h
    case h_2 => cases h
    rename_i l op r pos
    by_cases hop : op = (if neg then CmpOp.NotIn else .In) ∧ behindInMarks op r = false
    · rw [if_pos hop] at h
      obtain ⟨rfl, hs⟩ := hop
      cases h
      cases hl with
      | cons g1 j1 r1 =>
        cases r1 with
        | cons g2 j2 r2 =>
          cases r2
          exact je_din c.hu hs j1.e j2.e
    · rw [if_neg hop] at h; cases h
  | dget =>
    simp only [pxA] at h
    split at h
    case h_2 => cases h
    rename_i l r pos
    by_cases hop : noSlice r = true
    · rw [if_pos hop] at h
      cases h
      cases hl with
      | cons g1 j1 r1 =>
        cases r1 with
        | cons g2 j2 r2 =>
          cases r2
          exact je_dtget c.hu hop j1.e j2.e
    · rw [if_neg hop] at h; cases h
  | sortT =>
    simp only [pxA] at h
    split at h
    case h_2 => cases h
    rename_i nm p e pos
    by_cases hq : nm = "sorted" ∧ glB sc nm = true ∧ noStar e = true
    · rw [if_pos hq] at h
      obtain ⟨rfl, hg, hs⟩ := hq
      cases h
      cases hl with
      | cons g1 j1 r1 =>
        cases r1
        exact .mk' (px_callB c (cb_sortT (c.calm hh) c.hu m) (by decide) hg (show bootBuiltins "sorted" = some (.builtin "sorted") by decide +kernel) (by decide) (by decide) (fun y hy => by rw [List.mem_singleton.mp hy]; exact hs) (ja_cons hs j1.e ja_nil)) rfl
    · rw [if_neg hq] at h; cases h
  | sortD =>
    simp only [pxA] at h
    split at h
    case h_2 => cases h
    rename_i nm p e pos
    by_cases hq : nm = "sorted" ∧ glB sc nm = true ∧ noStar e = true
    · rw [if_pos hq] at h
      obtain ⟨rfl, hg, hs⟩ := hq
      cases h
      cases hl with
      | cons g1 j1 r1 =>
        cases r1
        exact .mk' (px_callB c (cb_sortD c.hu m) (by decide) hg (show bootBuiltins "sorted" = some (.builtin "sorted") by decide +kernel) (by decide) (by decide) (fun y hy => by rw [List.mem_singleton.mp hy]; exact hs) (ja_cons hs j1.e ja_nil)) rfl
    · rw [if_neg hq] at h; cases h
  | minD =>
    simp only [pxA] at h
    split at h
    case h_2 => cases h
    rename_i nm p e pos
    by_cases hq : nm = "min" ∧ glB sc nm = true ∧ noStar e = true
    · rw [if_pos hq] at h
      obtain ⟨rfl, hg, hs⟩ := hq
      cases h
      cases hl with
      | cons g1 j1 r1 =>
        cases r1
        exact .mk' (px_callB c (cb_minD (c.calm hh) c.hu m) (by decide) hg (show bootBuiltins "min" = some (.builtin "min") by decide +kernel) (by decide) (by decide) (fun y hy => by rw [List.mem_singleton.mp hy]; exact hs) (ja_cons hs j1.e ja_nil)) rfl
    · rw [if_neg hq] at h; cases h
  | minT =>
    simp only [pxA] at h
    split at h
    case h_2 => cases h
    rename_i nm p e e2 pos
    by_cases hq : nm = "min" ∧ glB sc nm = true ∧ noStar e = true ∧ noStar e2 = true
    · rw [if_pos hq] at h
      obtain ⟨rfl, hg, hs, hs2⟩ := hq
      cases h
      cases hl with
      | cons g1 j1 r1 =>
        cases r1 with
        | cons g2 j2 r2 =>
          cases r2
          exact .mk' (px_callB c (cb_minT (c.calm hh) c.hu m) (by decide) hg (show bootBuiltins "min" = some (.builtin "min") by decide +kernel) (by decide) (by decide) (fun y hy => by
            rcases List.mem_cons.mp hy with rfl | hy
            · exact hs
            · rw [List.mem_singleton.mp hy]; exact hs2) (ja_cons hs j1.e (ja_cons hs2 j2.e ja_nil))) rfl
    · rw [if_neg hq] at h; cases h
  | maxlen =>
    simp only [pxA] at h
    split at h
    case h_2 => cases h
    rename_i nm p e k l lp kp pos
    by_cases hq : nm = "max" ∧ k = "key" ∧ l = "len" ∧ glB sc nm = true ∧ glB sc l = true ∧ noStar e = true
    · rw [if_pos hq] at h
      obtain ⟨rfl, rfl, rfl, hg, hg2, hs⟩ := hq
      cases h
      cases hl with
      | cons g1 j1 r1 =>
        cases r1
        exact .mk' (je_maxlen c hh hg hg2 hs j1.e) rfl
    · rw [if_neg hq] at h; cases h
  | kget a i b j d =>
    simp only [pxA] at h
    split at h
    case h_2 => cases h
    rename_i a' o1 p1 b' o2 p2 i' o3 p3 j' o4 p4 dpos nm apos y d' o5 p5 cpos
    by_cases hq : (a' = a ∧ b' = b ∧ i' = i ∧ j' = j ∧ d' = d) ∧ a ≠ b ∧ nm = "get" ∧ (apos.endLine == cpos.line) = true ∧ noStar y = true
    · rw [if_pos hq] at h
      obtain ⟨⟨rfl, rfl, rfl, rfl, rfl⟩, hab, rfl, hline, hs⟩ := hq
      cases h
      cases hl with
      | cons g1 j1 r1 =>
        cases r1
        exact .mk' (je_kget c.hu hab hline hs j1.e) rfl
    · rw [if_neg hq] at h; cases h
  | lsz =>
    simp only [pxA] at h
    split at h
    case h_2 => cases h
    rename_i n1 p1 n2 p2 n3 p3 n4 p4 u v q4 q3 q2 pos
    by_cases hq : (n1 = "len" ∧ n2 = "set" ∧ n3 = "list" ∧ n4 = "zip") ∧ (glB sc n1 = true ∧ glB sc n2 = true ∧ glB sc n3 = true ∧ glB sc n4 = true) ∧ noStar u = true ∧ noStar v = true
    · rw [if_pos hq] at h
      obtain ⟨⟨rfl, rfl, rfl, rfl⟩, ⟨g1, g2, g3, g4⟩, hu, hv⟩ := hq
      cases h
      cases hl with
      | cons k1 j1 r1 =>
        cases r1 with
        | cons k2 j2 r2 =>
          cases r2
          exact .mk' (je_lsz c hh g1 g2 g3 g4 hu hv (ja_cons hu j1.e (ja_cons hv j2.e ja_nil))) rfl
    · rw [if_neg hq] at h; cases h
  | lsp =>
    simp only [pxA] at h
    split at h
    case h_2 => cases h
    rename_i n1 p1 n2 p2 u q2 pos
    by_cases hq : (n1 = "len" ∧ n2 = "set") ∧ (glB sc n1 = true ∧ glB sc n2 = true) ∧ noStar u = true
    · rw [if_pos hq] at h
      obtain ⟨⟨rfl, rfl⟩, ⟨g1, g2⟩, hu⟩ := hq
      cases h
      cases hl with
      | cons k1 j1 r1 =>
        cases r1
        exact .mk' (je_lsp c hh g1 g2 hu (ja_cons hu j1.e ja_nil)) rfl
    · rw [if_neg hq] at h; cases h
  | ltT =>
    simp only [pxA] at h
    split at h
    case h_2 => cases h
    rename_i l op r pos
    by_cases hop : op = .Lt ∧ behindInMarks op r = false
    · rw [if_pos hop] at h
      obtain ⟨rfl, hs⟩ := hop
      cases h
      cases hl with
      | cons g1 j1 r1 =>
        cases r1 with
        | cons g2 j2 r2 =>
          cases r2
          exact je_ltT c.hu hs j1.e j2.e
    · rw [if_neg hop] at h; cases h
  | ssT =>
    simp only [pxA] at h
    split at h
    case h_2 => cases h
    rename_i n1 p1 n2 p2 u q2 pos
    by_cases hq : (n1 = "sorted" ∧ n2 = "set") ∧ (glB sc n1 = true ∧ glB sc n2 = true) ∧ noStar u = true
    · rw [if_pos hq] at h
      obtain ⟨⟨rfl, rfl⟩, ⟨g1, g2⟩, hu⟩ := hq
      cases h
      cases hl with
      | cons k1 j1 r1 =>
        cases r1
        exact .mk' (je_ssT c hh g1 g2 hu (ja_cons hu j1.e ja_nil)) rfl
    · rw [if_neg hq] at h; cases h
  | sin neg =>
    simp only [pxA] at h
    split at h
    case h_2 => cases h
    rename_i l op nm p pos
    by_cases hq : op = (if neg then CmpOp.NotIn else .In) ∧ nm = "SIZES" ∧ glB sc nm = true ∧ tb.sz = true
    · rw [if_pos hq] at h
      obtain ⟨rfl, rfl, g1, hz⟩ := hq
      cases h
      cases hl with
      | cons k1 j1 r1 =>
        cases r1
        exact je_sin c (c.szk hz) g1 j1.e
    · rw [if_neg hq] at h; cases h
  | sget =>
    simp only [pxA] at h
    split at h
    case h_2 => cases h
    rename_i nm p r pos
    by_cases hq : noSlice r = true ∧ nm = "SIZES" ∧ glB sc nm = true ∧ tb.sz = true
    · rw [if_pos hq] at h
      obtain ⟨hs, rfl, g1, hz⟩ := hq
      cases h
      cases hl with
      | cons k1 j1 r1 =>
        cases r1
        exact je_sget c (c.szk hz) g1 hs j1.e
    · rw [if_neg hq] at h; cases h
  | sortV =>
    simp only [pxA] at h
    split at h
    case h_2 => cases h
    rename_i nm p u a apos cpos pos
    by_cases hq : nm = "sorted" ∧ glB sc nm = true ∧ a = "values" ∧ noCall0 u = true ∧ (apos.endLine == cpos.line) = true
    · rw [if_pos hq] at h
      obtain ⟨rfl, hg, rfl, hb, hline⟩ := hq
      cases h
      cases hl with
      | cons g1 j1 r1 =>
        cases r1
        exact .mk' (je_sortV c hh hg (attrBase_of hb) hline j1.e) rfl
    · rw [if_neg hq] at h; cases h
  | lenD =>
    simp only [pxA] at h
    split at h
    case h_2 => cases h
    rename_i nm p u pos
    by_cases hq : nm = "len" ∧ glB sc nm = true ∧ noStar u = true
    · rw [if_pos hq] at h
      obtain ⟨rfl, hg, hs⟩ := hq
      cases h
      cases hl with
      | cons g1 j1 r1 =>
        cases r1
        exact .mk' (je_pxB c (cb_lenD m) (by decide) hg (by decide +kernel) (by decide) (by decide) (fun y hy => by rw [List.mem_singleton.mp hy]; exact hs) (ja_cons hs j1.e ja_nil)) rfl
    · rw [if_neg hq] at h; cases h
  | dvm =>
    simp only [pxA] at h
    split at h
    case h_2 => cases h
    rename_i nm p u v pos
    by_cases hq : nm = "divmod" ∧ glB sc nm = true ∧ noStar u = true ∧ noStar v = true
    · rw [if_pos hq] at h
      obtain ⟨rfl, hg, hs, hs2⟩ := hq
      cases h
      cases hl with
      | cons g1 j1 r1 =>
        cases r1 with
        | cons g2 j2 r2 =>
          cases r2
          exact .mk' (je_pxB c (cb_dvm m) (by decide) hg (by decide +kernel) (by decide) (by decide) (fun y hy => by
            rcases List.mem_cons.mp hy with e | hy
            · rw [e]; exact hs
            · rw [List.mem_singleton.mp hy]; exact hs2) (ja_cons hs j1.e (ja_cons hs2 j2.e ja_nil))) rfl
    · rw [if_neg hq] at h; cases h
  | tup2 =>
    simp only [pxA] at h
    split at h
    case h_2 => cases h
    rename_i nm p n2 p2 u v pos2 pos
    by_cases hq : nm = "tuple" ∧ n2 = "range" ∧ glB sc nm = true ∧ glB sc n2 = true ∧ noStar u = true ∧ noStar v = true
    · rw [if_pos hq] at h
      obtain ⟨rfl, rfl, hg, hg2, hs, hs2⟩ := hq
      cases h
      cases hl with
      | cons g1 j1 r1 =>
        cases r1 with
        | cons g2 j2 r2 =>
          cases r2
          exact .mk' (je_tup2 c hh hg hg2 hs hs2 j1.e j2.e) rfl
    · rw [if_neg hq] at h; cases h
  | sumT =>
    simp only [pxA] at h
    split at h
    case h_2 => cases h
    rename_i nm p u v pos
    by_cases hq : nm = "sum" ∧ glB sc nm = true ∧ noStar u = true ∧ noStar v = true
    · rw [if_pos hq] at h
      obtain ⟨rfl, hg, hs, hs2⟩ := hq
      cases h
      cases hl with
      | cons g1 j1 r1 =>
        cases r1 with
        | cons g2 j2 r2 =>
          cases r2
          exact .mk' (je_pxB c (cb_sumT (c.calm hh) m) (by decide) hg (by decide +kernel) (by decide) (by decide) (fun y hy => by
            rcases List.mem_cons.mp hy with e | hy
            · rw [e]; exact hs
            · rw [List.mem_singleton.mp hy]; exact hs2) (ja_cons hs j1.e (ja_cons hs2 j2.e ja_nil))) rfl
    · rw [if_neg hq] at h; cases h
end
end T
set_option Elab.async false
set_option linter.all false
set_option maxRecDepth 100000
set_option maxHeartbeats 4000000
namespace T
open PySem PySem.Spec PyProof.Rows L2 HT
/-- a class as a value -/
def clW (K : PySem.W.Frag) (t : Str) : V := if t = ("ValueError" : Str) then .ty "ValueError" else .ref (He.ga K t)
theorem clsV_cl (K : PySem.W.Frag) (t : Str) : ClsV (clW K t) (clV K t) := by
  unfold clW clV
  split
  · exact .ty _
  · exact .own _
theorem clsV_cls (K : PySem.W.Frag) : ∀ ts : List Str, Paired ClsV (ts.map (clW K)) (ts.map (clV K))
  | [] => .nil
  | t :: ts => .cons (clsV_cl K t) (clsV_cls K ts)
section
variable {P : Nat → Option Fn} {G : Nat → Option D} {tb : Tb} {n : Nat} {e0 : Option (Addr × Xc)} {N : List Str} {sc : Scope} {X : Cx} {R : Xc → MH → Prop} {C : SC}
theorem xsB_of {t : Str} (h : xsB tb t = true) : xsT tb.cs t := by
  unfold xsB at h
  simp only [Bool.or_eq_true, List.any_eq_true, decide_eq_true_eq] at h
  rcases h with ⟨p, hp, rfl⟩ | h | h
  · exact .inl (List.mem_map.mpr ⟨p, hp, rfl⟩)
  · exact .inr (.inl h)
  · exact .inr (.inr h)
/-- a class's name -/
theorem pe_cl (c : CK P G tb n e0 N sc X) (hc : tb.cs ≠ []) {t : Str} {x : Expr} (ht : xsT tb.cs t) (hd : (t == ("__debug__" : Str)) = false) (h : isNm t sc x = true) : PE X x (tC (clW X.K t)) := by
  obtain ⟨p, rfl, h2⟩ := isNm_of h
  by_cases hv : t = ("ValueError" : Str)
  · subst hv
    have e : clW X.K ("ValueError" : Str) = .ty "ValueError" := if_pos rfl
    rw [e]
    exact pe_bltn (c.gl h2) (c.blt _ (by decide)) PyProof.Rows.Boot.«ValueError» rfl (by decide) (by decide)
  · have e : clW X.K t = .ref (He.ga X.K t) := if_neg hv
    rw [e]
    have hm : X.mg t = some (.ref (He.ga X.K t)) := by
      rcases ht with ht | ht | ht
      · obtain ⟨p, hp, rfl⟩ := List.mem_map.mp ht
        exact (c.xc p hp).gC
      · rw [ht]; exact c.xt hc
      · exact absurd ht hv
    exact pe_glob (c.gl h2) hm rfl hd
theorem pa_cls (c : CK P G tb n e0 N sc X) (hc : tb.cs ≠ []) : ∀ {ts : List Str} {xs : List Expr}, (∀ t ∈ ts, xsT tb.cs t ∧ (t == ("__debug__" : Str)) = false) → ckNms sc ts xs = true → PA X xs (fun _ H Q => Q (ts.map (clW X.K)) H)
  | [], [], _, _ => pa_nil
  | [], _ :: _, _, h => absurd (show false = true from h) Bool.false_ne_true
  | _ :: _, [], _, h => absurd (show false = true from h) Bool.false_ne_true
  | t :: ts, x :: xs, ht, h => by
    obtain ⟨h1, h2⟩ := ba (show (isNm t sc x && ckNms sc ts xs) = true from h)
    obtain ⟨p, e, _⟩ := isNm_of h1
    refine PA_imp (pa_cons (pe_cl c hc (ht t List.mem_cons_self).1 (ht t List.mem_cons_self).2 h1) (pa_cls c hc (fun t h => ht t (List.mem_cons_of_mem _ h)) h2) (star_of (by rw [e]; rfl))) fun σ H Q q => q
/-- what isinstance asks of it -/
theorem xKit (c : CK P G tb n e0 N sc X) {pins : List (Addr × Obj)} {σ : L2.St} {H F : Hp} {s : Shared} {a : Addr} {oe : Obj} {x : Xc} (I : Inv X pins σ H s) (sF : Same F H) (hp : (a, oe) ∈ X.pn) (hot : L2H.Hot1 X.A (a, oe)) (xr : XRep X.K tb.cs F oe.cls oe.dict x) :
    ∃ B : Heap → Prop, PySem.W.KitX X.K (.ref a) (.ref (He.ga X.K x.cls)) B ∧ B s.heap := by
  obtain ⟨hget, _⟩ := I.pin (a, oe) (List.mem_append_left _ hp)
  obtain ⟨_, vs, hv, _⟩ := hot
  obtain ⟨hm, ⟨hc, hd⟩, ha⟩ := xr
  have T := c.xc _ hm
  obtain ⟨oc, od, oda, osl⟩ := oe
  dsimp only at hv hc hd ha hget
  subst hv
  have key : ∃ od', PySem.W.InstAt s.heap a ⟨oc, od, .fields vs, osl⟩ (He.ga X.K x.cls) od' := by
    cases q : x.arg with
    | none =>
      have := hd q
      subst this
      exact ⟨none, hget, hc, rfl, trivial⟩
    | some p =>
      obtain ⟨da, u, e1, e2, _⟩ := ha p.1 p.2 q
      subst e1
      have hx : ObjOk X.prog X.w H s.heap da (.xd [(p.1, u)]) := I.hok da _ (sF _ _ e2)
      obtain ⟨mA, hns, _⟩ := hx
      obtain ⟨o, ho, _⟩ := lookIn_ns hns
      exact ⟨some o, hget, hc, rfl, ho⟩
  obtain ⟨od', J⟩ := key
  exact ⟨_, PySem.W.kitx_exc (gt := none) T.cl T.ga T.gg T.exC T.ha T.hn T.ht T.hm, J⟩
theorem kitAny_cls (c : CK P G tb n e0 N sc X) {p : Str × Option Str} (hp : p ∈ tb.cs) : ∀ {ts : List Str}, (∀ t ∈ ts, xsT tb.cs t) → PySem.W.kitAny X.K (.ref (He.ga X.K p.1)) (ts.map (clV X.K)) = some (ts.any (subX p.1))
  | [], _ => kitAny_nil
  | t :: ts, h => by
    rw [List.map_cons, List.any_cons]
    refine kitAny_cons ((c.xc p hp).kit t (h t List.mem_cons_self)) (fun e => ?_) fun e => ?_
    · rw [e, Bool.false_or]; exact kitAny_cls c hp fun t ht => h t (List.mem_cons_of_mem _ ht)
    · rw [e, Bool.true_or]
def rIsX (X : Cx) (cs : List (Str × Option Str)) : List V → Hp → VK → Prop := fun xs H Q => ∃ (a : Addr) (oe : Obj) (x : Xc) (F : Hp) (t : Str), xs = [.ref a, clW X.K t] ∧ Same F H ∧ (a, oe) ∈ X.pn ∧ L2H.Hot1 X.A (a, oe) ∧ XRep X.K cs F oe.cls oe.dict x ∧ xsT cs t ∧ Q (.bl (subX x.cls t)) H
def rIsXT (X : Cx) (cs : List (Str × Option Str)) : List V → Hp → VK → Prop := fun xs H Q => ∃ (a tp : Addr) (oe : Obj) (x : Xc) (F : Hp) (ts : List Str), xs = [.ref a, .ref tp] ∧ H tp = some (.tup (ts.map (clW X.K))) ∧ Same F H ∧ (a, oe) ∈ X.pn ∧ L2H.Hot1 X.A (a, oe) ∧ XRep X.K cs F oe.cls oe.dict x ∧ (∀ t ∈ ts, xsT cs t) ∧ Q (.bl (ts.any (subX x.cls))) H
theorem call_isX (c : CK P G tb n e0 N sc X) : CallR X (.builtin "isinstance") (rIsX X tb.cs) := by
  intro pins s σ H xs us Q I r h
  obtain ⟨a, oe, x, F, t, rfl, sF, hp, hot, xr, ht, q⟩ := h
  obtain ⟨u1, u2, rfl, r1, r2⟩ := vals2 r
  have e2 := (clsV_cl X.K t).eq r2
  subst e2
  obtain rfl : u1 = Value.ref a := r1
  obtain ⟨B, Z, hB⟩ := xKit c I sF hp hot xr
  exact PySem.W.kia_one Z I.kIn hB ((c.xc _ xr.1).kit t ht) (fun z => nomatch z) fun tk => ⟨.bl _, H, I.tok tk, rfl, q⟩
theorem call_isXT (c : CK P G tb n e0 N sc X) : CallR X (.builtin "isinstance") (rIsXT X tb.cs) := by
  intro pins s σ H xs us Q I r h
  obtain ⟨a, tp, oe, x, F, ts, rfl, hT, sF, hp, hot, xr, ht, q⟩ := h
  obtain ⟨u1, u2, rfl, r1, r2⟩ := vals2 r
  obtain rfl : u1 = Value.ref a := r1
  obtain rfl : u2 = Value.ref tp := r2
  obtain ⟨B, Z, hB⟩ := xKit c I sF hp hot xr
  obtain ⟨_, its, rv, o, h1, h2, n', h3⟩ := (show ObjOk X.prog X.w H s.heap tp (.tup (ts.map (clW X.K))) from I.hok tp _ hT)
  have e3 := ClsV.all (clsV_cls X.K ts) rv
  subst e3
  obtain ⟨oc, od, dt, sl⟩ := o
  simp only at h2 h3
  subst h2 h3
  exact PySem.W.kia_tup Z I.kIn hB h1 (kitAny_cls c xr.1 ht) (fun z => nomatch z) fun tk => ⟨.bl _, H, I.tok tk, rfl, q⟩
variable {x y : Expr} {xs : List Expr} {pos : Pos} {e : Ex}
theorem excAt_inv {d : D} {k : Xc → Prop} (h : excAt C d k) : ∃ a x, d = .ref a ∧ C.exc = some (a, x) ∧ k x := by
  unfold excAt at h
  split at h
  · rename_i a b x hC
    obtain ⟨rfl, h⟩ := h
    exact ⟨a, x, rfl, hC, h⟩
  · exact h.elim
theorem je_isX1 (c : CK P G tb n e0 N sc X) (hc : tb.cs ≠ []) {t : Str} {p : Pos} {tu : Bool} (hg : glB sc "isinstance" = true) (hs : noStar x = true) (ht : xsT tb.cs t) (hd : (t == ("__debug__" : Str)) = false) (ha : PE X x (tD X tb C R (wpE C R e))) (hy : isNm t sc y = true) :
    PE X (.Call (.Name "isinstance" p) [x, y] [] pos) (tD X tb C R (wpE C R (.isE e tu [t]))) := by
  obtain ⟨p', ey, _⟩ := isNm_of hy
  have ys : noStar y = true := by rw [ey]; rfl
  refine PE_imp (pe_callB (call_isX c) (c.gl hg) (c.blt _ (by decide)) boot_isinstance (pa_cons ha (pa_cons (pe_cl c hc ht hd hy) pa_nil (star_of ys)) (star_of hs)) (by decide) (by decide) (star_of hs) (any_of fun z hz => ?_)) fun σ H Q h => ?_
  · have : z = y := by simpa using hz
    rw [this]; exact ys
  obtain ⟨F, M, Z, ρ, Q', sr, re, hw, k⟩ := h
  simp only [wpE] at hw
  refine ⟨F, M, Z, ρ, _, sr, re, hw, fun v H1 ⟨F1, M1, dx, s1, sr1, rx, h1⟩ => ?_⟩
  replace h1 := excAt_inv h1
  obtain ⟨a, x, rfl, hC, h1⟩ := h1
  obtain rfl := mp_ref rx
  obtain ⟨oe, h2, h3, h4⟩ := (re.mono s1).hx _ hC
  refine ⟨a, oe, x, F1, t, rfl, sr1.f, h2, h3, h4, ht, k _ _ ⟨F1, M1, _, s1, sr1, .bl _, ?_⟩⟩
  simpa using h1
theorem je_isXN (c : CK P G tb n e0 N sc X) (hc : tb.cs ≠ []) {ts : List Str} {p p2 : Pos} {kk : Nat} {tu : Bool} (hg : glB sc "isinstance" = true) (hs : noStar x = true) (hl : ts.length ≤ sizeLine) (ht : ∀ t ∈ ts, xsT tb.cs t ∧ (t == ("__debug__" : Str)) = false) (ha : PE X x (tD X tb C R (wpE C R e))) (hy : ckNms sc ts xs = true) :
    PE X (.Call (.Name "isinstance" p) [x, .Tuple xs kk p2] [] pos) (tD X tb C R (wpE C R (.isE e tu ts))) := by
  refine PE_imp (pe_callB (call_isXT c) (c.gl hg) (c.blt _ (by decide)) boot_isinstance (pa_cons ha (pa_cons (pe_tup (pa_cls c hc ht hy)) pa_nil (star_of rfl)) (star_of hs)) (by decide) (by decide) (star_of hs) (any_of fun z hz => ?_)) fun σ H Q h => ?_
  · have : z = .Tuple xs kk p2 := by simpa using hz
    rw [this]; rfl
  obtain ⟨F, M, Z, ρ, Q', sr, re, hw, k⟩ := h
  simp only [wpE] at hw
  refine ⟨F, M, Z, ρ, _, sr, re, hw, fun v H1 ⟨F1, M1, dx, s1, sr1, rx, h1⟩ => ?_⟩
  replace h1 := excAt_inv h1
  obtain ⟨a, x, rfl, hC, h1⟩ := h1
  obtain rfl := mp_ref rx
  obtain ⟨oe, h2, h3, h4⟩ := (re.mono s1).hx _ hC
  refine ⟨by rw [List.length_map]; exact hl, fun q hq => ?_⟩
  obtain ⟨sF, sr2⟩ := sr1.layF (o := .tup (ts.map (clW X.K))) hq
  exact ⟨a, q, oe, x, _, ts, rfl, upd_same, sr2.f, h2, h3, h4.mono sF, fun t h => (ht t h).1, k _ _ ⟨_, M1, _, s1.trans sF, sr2, .bl _, h1⟩⟩
theorem je_fld (c : CK P G tb n e0 N sc X) {f : Str} {pos : Pos} (hb : noCall0 x = true) (ha : PE X x (tD X tb C R (wpE C R e))) : PE X (.Attribute x f pos) (tD X tb C R (wpE C R (.fldE e f))) := by
  refine ⟨fun pins s σ H Q I h => ?_⟩
  obtain ⟨F, M, Z, ρ, Q', sr, re, hw, k⟩ := h
  simp only [wpE] at hw
  have hbase : attributeBase x f X.env (eval x X.env) = eval x X.env := by
    cases x <;> first
      | rfl
      | skip
    rename_i g xs kw pos
    cases g <;> first
      | rfl
      | (cases xs <;> first
          | rfl
          | (cases kw <;> first
              | rfl
              | cases hb))
  refine attr_of hbase (thn (ha.run pins s σ H _ I ⟨F, M, Z, ρ, _, sr, re, hw, fun v H' q => q⟩) fun u s1 hh => ?_)
  obtain ⟨v, H1, I1, rv, F1, M1, dx, s1', sr1, rx, h1⟩ := hh
  replace h1 := excAt_inv h1
  obtain ⟨a, y, rfl, hC, h1⟩ := h1
  obtain rfl := mp_ref rx
  obtain rfl : u = Value.ref a := rv
  obtain ⟨oe, h2, hot, xr⟩ := (re.mono s1').hx _ hC
  obtain ⟨hm, ⟨hc, hd⟩, hx⟩ := xr
  have T := c.xc _ hm
  cases q : y.arg with
  | none => simp only [fldX, q] at h1
  | some gd =>
    obtain ⟨g, d⟩ := gd
    simp only [fldX, q] at h1
    obtain ⟨rfl, h5⟩ := h1
    obtain ⟨da, u, e1, e2, ru⟩ := hx g d q
    obtain ⟨ha, _⟩ := I1.pin (a, oe) (List.mem_append_left _ h2)
    obtain ⟨_, vs, hv, _⟩ := hot
    have ho : ObjOk X.prog X.w H1 s1.heap da (.xd [(g, u)]) := I1.hok da _ (sr1.f _ _ e2)
    obtain ⟨mA, hns, hr⟩ := ho
    obtain ⟨od, ho, hl⟩ := lookIn_ns hns
    have l : List.lookup g [(g, u)] = some u := by simp [List.lookup]
    obtain ⟨w', hu, rw'⟩ := RelO.some_of (v := u) (o := mA g) (by rw [← l]; exact hr g)
    have J : PySem.W.InstAt s1.heap a oe (He.ga X.K y.cls) (some od) := ⟨ha, hc, by unfold PySem.W.notCls; rw [hv] <;> rfl, by rw [e1]; exact ho⟩
    have hno := (T.own1 g (by rw [q]; rfl)).2
    exact HandSPX.exc_get I1.kIn J T.ga T.gg T.exC (PySem.W.findObj_own T.hdC hno rfl (by rw [hl, hu])) (handed_of rw') ⟨u, H1, I1.tok _, rw', k _ _ ⟨F1, M1, d, s1', sr1, ru, h5⟩⟩
end
end T
set_option Elab.async false
set_option linter.all false
set_option maxRecDepth 100000
set_option maxHeartbeats 4000000
namespace T
open PySem PySem.Spec PyProof.Rows L2 HT
section
variable {X : Cx} {pins : List (Addr × Obj)} {σ : L2.St} {H F Z : Hp} {M : MH} {s : Shared} {E : Value → Shared → Prop}
/-- an entry stored by a comprehension -/
theorem dt_store {a : Addr} {es : List (D × D)} {xs : Ent} {ep : Nat} {kd vd : D} {ks : List Int} {y z : V} {u r : Value} {Q : Unit → Shared → Prop} (hu : X.A.units < cLine) (sr : SR X.K F M Z H) (I : Inv X pins σ H s) (hH : H a = some (dtO a xs ep)) (rd : RepD X.K F es xs) (hl : es.length < sizeLine)
    (hk : keyN kd = some ks) (rk : Rep X.K F y kd) (rv : Rep X.K F z vd) (ry : RelV y u) (rz : RelV z r)
    (h : ∀ xs' ep' s', RepD X.K F (dtPut es kd ks vd) xs' → Inv X pins σ (upd H a (dtO a xs' ep')) s' → Q () s') : wpAny (model X.prog X.w) X.A (dictSet a u r) Q E s := by
  obtain ⟨b, rfl, kb⟩ := key_is sr I rk hk
  cases ry
  obtain ⟨c1, c2, ys, pr, o, as, e1, e2, e3, e4, e5⟩ := (I.hok a _ hH).1
  have hys := PrE.len pr
  have hxs := rd.len
  have hd : s.heap.DictOfH (LK X.prog X.w) a ys := ⟨o, as, ep, e1, e2, e3, e4 _ _, keys_is sr I rd pr, e5⟩
  refine wpAny_dictSet_heap (knd := LK X.prog X.w) (hsz := by omega) hu kb hd fun h' hd' hs => ?_
  obtain ⟨xs', rd', pr'⟩ := dt_put hk rk rv rz rd pr
  have hz : xs'.length ≤ sizeLine := by
    have := len_dtPut es kd ks vd
    rw [rd'.len]; omega
  have hex : ∃ q, h'.get? a = some q := let ⟨q, _, _, hq, _⟩ := hd'; ⟨q, hq⟩
  obtain ⟨o', as', ep', f1, f2, f3, f4, _, f5⟩ := hd'
  exact h xs' ep' _ rd' (d_write I (by rw [hH]; exact True.intro) hs hex (dtO_ok ⟨c1, hz, _, pr', o', as', f1, f2, f3, fun P w => by rw [f4]; exact entry_num pr', f5⟩))
end
section
variable {X : Cx}
/-- what a store into the dict at D asks -/
def PutD (X : Cx) (D : Addr) (y z : V) (H : Hp) (Nx : Hp → Prop) : Prop := ∃ F M Z es xs ep kd vd ks, SR X.K F M Z H ∧ H D = some (dtO D xs ep) ∧ RepD X.K F es xs ∧ es.length < sizeLine ∧ keyN kd = some ks ∧ Rep X.K F y kd ∧ Rep X.K F z vd ∧
  ∀ xs' ep', RepD X.K F (dtPut es kd ks vd) xs' → Nx (upd H D (dtO D xs' ep'))
def tDcT (X : Cx) (wi : TI) (g : TG) (tt : TT) (tk tv : TE) (vs : List Nat) : TE := fun σ H Q => wi σ H fun J H1 => ∀ D, H1 D = none → ∃ W : Nat → Nat → Hp → Prop, (∃ m, W 0 m (upd H1 D (dtO D [] 0))) ∧ ∀ i m H, W i m H →
  (J.stop i H ∧ Q (.ref D) H) ∨ (J.go i H ∧ ∃ Nx : Hp → Prop, (∀ H', Nx H' → ∃ m', m' < m ∧ W (i + 1) m' H') ∧ ∀ x H', J.yld i H x H' → g x (wipe σ vs) H' fun σ2 H2 => wipe σ2 vs = wipe σ vs ∧ tt σ2 H2 fun b H3 =>
    if b = true then tk σ2 H3 fun y H4 => tv σ2 H4 fun z H5 => PutD X D y z H5 Nx else Nx H3)
theorem pe_dct {kx vx tg iter : Expr} {ifs : List Expr} {scope : Scope} {own : List (Str × Nat)} {pos : Pos} {wi : TI} {g : TG} {tt : TT} {tk tv : TE} (hu : X.A.units < cLine) (hc : X.calm = true) (hN : X.N.Nodup) (hi : PI X tg iter wi) (ok : BlkOk X.N X.env.scope scope own)
    (hg : ∀ (s : Shared) (H : Hp) (C : Addr) (cl : List (Str × Addr)) (fp : List Addr), PG (X.blk s H scope (compEnvC scope cl C X.env) fp) tg g) (ht : ∀ (s : Shared) (H : Hp) (C : Addr) (cl : List (Str × Addr)) (fp : List Addr), PTs (X.blk s H scope (compEnvC scope cl C X.env) fp) ifs tt)
    (hk : ∀ (s : Shared) (H : Hp) (C : Addr) (cl : List (Str × Addr)) (fp : List Addr), PE (X.blk s H scope (compEnvC scope cl C X.env) fp) kx tk)
    (he : ∀ (s : Shared) (H : Hp) (C : Addr) (cl : List (Str × Addr)) (fp : List Addr), PE (X.blk s H scope (compEnvC scope cl C X.env) fp) vx tv) (hs : ∀ x, foldedSetIterable iter X.env x = pure x) :
    PE X (.DictComp kx vx [⟨tg, iter, ifs, 0⟩] scope pos) (tDcT X wi g tt tk tv (own.map (·.2))) := by
  refine ⟨fun pins s σ H Q I h => ?_⟩
  rw [arm_eval_DictComp]
  have hfree : ∀ y ∈ scope.names, y.2 = .free → ∃ c, X.env.cells.lookup y.1 = some c := fun y hy e => (ok.free y hy e).elim (fun k => I.ok.has _ (.inl k)) fun k => I.ok.has _ (.inr k)
  refine wpAny_comprehension_free (use := none) rfl hs (closure_ok hfree) ok.kind (fun y hy e => by rw [ok.uniq y hy, e]) (thn (hi.run pins s σ H _ I h) fun xv s1 hx => thn hx fun itv s2 h2 => ?_)
  obtain ⟨it, fp, tn, J, H2, rfl, I2, T, st2, f2, q⟩ := h2
  refine wpAny_newObj_type (newEnv_comp ?_)
  generalize hD : s2.heap.objs.size = D
  have hDs : s2.heap.objs.size ≤ D := Nat.le_of_eq hD
  have hDn : H2 D = none := I2.hok.fresh hDs
  obtain ⟨W, ⟨m0, w0⟩, turn⟩ := q D hDn
  have sz : ∀ b ∈ fp, b < s2.heap.objs.size := fun b hb => let ⟨o, e, _⟩ := T.obj _ _ st2 b hb; Heap.lt_size e
  -- the new dict stands
  obtain ⟨s3, hs3⟩ : ∃ s3 : Shared, s3 = { s2 with heap := s2.heap.push { cls := .type "dict", data := .dict #[] } } := ⟨_, rfl⟩
  have h3 : s3.heap = s2.heap.push { cls := .type "dict", data := .dict #[] } := by rw [hs3]
  have nw : ObjOk X.prog X.w (upd H2 D (dtO D [] 0)) (s2.heap.push { cls := .type "dict", data := .dict #[] }) D (dtO D [] 0) := by
    subst hD
    exact dtO_ok ⟨beq_eq_false_iff_ne.mpr (Ne.symm (Nat.ne_of_lt I2.big)), Nat.zero_le _, [], .nil, _, #[], Heap.get?_push_size _ rfl, ⟨rfl, rfl, rfl⟩, rfl, fun _ _ => rfl, List.nodup_nil⟩
  have I3 : Inv X pins σ (upd H2 D (dtO D [] 0)) s3 := by
    rw [hs3]
    exact I2.laid (t' := s2.toks) (fun b o e => Heap.get?_push_of_some _ e) hDs nw
  have nD : ∀ b ∈ fp, b ≠ D := fun b hb e => by
    have := sz b hb
    rw [e] at this
    exact absurd this (Nat.not_lt.mpr hDs)
  have f3 : ∀ b ∈ fp, FpOk X pins (upd H2 D (dtO D [] 0)) b ∧ b < s3.heap.objs.size := fun b hb =>
    ⟨⟨by rw [upd_ne (nD b hb)]; exact (f2 b hb).1, (f2 b hb).2⟩, by rw [h3, Heap.size_push]; exact Nat.lt_succ_of_lt (sz b hb)⟩
  have st3 : tn 0 s3.heap := T.keep _ _ _ st2 fun b _ o e => by rw [h3]; exact Heap.get?_push_of_some _ e
  have I4 := block_start I3 ok hN f3
  generalize hH3 : upd H2 D (dtO D [] 0) = H3 at I3 I4 w0 f3
  obtain ⟨cl, hcl⟩ : ∃ cl, cl = cellsFrom (s3.heap.objs.size + 1) scope.names (cloFrom X.env.cells scope.names []) := ⟨_, rfl⟩
  rw [← hcl] at I4
  have pg := hg s3 H3 s3.heap.objs.size cl fp
  have pt := ht s3 H3 s3.heap.objs.size cl fp
  have pk := hk s3 H3 s3.heap.objs.size cl fp
  have pe := he s3 H3 s3.heap.objs.size cl fp
  rw [← hs3]
  show codeAny _ _ (.compStart (.DictComp kx vx [⟨tg, iter, ifs, 0⟩] scope pos) 0 (.ref it) (.ref D) (compEnvC scope (cellsFrom (s3.heap.objs.size + 1) scope.names (cloFrom X.env.cells scope.names [])) s3.heap.objs.size X.env)) _ { s3 with heap := pushCells (s3.heap.push { cls := .type "dict", data := .dict #[] }) scope.names }
  rw [← hcl]
  generalize hce : compEnvC scope cl s3.heap.objs.size X.env = ce at I4 pg pt pk pe ⊢
  have cL : ce.locals = s3.heap.objs.size := by subst hce; rfl
  generalize hs4 : ({ s3 with heap := pushCells (s3.heap.push { cls := .type "dict", data := .dict #[] }) scope.names } : Shared) = s4 at I4 ⊢
  have st4 : tn 0 s4.heap := T.keep _ _ _ st3 fun b _ o e => by rw [← hs4]; exact pushCells_keeps _ _ _ _ (Heap.get?_push_of_some _ e)
  have nfp : ∀ b ∈ fp, H3 b = none := fun b hb => (f3 b hb).1.1
  have stat : ∀ {σ' : L2.St} {H' : Hp} {s' : Shared}, Inv (X.blk s3 H3 scope ce fp) [] σ' H' s' → (∀ b ∈ fp, H' b = none) → ∀ b ∈ fp, FpOk (X.blk s3 H3 scope ce fp) [] H' b := fun {σ' H' s'} I' hn b hb =>
    ⟨hn b hb, (I'.ok.exf b hb).1, I'.ok.exfs b hb, .inl hb, fun x c e => (I'.ok.exf b hb).2 x c e, fun p hp => absurd (show p ∈ ([] : List (Addr × Obj)) ++ [] from hp) (by simp)⟩
  refine codeAny_compStart_dict ?go (T.self X.A 0 _ _ _ st4 ?go)
  refine compLoop_anyD (fun n s' => ∃ i H', Inv (X.blk s3 H3 scope ce fp) [] (wipe σ (own.map (·.2))) H' s' ∧ tn i s'.heap ∧ (∀ b ∈ fp, H' b = none) ∧ W i n H') ?_ m0 ⟨0, H3, I4, st4, nfp, w0⟩
  rintro n s5 ⟨i, H5, I5, st5, n5, w5⟩
  rcases turn i n H5 w5 with ⟨stop, qq⟩ | ⟨go, Nx, hNx, step⟩
  · refine thnF (T.done (X.blk s3 H3 scope ce fp) rfl rfl rfl hc i [] s5 _ H5 (fun _ _ => False) I5 (stat I5 n5) st5 stop) fun r s6 ⟨hr, I6⟩ => ?_
    subst hr
    have I7 : Inv X pins σ H5 s6 := I3.call' (ch := fp) I6.os I6.base I6.hok I6.bare fun b hb => ⟨(f3 b hb).1.2.2.2.1, (f3 b hb).1.2.1, (f3 b hb).1.2.2.2.2.1, (f3 b hb).1.2.2.2.2.2⟩
    have nC : H5 s3.heap.objs.size = none := by
      have z : H5 ce.locals = none := I6.free
      rwa [cL] at z
    obtain ⟨m, hn, _⟩ := I6.loc
    have hn : s6.heap.Ns ce.locals m := hn
    rw [cL] at hn
    refine ⟨m, hn, fun h'' sb => ?_⟩
    obtain ⟨g0, g1, g2, g3, g4, g5⟩ := I3.fpOk (Nat.le_refl _) nC
    exact ⟨.ref D, H5, I7.turned (t' := s6.toks) (fun b o hb e => (sb.2 b hb).trans e) g0 g1 g3 g4 g5, rfl, qq⟩
  · refine thnF (T.item (X.blk s3 H3 scope ce fp) rfl rfl rfl hc i [] s5 _ H5 (fun _ _ => False) I5 (stat I5 n5) st5 go) fun r s6 ⟨u, hr, h6⟩ => ?_
    subst hr
    refine thnF h6 fun _ s7 ⟨x, H7, I7, r7, y7, st7, n7⟩ => ?_
    have I7' := I7.pinned (stat I7 n7) (T.obj _ _ st7)
    refine thnF (pg.run _ s7 _ H7 x u _ I7' r7 (step x H7 y7)) fun _ s8 ⟨σ8, H8, I8, hw8, q8⟩ => ?_
    refine thnF (pt.run _ s8 σ8 H8 _ I8 q8) fun b s9 ⟨H9, I9, q9⟩ => ?_
    have fin : ∀ {s' : Shared} {H' : Hp}, Inv (X.blk s3 H3 scope ce fp) ([] ++ pinsAt fp s7.heap) σ8 H' s' → Nx H' → ∃ m, m < n ∧ ∃ i H', Inv (X.blk s3 H3 scope ce fp) [] (wipe σ (own.map (·.2))) H' s' ∧ tn i s'.heap ∧ (∀ b ∈ fp, H' b = none) ∧ W i m H' := fun {s' H'} I' nx => by
      obtain ⟨m', hm, w'⟩ := hNx H' nx
      have pin' : ∀ b ∈ fp, ∀ o, s7.heap.get? b = some o → s'.heap.get? b = some o ∧ H' b = none := fun b hb o e =>
        let z := I'.pin (b, o) (List.mem_append_right _ (List.mem_append_right _ (mem_pinsAt hb e)))
        ⟨z.1, z.2.1⟩
      refine ⟨m', hm, i + 1, H', (I'.unpinned (pins := [])).weak (by rw [← hw8, wipe_length]) (fun j v e => ?_), T.keep _ _ _ st7 fun b hb o e => (pin' b hb o e).1, fun b hb => ?_, w'⟩
      · rw [← hw8] at e
        exact (wipe_some e).1
      · obtain ⟨o, e, _⟩ := T.obj _ _ st7 b hb
        exact (pin' b hb o e).2
    cases b with
    | false =>
      simp only [Bool.false_eq_true, if_false] at q9 ⊢
      exact fin I9 q9
    | true =>
      simp only [if_true] at q9 ⊢
      refine thnF (pk.run _ s9 σ8 H9 _ I9 q9) fun z s10 ⟨yk, H10, I10, r10, q10⟩ => ?_
      refine thnF (pe.run _ s10 σ8 H10 _ I10 q10) fun z2 s11 ⟨yv, H11, I11, r11, F, M, Z, es, xs, ep, kd, vd, ks, sr, hH, rd, hl, hk, rk, rv, nx⟩ => ?_
      exact dt_store (X := X.blk s3 H3 scope ce fp) hu sr I11 hH rd hl hk rk rv r10 r11 fun xs' ep' s12 rd' I12 => fin I12 (nx xs' ep' rd')
end
section
variable {X : Cx} {C : SC} {R : Xc → MH → Prop} {g : Tg} {it : It} {c : Eo} {ke ve : Ex} {own : List Nat}
abbrev dcBody (C : SC) (g : Tg) (c : Eo) (ke ve : Ex) (ρ : En) (own : List Nat) : List (D × D) → D → MH → (List (D × D) → MH → Prop) → Prop := fun acc x M' k => g.put x (wipeE ρ own) fun ρ' => wpT C (fun _ _ => False) c ρ' M' fun b M2 =>
        if b = true then wpE C (fun _ _ => False) ke ρ' M2 fun kd M3 => wpE C (fun _ _ => False) ve ρ' M3 fun vd M4 => putD acc kd vd fun acc' => k acc' M4 else k acc M2
theorem putD_inv {acc : List (D × D)} {kd vd : D} {k : List (D × D) → Prop} (h : putD acc kd vd k) : ∃ ks, keyN kd = some ks ∧ acc.length < sizeLine ∧ k (dtPut acc kd ks vd) := by
  unfold putD at h
  split at h
  · exact ⟨_, by assumption, h.1, h.2⟩
  · exact h.elim
theorem dc_read {tb : Tb} (hown : ∀ i ∈ g.own, i ∈ own) : ∀ σ H Q, tD X tb C R (fun ρ M Q => wpI C R it ρ M fun items G M1 => wpCd G (dcBody C g c ke ve ρ own) items [] M1 fun es M2 => ∀ a, M2 a = none → ∀ ep, Q (.ref a) (M2.set a (.dt es ep))) σ H Q →
    tDcT X (tDi X tb C R g (wpI C R it)) (gD X g) (tDt0 X.K (wpT C (fun _ _ => False) c)) (tD0 X.K (wpE C (fun _ _ => False) ke)) (tD0 X.K (wpE C (fun _ _ => False) ve)) own σ H Q := fun σ H Q ⟨F, M, Z, ρ, Q', sr, re, hw, k⟩ => by
  refine ⟨F, M, Z, ρ, _, sr, re, hw, fun J H1 ⟨F1, M1, items, G, s1, sr1, wk, h1⟩ D hD => ?_⟩
  obtain ⟨_, _, hZ⟩ := sr1.new hD
  have rew := (re.re.mono s1).wipe own
  refine ⟨fun i m H => ∃ F2 M2 xs ep acc, Same F1 F2 ∧ SR X.K F2 M2 (upd Z D (dtO D xs ep)) H ∧ RepD X.K F2 acc xs ∧ m = items.length - i ∧ i ≤ items.length ∧ wpCd G (dcBody C g c ke ve ρ own) (items.drop i) acc M2 fun es M2 => ∀ a, M2 a = none → ∀ ep, Q' (.ref a) (M2.set a (.dt es ep)),
    ⟨items.length, F1, M1, [], 0, [], Same.refl F1, sr1.layZ hD, .nil, by simp, Nat.zero_le _, by simpa using h1⟩, ?_⟩
  rintro i m H2 ⟨F2, M2, xs, ep, acc, s2, sr2, rd, rfl, hi, hw⟩
  by_cases hlt : i < items.length
  · obtain ⟨d, hd⟩ : ∃ d, items[i]? = some d := ⟨_, List.getElem?_eq_getElem hlt⟩
    rw [drop_at hd] at hw
    simp only [wpCd] at hw
    obtain ⟨hG, hw⟩ := hw
    refine .inr ⟨wk.go F2 M2 _ H2 i s2 sr2 hG hlt, fun H => ∃ F2 M2 xs ep acc, Same F1 F2 ∧ SR X.K F2 M2 (upd Z D (dtO D xs ep)) H ∧ RepD X.K F2 acc xs ∧ wpCd G (dcBody C g c ke ve ρ own) (items.drop (i + 1)) acc M2 fun es M2 => ∀ a, M2 a = none → ∀ ep, Q' (.ref a) (M2.set a (.dt es ep)),
      fun H' ⟨F3, M3, xs3, ep3, acc3, s3, sr3, rd3, hw3⟩ => ⟨items.length - (i + 1), by omega, F3, M3, xs3, ep3, acc3, s3, sr3, rd3, rfl, by omega, hw3⟩, fun x H3 y => ?_⟩
    obtain ⟨F3, s3, sr3, rx⟩ := wk.yld F2 M2 _ H2 i x H3 d s2 sr2 hG hd y
    refine ⟨F3, M2, _, _, d, _, sr3, rew.mono (s2.trans s3), rx, hw, fun σ4 H4 ⟨ρ4, sr4, re4, h4, w4⟩ => ⟨?_, ?_⟩⟩
    · rw [w4 own hown]
      exact wipe_wipe _ _
    · refine ⟨F3, M2, _, ρ4, _, sr4, re4, h4, fun b H5 ⟨F5, M5, s5, sr5, h5⟩ => ?_⟩
      cases b with
      | false =>
        simp only [Bool.false_eq_true, if_false] at h5 ⊢
        exact ⟨F5, M5, xs, ep, acc, (s2.trans s3).trans s5, sr5, rd.mono (s3.trans s5), h5⟩
      | true =>
        simp only [if_true] at h5 ⊢
        refine ⟨F5, M5, _, ρ4, _, sr5, re4.mono s5, h5, fun y H6 ⟨F6, M6, kd, s6, sr6, ry, h6⟩ => ⟨F6, M6, _, ρ4, _, sr6, (re4.mono s5).mono s6, h6, fun z H7 ⟨F7, M7, vd, s7, sr7, rz, h7⟩ => ?_⟩⟩
        obtain ⟨ks, hk, hl, h7⟩ := putD_inv h7
        refine ⟨F7, M7, _, acc, xs, ep, kd, vd, ks, sr7, sr7.z _ _ upd_same, rd.mono (((s3.trans s5).trans s6).trans s7), hl, hk, ry.mono s7, rz, fun xs' ep' rd' => ?_⟩
        exact ⟨F7, M7, xs', ep', _, (((s2.trans s3).trans s5).trans s6).trans s7, sr7.putZ hZ, rd', h7⟩
  · have e1 : i = items.length := by omega
    subst e1
    rw [List.drop_length] at hw
    simp only [wpCd] at hw
    obtain ⟨hG, hw⟩ := hw
    obtain ⟨hM, sr'⟩ := sr2.giveM (c := .dt acc ep) hZ (.dt rd)
    exact .inl ⟨wk.stop F2 M2 _ H2 s2 sr2 hG, k _ _ ⟨F2, _, .ref D, s1.trans s2, sr', .ref D, hw D hM ep⟩⟩
end
end T
set_option Elab.async false
set_option linter.all false
set_option maxRecDepth 100000
set_option maxHeartbeats 400000
namespace T
open PySem PySem.Spec PyProof.Rows L2 HT
section
variable {P : Nat → Option Fn} {G : Nat → Option D} {tb : Tb} {n : Nat} {e0 : Option (Addr × Xc)} {N : List Str} {sc : Scope} {X : Cx} {R : Xc → MH → Prop}
theorem CK.blk (c : CK P G tb n e0 N sc X) {s : Shared} {H : Hp} {scope : Scope} {C : Addr} {cl : List (Str × Addr)} {fp : List Addr} : CK P G tb n e0 N (relS scope sc) (X.blk s H scope (compEnvC scope cl C X.env) fp) where
  gd := c.gd
  room := c.room
  hdl := c.hdl
  hote := c.hote
  xc := c.xc
  xt := c.xt
  xi := c.xi
  szk := c.szk
  calm := c.calm
  nd := c.nd
  hN := c.hN
  hs := by rw [← c.hs]; rfl
  call := c.call
  glob := c.glob
  blt := c.blt
  sm := c.sm
theorem bo_one {op : BoolOp} {x : Expr} {pos : Pos} {C : SC} {e : Ex} (h : JE X tb C R e x) : PE X (.BoolOp op [x] pos) (tD X tb C R (wpE C R e)) ∧ PW X (.BoolOp op [x] pos) (tDt X tb C R (wpB' C R e)) := by
  cases op
  · exact ⟨pe_one h.e, pw_and1 h.t⟩
  · exact ⟨pe_one h.e, pw_or1 h.t⟩
theorem goodI {it : It} {tg x : Expr} (h : ckI tb N it sc tg x = true) : noSet x = true := by
  cases it with
  | ex e => exact noSet_of (good_of (show ckE tb N e sc x = true from h))
  | dks e => exact noSet_of (good_of (show ckE tb N e sc x = true from h))
  | _ =>
    cases x <;> first
      | rfl
      | exact absurd (show false = true from h) Bool.false_ne_true
      | (cases tg <;> first
          | exact absurd (show false = true from h) Bool.false_ne_true)
theorem own_map {N : List Str} (is : List Nat) : (ownL N is).map (·.2) = is := by
  induction is with
  | nil => rfl
  | cons i r ih => simp only [ownL, List.map_cons, List.map_map] at ih ⊢; rw [ih]
/-- the parts of a comprehension in its block -/
theorem CK.cold (c : CK P G tb n e0 N sc X) (hh : tb.hot = false) : (scX P G n e0).exc = none := by
  have := c.hote
  rw [hh] at this
  cases e0 with
  | none => rfl
  | some p => cases this
theorem blk_g (c : CK P G tb n e0 N sc X) (hh : tb.hot = false) {scope : Scope} {g : Tg} {tg : Expr} (h : ckG N (relS scope sc) (fun n => scope.names.lookup n == some .cell) g tg = true) (s : Shared) (H : Hp) (C : Addr) (cl : List (Str × Addr)) (fp : List Addr) :
    PG (X.blk s H scope (compEnvC scope cl C X.env) fp) tg (gD X g) := by
  have h1 := jg (X := X.blk s H scope (compEnvC scope cl C X.env) fp) c.hN c.nd (c.calm hh) (by rw [← c.hs]; rfl) (fun n hn => hn) h
  exact h1
mutual
theorem jE : ∀ (e : Ex) {sc : Scope} {X : Cx} {R : Xc → MH → Prop} {x : Expr}, CK P G tb n e0 N sc X → ckE tb N e sc x = true → JE X tb (scX P G n e0) R e x
  | .var i, sc, X, R, x, c, h => by
    unfold ckE at h
    split at h
    case h_2 => exact absurd h Bool.false_ne_true
    replace h := da h; obtain ⟨h1, h⟩ := h
    replace h := ba h; obtain ⟨h2, h3⟩ := h
    exact .mk' (je_var c h1 h2 h3) rfl
  | .glb k, sc, X, R, x, c, h => by
    unfold ckE at h
    split at h
    case h_2 => exact absurd h Bool.false_ne_true
    replace h := da h; obtain ⟨h1, h⟩ := h
    replace h := ba h; obtain ⟨h2, h3⟩ := h
    exact .mk' (je_glb c rfl h1 h2 h3) rfl
  | .non, sc, X, R, x, c, h => by
    unfold ckE at h
    split at h
    case h_2 => exact absurd h Bool.false_ne_true
    obtain rfl := of_decide_eq_true h
    exact .mk' je_non rfl
  | .bl b, sc, X, R, x, c, h => by
    unfold ckE at h
    split at h
    case h_2 => exact absurd h Bool.false_ne_true
    obtain rfl := of_decide_eq_true h
    exact .mk' je_bl rfl
  | .int b, sc, X, R, x, c, h => by
    unfold ckE at h
    split at h
    case h_2 => exact absurd h Bool.false_ne_true
    obtain rfl := of_decide_eq_true h
    exact .mk' je_int rfl
  | .str b, sc, X, R, x, c, h => by
    unfold ckE at h
    split at h
    case h_2 => exact absurd h Bool.false_ne_true
    obtain rfl := of_decide_eq_true h
    exact .mk' je_str rfl
  | .bin o a b, sc, X, R, x, c, h => by
    unfold ckE at h
    split at h
    case h_2 => exact absurd h Bool.false_ne_true
    replace h := da h; obtain ⟨h1, h⟩ := h
    replace h := ba h; obtain ⟨h2, h3⟩ := h
    subst h1
    exact .mk' (je_bin (jE a c h2).e (jE b c h3).e) rfl
  | .mulC a b, sc, X, R, x, c, h => by
    unfold ckE at h
    split at h
    case h_2 => exact absurd h Bool.false_ne_true
    replace h := da h; obtain ⟨h1, h⟩ := h
    replace h := ba h; obtain ⟨h2, h3⟩ := h
    subst h1
    exact .mk' (je_mulC (jE a c h2).e (jE b c h3).e) rfl
  | .neg a, sc, X, R, x, c, h => by
    unfold ckE at h
    split at h
    case h_2 => exact absurd h Bool.false_ne_true
    replace h := da h; obtain ⟨h1, h2⟩ := h
    subst h1
    exact .mk' (je_neg (jE a c h2).e) rfl
  | .not a, sc, X, R, x, c, h => by
    unfold ckE at h
    split at h
    case h_2 => exact absurd h Bool.false_ne_true
    replace h := da h; obtain ⟨h1, h2⟩ := h
    subst h1
    exact .mk2 (je_not (jE a c h2).e) (jt_not (jE a c h2).t) (fun _ _ _ z => nomatch z)
  | .and a b, sc, X, R, x, c, h => by
    unfold ckE at h
    split at h
    case h_2 => exact absurd h Bool.false_ne_true
    replace h := da h; obtain ⟨h1, h⟩ := h
    subst h1
    split at h
    · replace h := ba h; obtain ⟨h2, h3⟩ := h
      obtain ⟨h4, h5⟩ := bo_one (op := .And) (jE b (R := R) c h3)
      have w := jw_and (jE a c h2).t h5
      exact ⟨je_and (jE a c h2).e h4, w.pt, fun _ _ _ _ => w⟩
    · replace h := ba h; obtain ⟨h2, h3⟩ := h
      have w := jw_and (jE a (R := R) c h2).t ((jE b c h3).w _ _ _ rfl)
      exact ⟨je_and (jE a c h2).e (jE b c h3).e, w.pt, fun _ _ _ _ => w⟩
    · cases h
  | .or a b, sc, X, R, x, c, h => by
    unfold ckE at h
    split at h
    case h_2 => exact absurd h Bool.false_ne_true
    replace h := da h; obtain ⟨h1, h⟩ := h
    subst h1
    split at h
    · replace h := ba h; obtain ⟨h2, h3⟩ := h
      obtain ⟨h4, h5⟩ := bo_one (op := .Or) (jE b (R := R) c h3)
      have w := jw_or (jE a c h2).t h5
      exact ⟨je_or (jE a c h2).e h4, w.pt, fun _ _ _ _ => w⟩
    · replace h := ba h; obtain ⟨h2, h3⟩ := h
      have w := jw_or (jE a (R := R) c h2).t ((jE b c h3).w _ _ _ rfl)
      exact ⟨je_or (jE a c h2).e (jE b c h3).e, w.pt, fun _ _ _ _ => w⟩
    · cases h
  | .ite t a b, sc, X, R, x, c, h => by
    unfold ckE at h
    split at h
    case h_2 => exact absurd h Bool.false_ne_true
    replace h := ba h; obtain ⟨h1, h⟩ := h
    replace h := ba h; obtain ⟨h2, h3⟩ := h
    exact .mk2 (je_ite (jE t c h1).t (jE a c h2).e (jE b c h3).e) (jt_ite (jE t c h1).t (jE a c h2).t (jE b c h3).t) (fun _ _ _ z => nomatch z)
  | .cmp o a b, sc, X, R, x, c, h => by
    unfold ckE at h
    split at h
    case h_2 => exact absurd h Bool.false_ne_true
    split at h
    case h_2 => exact absurd h Bool.false_ne_true
    replace h := da h; obtain ⟨h1, h⟩ := h
    replace h := ba h; obtain ⟨h2, h⟩ := h
    replace h := ba h; obtain ⟨h3, h4⟩ := h
    subst h1
    exact .mk2 (je_cmp c.hu (na h2) (jE a c h3).e (jE b c h4).e) (jt_cmp c.hu (na h2) (jE a c h3).e (jE b c h4).e) (fun _ _ _ z => nomatch z)
  | .cmp2 o a b o2 d, sc, X, R, x, c, h => by
    unfold ckE at h
    split at h
    case h_2 => exact absurd h Bool.false_ne_true
    split at h
    case h_2 => exact absurd h Bool.false_ne_true
    replace h := da h; obtain ⟨h1, h⟩ := h
    replace h := da h; obtain ⟨h1', h⟩ := h
    replace h := ba h; obtain ⟨h2, h⟩ := h
    replace h := ba h; obtain ⟨h3, h⟩ := h
    replace h := ba h; obtain ⟨h4, h5⟩ := h
    subst h1 h1'
    exact .mk2 (je_cmp2 c.hu (na h2) (jE a c h3).e (jE b c h4).e (jE d c h5).e) (jt_cmp2 c.hu (na h2) (jE a c h3).e (jE b c h4).e (jE d c h5).e) (fun _ _ _ z => nomatch z)
  | .cmp3 o a b o2 d o3 f, sc, X, R, x, c, h => by
    unfold ckE at h
    split at h
    case h_2 => exact absurd h Bool.false_ne_true
    split at h
    case h_2 => exact absurd h Bool.false_ne_true
    replace h := da h; obtain ⟨h1, h⟩ := h
    replace h := da h; obtain ⟨h1', h⟩ := h
    replace h := da h; obtain ⟨h1'', h⟩ := h
    replace h := ba h; obtain ⟨h2, h⟩ := h
    replace h := ba h; obtain ⟨h3, h⟩ := h
    replace h := ba h; obtain ⟨h4, h⟩ := h
    replace h := ba h; obtain ⟨h5, h6⟩ := h
    subst h1 h1' h1''
    exact .mk2 (je_cmp3 c.hu (na h2) (jE a c h3).e (jE b c h4).e (jE d c h5).e (jE f c h6).e) (jt_cmp3 c.hu (na h2) (jE a c h3).e (jE b c h4).e (jE d c h5).e (jE f c h6).e) (fun _ _ _ z => nomatch z)
  | .tup es, sc, X, R, x, c, h => by
    unfold ckE at h
    split at h
    case h_2 => exact absurd h Bool.false_ne_true
    exact .mk' (je_tup (jEs es c h)) rfl
  | .lst m es, sc, X, R, x, c, h => by
    unfold ckE at h
    split at h
    case h_2 => exact absurd h Bool.false_ne_true
    exact .mk' (je_lst (jEs es c h)) rfl
  | .px m p es, sc, X, R, x, c, h => by
    unfold ckE at h
    replace h := ba h; obtain ⟨_, h⟩ := h
    replace h := ba h; obtain ⟨hh, h⟩ := h
    replace hh := na hh
    split at h
    case h_2 => exact absurd h Bool.false_ne_true
    rename_i xs hp
    exact jpx c hh hp (jLs es c h)
  | .call f es, sc, X, R, x, c, h => by
    unfold ckE at h
    split at h
    case h_2 => exact absurd h Bool.false_ne_true
    rename_i m p xs kw pos
    replace h := da h; obtain ⟨h1, h⟩ := h
    replace h := ba h; obtain ⟨h2, h⟩ := h
    replace h := ba h; obtain ⟨h3, h⟩ := h
    replace h := ba h; obtain ⟨h4, h⟩ := h
    replace h := ba h; obtain ⟨h5, h6⟩ := h
    obtain rfl : kw = [] := by cases kw; rfl; cases h4
    cases xs with
    | nil => cases h5
    | cons y ys => exact .mk' (je_call c rfl h1 h2 h3 (goods_of h6) (jEs es c h6)) rfl
  | .bi m b es, sc, X, R, x, c, h => by
    unfold ckE at h
    split at h
    case h_2 => exact absurd h Bool.false_ne_true
    rename_i nm p xs kw pos
    replace h := da h; obtain ⟨h1, h⟩ := h
    replace h := ba h; obtain ⟨h2, h⟩ := h
    replace h := ba h; obtain ⟨h4, h⟩ := h
    replace h := ba h; obtain ⟨h5, h⟩ := h
    replace h := ba h; obtain ⟨hc, h⟩ := h
    obtain rfl : kw = [] := by cases kw; rfl; cases h4
    subst h1
    cases xs with
    | nil => cases h5
    | cons y ys =>
      have hot : b.cold = false → tb.hot = false := fun e => by rw [e] at hc; simpa using hc
      cases b with
      | listrange =>
        simp only at h
        split at h
        case h_2 => exact absurd h Bool.false_ne_true
        rename_i n2 p2 zs kw2 pos2 heq
        replace h := da h; obtain ⟨h6, h⟩ := h
        replace h := ba h; obtain ⟨h7, h⟩ := h
        replace h := ba h; obtain ⟨h8, h⟩ := h
        replace h := ba h; obtain ⟨h9, h10⟩ := h
        obtain rfl : kw2 = [] := by cases kw2; rfl; cases h8
        subst h6
        cases heq
        match zs, h9, h10 with
        | [z], _, h10 =>
          cases es with
          | nil => simp [ckEs] at h10
          | cons e r =>
            obtain ⟨q1, q2⟩ := ba (show (ckE tb N e sc z && ckEs tb N r sc []) = true by simpa only [ckEs] using h10)
            cases r with
            | nil => exact .mk' (je_lrg c (hot rfl) h2 h7 (noStar_of (good_of q1)) (jE e c q1).e) rfl
            | cons _ _ => simp [ckEs] at q2
        | [z, z2], _, h10 =>
          cases es with
          | nil => simp [ckEs] at h10
          | cons e r =>
            obtain ⟨q1, q2⟩ := ba (show (ckE tb N e sc z && ckEs tb N r sc [z2]) = true by simpa only [ckEs] using h10)
            cases r with
            | nil => simp [ckEs] at q2
            | cons e2 r2 =>
              obtain ⟨q3, q4⟩ := ba (show (ckE tb N e2 sc z2 && ckEs tb N r2 sc []) = true by simpa only [ckEs] using q2)
              cases r2 with
              | nil => exact .mk' (je_lrg2 c (hot rfl) h2 h7 (noStar_of (good_of q1)) (noStar_of (good_of q3)) (jE e c q1).e (jE e2 c q3).e) rfl
              | cons _ _ => simp [ckEs] at q4
      | tuprange =>
        simp only at h
        split at h
        case h_2 => exact absurd h Bool.false_ne_true
        rename_i n2 p2 zs kw2 pos2 heq
        replace h := da h; obtain ⟨h6, h⟩ := h
        replace h := ba h; obtain ⟨h7, h⟩ := h
        replace h := ba h; obtain ⟨h8, h⟩ := h
        replace h := da h; obtain ⟨h9, h10⟩ := h
        obtain rfl : kw2 = [] := by cases kw2; rfl; cases h8
        subst h6
        cases heq
        match zs, h9, h10 with
        | [z], _, h10 =>
          cases es with
          | nil => simp [ckEs] at h10
          | cons e r =>
            obtain ⟨q1, q2⟩ := ba (show (ckE tb N e sc z && ckEs tb N r sc []) = true by simpa only [ckEs] using h10)
            cases r with
            | nil => exact .mk' (je_trg c (hot rfl) h2 h7 (noStar_of (good_of q1)) (jE e c q1).e) rfl
            | cons _ _ => simp [ckEs] at q2
      | sortedset =>
        simp only at h
        split at h
        case h_2 => exact absurd h Bool.false_ne_true
        rename_i n2 p2 zs kw2 pos2 heq
        replace h := da h; obtain ⟨h6, h⟩ := h
        replace h := ba h; obtain ⟨h7, h⟩ := h
        replace h := ba h; obtain ⟨h8, h⟩ := h
        replace h := da h; obtain ⟨h9, h10⟩ := h
        obtain rfl : kw2 = [] := by cases kw2; rfl; cases h8
        subst h6
        cases heq
        match zs, h9, h10 with
        | [z], _, h10 =>
          cases es with
          | nil => simp [ckEs] at h10
          | cons e r =>
            obtain ⟨q1, q2⟩ := ba (show (ckE tb N e sc z && ckEs tb N r sc []) = true by simpa only [ckEs] using h10)
            cases r with
            | nil => exact .mk' (je_sset c (hot rfl) h2 h7 (noStar_of (good_of q1)) (jE e c q1).e) rfl
            | cons _ _ => simp [ckEs] at q2
      | lenset =>
        simp only at h
        split at h
        case h_2 => exact absurd h Bool.false_ne_true
        rename_i n2 p2 zs kw2 pos2 heq
        replace h := da h; obtain ⟨h6, h⟩ := h
        replace h := ba h; obtain ⟨h7, h⟩ := h
        replace h := ba h; obtain ⟨h8, h⟩ := h
        replace h := da h; obtain ⟨h9, h10⟩ := h
        obtain rfl : kw2 = [] := by cases kw2; rfl; cases h8
        subst h6
        cases heq
        match zs, h9, h10 with
        | [z], _, h10 =>
          cases es with
          | nil => simp [ckEs] at h10
          | cons e r =>
            obtain ⟨q1, q2⟩ := ba (show (ckE tb N e sc z && ckEs tb N r sc []) = true by simpa only [ckEs] using h10)
            cases r with
            | nil => exact .mk' (je_lset c (hot rfl) h2 h7 (noStar_of (good_of q1)) (jE e c q1).e) rfl
            | cons _ _ => simp [ckEs] at q2
      | len => exact .mk' (je_biB c (cb_len m) (by decide) h2 (by decide +kernel) (by decide) (by decide) (goods_of h) (jEs es c h)) rfl
      | abs => exact .mk' (je_biB c (cb_abs m) (by decide) h2 (by decide +kernel) (by decide) (by decide) (goods_of h) (jEs es c h)) rfl
      | repr => exact .mk' (je_biB c (cb_repr c.gd c.hu c.sm m) (by decide) h2 (by decide +kernel) (by decide) (by decide) (goods_of h) (jEs es c h)) rfl
      | all => exact .mk' (je_biB c (cb_all (c.calm (hot rfl)) m) (by decide) h2 (by decide +kernel) (by decide) (by decide) (goods_of h) (jEs es c h)) rfl
      | any => exact .mk' (je_biB c (cb_any (c.calm (hot rfl)) m) (by decide) h2 (by decide +kernel) (by decide) (by decide) (goods_of h) (jEs es c h)) rfl
      | sorted => exact .mk' (je_biB c (cb_sorted m) (by decide) h2 (by decide +kernel) (by decide) (by decide) (goods_of h) (jEs es c h)) rfl
      | tuple => exact .mk' (je_biT c (cb_tuple m) (by decide) h2 (by decide +kernel) (by decide) (by decide) (goods_of h) (jEs es c h)) rfl
      | list => exact .mk' (je_biT c (cb_list m) (by decide) h2 (by decide +kernel) (by decide) (by decide) (goods_of h) (jEs es c h)) rfl
      | int => exact .mk' (je_biT c (cb_int m) (by decide) h2 (by decide +kernel) (by decide) (by decide) (goods_of h) (jEs es c h)) rfl
      | str => exact .mk' (je_biT c (cb_str m) (by decide) h2 (by decide +kernel) (by decide) (by decide) (goods_of h) (jEs es c h)) rfl
      | sum => exact .mk' (je_biB c (cb_sum (c.calm (hot rfl)) m) (by decide) h2 (by decide +kernel) (by decide) (by decide) (goods_of h) (jEs es c h)) rfl
      | min1 => exact .mk' (je_biB c (cb_min1 (c.calm (hot rfl)) m) (by decide) h2 (by decide +kernel) (by decide) (by decide) (goods_of h) (jEs es c h)) rfl
      | max1 => exact .mk' (je_biB c (cb_max1 (c.calm (hot rfl)) m) (by decide) h2 (by decide +kernel) (by decide) (by decide) (goods_of h) (jEs es c h)) rfl
      | min2 => exact .mk' (je_biB c (cb_min2 (c.calm (hot rfl)) m) (by decide) h2 (by decide +kernel) (by decide) (by decide) (goods_of h) (jEs es c h)) rfl
      | max2 => exact .mk' (je_biB c (cb_max2 (c.calm (hot rfl)) m) (by decide) h2 (by decide +kernel) (by decide) (by decide) (goods_of h) (jEs es c h)) rfl
      | _ => cases h
  | .isi e ts, sc, X, R, x, c, h => by
    unfold ckE at h
    split at h
    case h_2 => exact absurd h Bool.false_ne_true
    rename_i nm p y t kw pos
    replace h := da h; obtain ⟨h1, h⟩ := h
    replace h := ba h; obtain ⟨h2, h⟩ := h
    replace h := ba h; obtain ⟨h3, h⟩ := h
    replace h := ba h; obtain ⟨h4, h⟩ := h
    obtain rfl : kw = [] := by cases kw; rfl; cases h3
    subst h1
    split at h
    · exact .mk' (je_isi1 c h2 (noStar_of (good_of h4)) (jE e c h4).e h) rfl
    · split at h
      case h_2 => exact absurd h Bool.false_ne_true
      exact .mk' (je_isiN c h2 (noStar_of (good_of h4)) (jE e c h4).e h) rfl
  | .isE e tu ts, sc, X, R, x, c, h => by
    unfold ckE at h
    split at h
    case h_2 => exact absurd h Bool.false_ne_true
    rename_i nm p y t kw pos
    replace h := da h; obtain ⟨h1, h⟩ := h
    replace h := ba h; obtain ⟨h2, h⟩ := h
    replace h := ba h; obtain ⟨h3, h⟩ := h
    replace h := ba h; obtain ⟨h4, h⟩ := h
    replace h := ba h; obtain ⟨h5, h⟩ := h
    replace h := ba h; obtain ⟨hc, h⟩ := h
    replace h := ba h; obtain ⟨h6, h⟩ := h
    replace hc : tb.cs ≠ [] := fun z => by rw [z] at hc; cases hc
    obtain rfl : kw = [] := by cases kw; rfl; cases h3
    subst h1
    replace h5 : ∀ t ∈ ts, xsT tb.cs t ∧ (t == ("__debug__" : Str)) = false := fun t ht => by
      have h7 := List.all_eq_true.mp h5 t ht
      replace h7 := ba h7; obtain ⟨q1, q2⟩ := h7
      exact ⟨xsB_of q1, na q2⟩
    cases tu with
    | false =>
      rw [if_neg Bool.false_ne_true] at h
      split at h
      case h_2 => exact absurd h Bool.false_ne_true
      rename_i t'
      exact .mk' (je_isX1 c hc h2 (noStar_of (good_of h6)) (h5 _ List.mem_cons_self).1 (h5 _ List.mem_cons_self).2 (jE e c h6).e h) rfl
    | true =>
      rw [if_pos rfl] at h
      split at h
      case h_2 => exact absurd h Bool.false_ne_true
      replace h := da h; obtain ⟨q1, h⟩ := h
      have hsz := sizeLine_eq
      exact .mk' (je_isXN c hc h2 (noStar_of (good_of h6)) (by omega) h5 (jE e c h6).e h) rfl
  | .fldE e f, sc, X, R, x, c, h => by
    unfold ckE at h
    split at h
    case h_2 => exact absurd h Bool.false_ne_true
    replace h := da h; obtain ⟨h1, h⟩ := h
    replace h := ba h; obtain ⟨h2, h⟩ := h
    replace h := ba h; obtain ⟨h3, h4⟩ := h
    subst h1
    exact .mk' (je_fld c h3 (jE e c h4).e) rfl
  | .mth m r es, sc, X, R, x, c, h => by
    unfold ckE at h
    split at h
    case h_2 => exact absurd h Bool.false_ne_true
    rename_i o a apos xs kw pos
    replace h := da h; obtain ⟨h1, h⟩ := h
    replace h := ba h; obtain ⟨h2, h⟩ := h
    replace h := ba h; obtain ⟨h3, h⟩ := h
    replace h := ba h; obtain ⟨h4, h⟩ := h
    replace h := ba h; obtain ⟨h5, h⟩ := h
    obtain rfl : kw = [] := by cases kw; rfl; cases h2
    subst h1
    obtain ⟨h6, h7, h8⟩ : ckEs tb N es sc xs = true ∧ xs.length < 30 ∧ (xs = [] → es = .nil) := by
      cases m <;> simp only at h <;> first
        | cases h
        | skip
      case pop0 =>
        replace h := ba h; obtain ⟨q1, q2⟩ := h
        have : xs = [] := by simpa using q1
        subst this
        refine ⟨q2, by decide, fun _ => ?_⟩
        cases es with
        | nil => rfl
        | cons => simp [ckEs] at q2
      all_goals
        replace h := da h; obtain ⟨q1, q2⟩ := h
        exact ⟨q2, by omega, fun z => by rw [z] at q1; cases q1⟩
    exact .mk' (je_mth c.hu h3 h4 (goods_of h6) h7 (jE r c h5).e (jEs es c h6) h8) rfl
  | .idx a i, sc, X, R, x, c, h => by
    unfold ckE at h
    split at h
    case h_2 => exact absurd h Bool.false_ne_true
    replace h := ba h; obtain ⟨h1, h2⟩ := h
    exact .mk' (je_idx (noSlice_of (good_of h2)) (jE a c h1).e (jE i c h2).e) rfl
  | .sl a lo hi, sc, X, R, x, c, h => by
    unfold ckE at h
    split at h
    case h_2 => exact absurd h Bool.false_ne_true
    replace h := ba h; obtain ⟨h1, h⟩ := h
    replace h := ba h; obtain ⟨h2, h3⟩ := h
    exact .mk' (je_sl (jE a c h1).e (jO lo c h2) (jO hi c h3)) rfl
  | .rev a, sc, X, R, x, c, h => by
    unfold ckE at h
    split at h
    case h_2 => exact absurd h Bool.false_ne_true
    replace h := da h; obtain ⟨h1, h⟩ := h
    replace h := da h; obtain ⟨h2, h3⟩ := h
    subst h1 h2
    exact .mk' (je_rev (jE a c h3).e) rfl
  | .lc m e g it t, sc, X, R, x, c, h => by
    unfold ckE at h
    split at h
    case h_2 => exact absurd h Bool.false_ne_true
    rename_i el tg iter ifs asy scope pos
    replace h := ba h; obtain ⟨hh, h⟩ := h
    replace hh := na hh
    have hx := c.cold hh
    replace h := da h; obtain ⟨h1, h⟩ := h
    replace h := ba h; obtain ⟨h2, h⟩ := h
    replace h := ba h; obtain ⟨h3, h⟩ := h
    replace h := ba h; obtain ⟨h4, h⟩ := h
    replace h := ba h; obtain ⟨h5, h6⟩ := h
    subst h1
    have key := pe_lc (X := X) (pos := pos) (g := gD X g) (tt := tDt0 X.K (wpT (scX P G n e0) (fun _ _ => False) t)) (te := tD0 X.K (wpE (scX P G n e0) (fun _ _ => False) e)) (c.calm hh) (by rw [c.hN]; exact c.nd) (jI it (R := R) c h2 h4) (by rw [c.hN, c.hs]; exact blkOk_by h3) (blk_g c hh h4) (fun s H C cl fp => PTs_f hx (jT t (R := fun _ _ => False) (c.blk (s := s) (H := H) (C := C) (cl := cl) (fp := fp)) h5)) (fun s H C cl fp => PE_f hx (jE e (R := fun _ _ => False) (c.blk (s := s) (H := H) (C := C) (cl := cl) (fp := fp)) h6).e) (fsi (goodI h2))
    rw [own_map] at key
    refine .mk' (PE_imp key fun σ H Q w => lc_read (m := m) (fun i hi => hi) σ H Q ?_) rfl
    obtain ⟨F, M, Z, ρ, Q', sr, re, hw, k⟩ := w
    simp only [wpE] at hw
    exact ⟨F, M, Z, ρ, Q', sr, re, hw, k⟩
  | .dc ke ve g it t, sc, X, R, x, c, h => by
    unfold ckE at h
    split at h
    case h_2 => exact absurd h Bool.false_ne_true
    rename_i el vl tg iter ifs asy scope pos
    replace h := ba h; obtain ⟨hh, h⟩ := h
    replace hh := na hh
    have hx := c.cold hh
    replace h := da h; obtain ⟨h1, h⟩ := h
    replace h := ba h; obtain ⟨h2, h⟩ := h
    replace h := ba h; obtain ⟨h3, h⟩ := h
    replace h := ba h; obtain ⟨h4, h⟩ := h
    replace h := ba h; obtain ⟨h5, h⟩ := h
    replace h := ba h; obtain ⟨h6, h7⟩ := h
    subst h1
    have hu := c.hu
    have key := pe_dct (X := X) (pos := pos) (g := gD X g) (tt := tDt0 X.K (wpT (scX P G n e0) (fun _ _ => False) t)) (tk := tD0 X.K (wpE (scX P G n e0) (fun _ _ => False) ke)) (tv := tD0 X.K (wpE (scX P G n e0) (fun _ _ => False) ve)) (by omega) (c.calm hh) (by rw [c.hN]; exact c.nd) (jI it (R := R) c h2 h4) (by rw [c.hN, c.hs]; exact blkOk_by h3) (blk_g c hh h4) (fun s H C cl fp => PTs_f hx (jT t (R := fun _ _ => False) (c.blk (s := s) (H := H) (C := C) (cl := cl) (fp := fp)) h5)) (fun s H C cl fp => PE_f hx (jE ke (R := fun _ _ => False) (c.blk (s := s) (H := H) (C := C) (cl := cl) (fp := fp)) h6).e) (fun s H C cl fp => PE_f hx (jE ve (R := fun _ _ => False) (c.blk (s := s) (H := H) (C := C) (cl := cl) (fp := fp)) h7).e) (fsi (goodI h2))
    rw [own_map] at key
    refine .mk' (PE_imp key fun σ H Q w => dc_read (fun i hi => hi) σ H Q ?_) rfl
    obtain ⟨F, M, Z, ρ, Q', sr, re, hw, k⟩ := w
    simp only [wpE] at hw
    exact ⟨F, M, Z, ρ, Q', sr, re, hw, k⟩
  | .lc2 m e g it t g2 it2 t2, sc, X, R, x, c, h => by
    unfold ckE at h
    split at h
    case h_2 => exact absurd h Bool.false_ne_true
    rename_i el tg iter ifs asy tg2 iter2 ifs2 asy2 scope pos
    replace h := ba h; obtain ⟨hh, h⟩ := h
    replace hh := na hh
    have hx := c.cold hh
    replace h := da h; obtain ⟨h1, h⟩ := h
    replace h := da h; obtain ⟨h1', h⟩ := h
    replace h := ba h; obtain ⟨h2, h⟩ := h
    replace h := ba h; obtain ⟨h3, h⟩ := h
    replace h := ba h; obtain ⟨h4, h⟩ := h
    replace h := ba h; obtain ⟨h5, h⟩ := h
    replace h := ba h; obtain ⟨h6, h⟩ := h
    replace h := ba h; obtain ⟨h7, h⟩ := h
    replace h := ba h; obtain ⟨h8, h9⟩ := h
    subst h1 h1'
    have key := pe_lc2 (X := X) (pos := pos) (g := gD X g) (tt := tDt0 X.K (wpT (scX P G n e0) (fun _ _ => False) t)) (g1 := gD X g2) (tt1 := tDt0 X.K (wpT (scX P G n e0) (fun _ _ => False) t2)) (te := tD0 X.K (wpE (scX P G n e0) (fun _ _ => False) e)) (wi1 := tDi0 X.K g2 (wpI (scX P G n e0) (fun _ _ => False) it2)) (vs1 := g2.own) (c.calm hh) (by rw [c.hN]; exact c.nd) (jI it (R := R) c h2 h4) (by rw [c.hN, c.hs]; exact blkOk_by h3) (by rw [own_map]; exact fun i hi => List.mem_append_right _ hi) (blk_g c hh h4) (fun s H C cl fp => PTs_f hx (jT t (R := fun _ _ => False) (c.blk (s := s) (H := H) (C := C) (cl := cl) (fp := fp)) h5))
      (fun s H C cl fp => PI_f hx (jI it2 (R := fun _ _ => False) (c.blk (s := s) (H := H) (C := C) (cl := cl) (fp := fp)) h6 h7)) (blk_g c hh h7) (fun s H C cl fp => PTs_f hx (jT t2 (R := fun _ _ => False) (c.blk (s := s) (H := H) (C := C) (cl := cl) (fp := fp)) h8)) (fun s H C cl fp => PE_f hx (jE e (R := fun _ _ => False) (c.blk (s := s) (H := H) (C := C) (cl := cl) (fp := fp)) h9).e) (fsi (goodI h2)) (fun env => fsi (goodI h6))
    rw [own_map] at key
    refine .mk' (PE_imp key fun σ H Q w => lc2_read (m := m) (fun i hi => List.mem_append_left _ hi) (fun i hi => List.mem_append_right _ hi) σ H Q ?_) rfl
    obtain ⟨F, M, Z, ρ, Q', sr, re, hw, k⟩ := w
    simp only [wpE] at hw
    exact ⟨F, M, Z, ρ, Q', sr, re, hw, k⟩
theorem jEs : ∀ (es : Es) {sc : Scope} {X : Cx} {R : Xc → MH → Prop} {xs : List Expr}, CK P G tb n e0 N sc X → ckEs tb N es sc xs = true → PA X xs (tDs X tb (scX P G n e0) R (wpEs (scX P G n e0) R es))
  | .nil, sc, X, R, xs, c, h => by
    unfold ckEs at h
    cases xs with
    | nil => exact ja_nil
    | cons => cases h
  | .cons e r, sc, X, R, xs, c, h => by
    unfold ckEs at h
    split at h
    case h_2 => exact absurd h Bool.false_ne_true
    replace h := ba h; obtain ⟨h1, h2⟩ := h
    exact ja_cons (noStar_of (good_of h1)) (jE e c h1).e (jEs r c h2)
theorem jLs : ∀ (es : Es) {sc : Scope} {X : Cx} {R : Xc → MH → Prop} {xs : List Expr}, CK P G tb n e0 N sc X → ckEs tb N es sc xs = true → JL X tb (scX P G n e0) R es xs
  | .nil, sc, X, R, xs, c, h => by
    unfold ckEs at h
    cases xs with
    | nil => exact .nil
    | cons => cases h
  | .cons e r, sc, X, R, xs, c, h => by
    unfold ckEs at h
    split at h
    case h_2 => exact absurd h Bool.false_ne_true
    replace h := ba h; obtain ⟨h1, h2⟩ := h
    exact .cons (good_of h1) (jE e c h1) (jLs r c h2)
theorem jO : ∀ (o : Eo) {sc : Scope} {X : Cx} {R : Xc → MH → Prop} {x : Option Expr}, CK P G tb n e0 N sc X → ckO tb N o sc x = true → PO X x (tDo X tb (scX P G n e0) R fun ρ M Q => wpO (scX P G n e0) R o ρ M fun l M1 => optI l fun o => Q o M1)
  | .non, sc, X, R, x, c, h => by
    unfold ckO at h
    cases x with
    | none => exact jo_non
    | some => cases h
  | .som e, sc, X, R, x, c, h => by
    unfold ckO at h
    split at h
    case h_2 => exact absurd h Bool.false_ne_true
    exact jo_som (jE e c h).e
theorem jT : ∀ (o : Eo) {sc : Scope} {X : Cx} {R : Xc → MH → Prop} {xs : List Expr}, CK P G tb n e0 N sc X → ckT tb N o sc xs = true → PTs X xs (tDt X tb (scX P G n e0) R (wpT (scX P G n e0) R o))
  | .non, sc, X, R, xs, c, h => by
    unfold ckT at h
    cases xs with
    | nil =>
      refine ⟨fun pins s σ H Q I hq => pts_nil.run pins s σ H Q I ?_⟩
      obtain ⟨F, M, Z, ρ, Q', sr, re, hw, k⟩ := hq
      simp only [wpT] at hw
      exact k _ _ ⟨F, M, Same.refl F, sr, hw⟩
    | cons => cases h
  | .som e, sc, X, R, xs, c, h => by
    unfold ckT at h
    split at h
    case h_2 => exact absurd h Bool.false_ne_true
    refine ⟨fun pins s σ H Q I hq => (pts_one (jE (R := R) e c h).t).run pins s σ H Q I ?_⟩
    obtain ⟨F, M, Z, ρ, Q', sr, re, hw, k⟩ := hq
    simp only [wpT] at hw
    exact ⟨F, M, Z, ρ, Q', sr, re, hw, k⟩
theorem jI : ∀ (it : It) {sc sc' : Scope} {X : Cx} {R : Xc → MH → Prop} {tg x : Expr} {g : Tg} {fn : Str → Bool}, CK P G tb n e0 N sc X → ckI tb N it sc tg x = true → ckG N sc' fn g tg = true → PI X tg x (tDi X tb (scX P G n e0) R g (wpI (scX P G n e0) R it))
  | .ex e, sc, sc', X, R, tg, x, g, fn, c, h, hg => by
    unfold ckI at h
    exact ji_ex (jE e c h).e
  | .dks e, sc, sc', X, R, tg, x, g, fn, c, h, hg => by
    unfold ckI at h
    exact ji_dks (jE e c h).e
  | .dvs e, sc, sc', X, R, tg, x, g, fn, c, h, hg => by
    unfold ckI at h
    split at h
    case h_2 => exact absurd h Bool.false_ne_true
    replace h := da h; obtain ⟨h1, h⟩ := h
    replace h := ba h; obtain ⟨h2, h⟩ := h
    replace h := ba h; obtain ⟨h3, h4⟩ := h
    subst h1
    exact ji_dvs h2 h3 (jE e c h4).e
  | .dis e, sc, sc', X, R, tg, x, g, fn, c, h, hg => by
    unfold ckI at h
    split at h
    case h_2 => exact absurd h Bool.false_ne_true
    split at h
    case h_2 => exact absurd h Bool.false_ne_true
    replace h := da h; obtain ⟨h1, h⟩ := h
    replace h := ba h; obtain ⟨h2, h⟩ := h
    replace h := ba h; obtain ⟨h3, h4⟩ := h
    subst h1
    cases g with
    | nm i => simp [ckG] at hg
    | tp gs => exact ji_dis h2 h3 (jE e c h4).e
  | .rng e, sc, sc', X, R, tg, x, g, fn, c, h, hg => by
    unfold ckI at h
    split at h
    case h_2 => exact absurd h Bool.false_ne_true
    rename_i nm p a kw pos
    replace h := da h; obtain ⟨h1, h⟩ := h
    replace h := ba h; obtain ⟨h2, h⟩ := h
    replace h := ba h; obtain ⟨h3, h4⟩ := h
    obtain rfl : kw = [] := by cases kw; rfl; cases h3
    subst h1
    exact ji_rng c h2 (noStar_of (good_of h4)) (jE e c h4).e
  | .rng2 a b, sc, sc', X, R, tg, x, g, fn, c, h, hg => by
    unfold ckI at h
    split at h
    case h_2 => exact absurd h Bool.false_ne_true
    rename_i nm p u v kw pos
    replace h := da h; obtain ⟨h1, h⟩ := h
    replace h := ba h; obtain ⟨h2, h⟩ := h
    replace h := ba h; obtain ⟨h3, h⟩ := h
    replace h := ba h; obtain ⟨h4, h5⟩ := h
    obtain rfl : kw = [] := by cases kw; rfl; cases h3
    subst h1
    exact ji_rng2 c h2 (noStar_of (good_of h4)) (noStar_of (good_of h5)) (jE a c h4).e (jE b c h5).e
  | .enu e, sc, sc', X, R, tg, x, g, fn, c, h, hg => by
    unfold ckI at h
    split at h
    case h_2 => exact absurd h Bool.false_ne_true
    split at h
    case h_2 => exact absurd h Bool.false_ne_true
    rename_i nm p a kw pos
    replace h := da h; obtain ⟨h1, h⟩ := h
    replace h := ba h; obtain ⟨h2, h⟩ := h
    replace h := ba h; obtain ⟨h3, h4⟩ := h
    obtain rfl : kw = [] := by cases kw; rfl; cases h3
    subst h1
    cases g with
    | nm i => simp [ckG] at hg
    | tp gs => exact ji_enu c h2 (noStar_of (good_of h4)) (jE e c h4).e
  | .zip a b, sc, sc', X, R, tg, x, g, fn, c, h, hg => by
    unfold ckI at h
    split at h
    case h_2 => exact absurd h Bool.false_ne_true
    split at h
    case h_2 => exact absurd h Bool.false_ne_true
    rename_i nm p u v kw pos
    replace h := da h; obtain ⟨h1, h⟩ := h
    replace h := ba h; obtain ⟨h2, h⟩ := h
    replace h := ba h; obtain ⟨h3, h⟩ := h
    replace h := ba h; obtain ⟨h4, h5⟩ := h
    obtain rfl : kw = [] := by cases kw; rfl; cases h3
    subst h1
    cases g with
    | nm i => simp [ckG] at hg
    | tp gs => exact ji_zip c h2 (noStar_of (good_of h4)) (noStar_of (good_of h5)) (jE a c h4).e (jE b c h5).e
end
end
end T
set_option Elab.async false
set_option linter.all false
set_option maxRecDepth 100000
set_option maxHeartbeats 400000
namespace T
open PySem PySem.Spec PyProof.Rows L2 HT
def swN (sc : Scope) (ts : List Expr) : List Str :=
  ts.filterMap fun
    | .Name id pos => if sc.names.lookup id == some .local && pos.line == (ts.head?.map (·.pos.line)).getD 0 then some id else none
    | _ => none
def swp2 (sc : Scope) (ts vs : List Expr) : Option (Option (List Str)) :=
    if (!(ts.length == 2 || ts.length == 3) || vs.length != ts.length || sc.kind != .function) = true then some none else
    if (vs.any fun | .Starred .. => true | _ => false) = true then some none else
    if ((swN sc ts).length != ts.length || (swN sc ts).eraseDups.length != (swN sc ts).length) = true then some none else
    if vs.all (foldedForSure 8) = true then some none else
    if vs.all (constantsAlone 8) = true then none else some (some (swN sc ts))
def swp (sc : Scope) (t : Expr) (value : Expr) : Option (Option (List Str)) := match t with
  | .Tuple ts _ _ => (match value with
    | .Tuple vs _ _ => swp2 sc ts vs
    | _ => some none)
  | .Name _ _ => some none
  | _ => none
theorem swp_ok {sc : Scope} {env : Env} {t : Expr} {value : Expr} {o : Option (List Str)} (hs : env.scope = sc) (hk : sc.kind = .function) (h : swp sc t value = some o) : swappedStores [t] value env = pure o := by
  have hb : env.blockKind = sc.kind := by unfold Env.blockKind; rw [hs, hk]; rfl
  subst hs
  cases t <;> first
    | exact nomatch (show (none : Option (Option (List Str))) = some o from h)
    | skip
  case Name =>
    cases h
    cases value <;> rfl
  case Tuple ts k p =>
    cases value <;> first
      | (cases h; rfl)
      | skip
    rename_i vs k2 p2
    have h : swp2 env.scope ts vs = some o := h
    unfold swp2 at h
    unfold swappedStores
    rw [← hb] at h
    by_cases c1 : (!(ts.length == 2 || ts.length == 3) || vs.length != ts.length || env.blockKind != .function) = true
    · rw [if_pos c1] at h; cases h
      exact if_pos c1
    rw [if_neg c1] at h
    refine (if_neg c1).trans ?_
    by_cases c2 : (vs.any fun | .Starred .. => true | _ => false) = true
    · rw [if_pos c2] at h; cases h
      exact if_pos c2
    rw [if_neg c2] at h
    refine (if_neg c2).trans ?_
    by_cases c3 : ((swN env.scope ts).length != ts.length || (swN env.scope ts).eraseDups.length != (swN env.scope ts).length) = true
    · rw [if_pos c3] at h; cases h
      exact if_pos c3
    rw [if_neg c3] at h
    refine (if_neg c3).trans ?_
    by_cases c4 : vs.all (foldedForSure 8) = true
    · rw [if_pos c4] at h; cases h
      exact if_pos c4
    rw [if_neg c4] at h
    refine (if_neg c4).trans ?_
    by_cases c5 : vs.all (constantsAlone 8) = true
    · rw [if_pos c5] at h; cases h
    rw [if_neg c5] at h
    cases h
    refine (if_neg c5).trans ?_
    rfl
def compS : Expr → Option Scope
  | .ListComp _ _ s _ => some s
  | .SetComp _ _ s _ => some s
  | .DictComp _ _ _ s _ => some s
  | _ => none
def swb (sc : Scope) (value : Expr) (target : Expr) : Bool :=
  match compS value with
  | none => false
  | some scope => match target with
    | .Name t pos => sc.kind == .function && sc.names.lookup t == some .local && pos.line == value.pos.line && !(scope.names.any fun (n, k) => n == t && (k == .local || k == .cell))
    | _ => false
theorem swb_ok {sc : Scope} {env : Env} {t value : Expr} {l : Nat} (hs : env.scope = sc) (hk : sc.kind = .function) : swapsWith value (some t) l env = pure (swb sc value t) := by
  have hb : env.blockKind = sc.kind := by unfold Env.blockKind; rw [hs, hk]; rfl
  subst hs
  cases value <;> first
    | rfl
    | (cases t <;> first
        | rfl
        | (unfold swapsWith swb compS
           rw [← hb]
           rfl))
def Tg.isNm : Tg → Bool
  | .nm _ => true
  | .tp _ => false
def isLc : Ex → Bool
  | .lc .. => true
  | .lc2 .. => true
  | _ => false
def lkB (sc : Scope) (n : Str) : Bool := decide (sc.names.lookup n = some .local)
mutual
def ckS (tb : Tb) (N : List Str) (sc : Scope) : Sm → Stmt → Bool
  | .par2 i j a b, st => match st with
    | .Assign [.Tuple [.Name x px, .Name y py] kt pt] (.Tuple [u, v] k2 pt2) _ => !tb.hot && (decide (N[i]? = some x) && (decide (N[j]? = some y) && (decide (i ≠ j) && (lkB sc x && (lkB sc y && (decide (swp sc (.Tuple [.Name x px, .Name y py] kt pt) (.Tuple [u, v] k2 pt2) = some (some [x, y])) && (ckE tb N a sc u && ckE tb N b sc v)))))))
    | _ => false
  | .par3 i j l a b c, st => match st with
    | .Assign [.Tuple [.Name x px, .Name y py, .Name z pz] kt pt] (.Tuple [u, v, w] k2 pt2) _ => !tb.hot && (decide (N[i]? = some x) && (decide (N[j]? = some y) && (decide (N[l]? = some z) && (decide (i ≠ j ∧ i ≠ l ∧ j ≠ l) && (lkB sc x && (lkB sc y && (lkB sc z && (decide (swp sc (.Tuple [.Name x px, .Name y py, .Name z pz] kt pt) (.Tuple [u, v, w] k2 pt2) = some (some [x, y, z])) && (ckE tb N a sc u && (ckE tb N b sc v && ckE tb N c sc w))))))))))
    | _ => false
  | .asg g e, st => match st with
    | .Assign [t] v _ => (!tb.hot || g.isNm) && (ckG N sc (fun _ => true) g t && (ckE tb N e sc v && (decide (swp sc t v = some none) && (!swb sc v t || isLc e))))
    | _ => false
  | .asgO g a b, st => match st with
    | .Assign [t] (.BoolOp op [l, r] bp) _ => !tb.hot && (ckG N sc (fun _ => true) g t && (decide (op = .Or) && (ckE tb N a sc l && (ckE tb N b sc r && (decide (swp sc t (.BoolOp op [l, r] bp) = some none) && !swb sc (.BoolOp op [l, r] bp) t)))))
    | _ => false
  | .sto a i e, st => match st with
    | .Assign [.Subscript o k _] v _ => ckE tb N a sc o && (ckE tb N i sc k && ckE tb N e sc v)
    | _ => false
  | .swp a i b j e, st => match st with
    | .Assign [.Tuple [.Subscript o k p, .Subscript o2 k2 p2] kk tp] v _ => !tb.hot && (ckE tb N a sc o && (ckE tb N i sc k && (ckE tb N b sc o2 && (ckE tb N j sc k2 && (ckE tb N e sc v && (decide (swp sc (.Tuple [.Subscript o k p, .Subscript o2 k2 p2] kk tp) v = some none) && !swb sc v (.Tuple [.Subscript o k p, .Subscript o2 k2 p2] kk tp)))))))
    | _ => false
  | .exp e, st => match st with
    | .Expr v _ => noComp v && ckE tb N e sc v
    | _ => false
  | .ret e, st => match st with
    | .Return (some v) _ => ckE tb N e sc v
    | _ => false
  | .ret0, st => match st with
    | .Return none _ => true
    | _ => false
  | .pass, st => match st with
    | .Pass _ => true
    | _ => false
  | .never, _ => true
  | .iff c t e, st => match st with
    | .If x p q _ => ckE tb N c sc x && (ckB tb N sc t p && ckB tb N sc e q)
    | _ => false
  | .whl c b, st => match st with
    | .While x p [] _ => ckE tb N c sc x && ckB tb N sc b p
    | _ => false
  | .for g it b, st => match st with
    | .For t x p [] _ => !tb.hot && (ckI tb N it sc t x && (ckG N sc (fun _ => true) g t && ckB tb N sc b p))
    | _ => false
  | .rai c f e, st => match st with
    | .Raise (some (.Call (.Name x _) [y] [] _)) none _ => !tb.hot && (decide (x = c) && (glB sc x && (okN x && (tb.cs.contains (c, some f) && ckE tb N e sc y))))
    | _ => false
  | .rai0 c, st => match st with
    | .Raise (some (.Call (.Name x _) [] [] _)) none _ => !tb.hot && (decide (x = c) && (glB sc x && (okN x && tb.cs.contains (c, none))))
    | _ => false
  | .tryE b c i h, st => match st with
    | .Try body [.ExceptHandler (some (.Name x _)) (some y) (b₀ :: suite) _] [] [] _ => !tb.hot && (decide (x = c) && (glB sc x && (okN x && (xsB tb c && (!tb.cs.isEmpty && (decide (N[i]? = some y) && (lkB sc y && (ckB tb N sc b body && ckB tb.toHot N sc h (b₀ :: suite)))))))))
    | _ => false
def ckB (tb : Tb) (N : List Str) (sc : Scope) : Ss → List Stmt → Bool
  | .nil, sts => sts.isEmpty
  | .cons s r, sts => match sts with
    | st :: sts => ckS tb N sc s st && ckB tb N sc r sts
    | _ => false
end
structure CS (P : Nat → Option Fn) (G : Nat → Option D) (tb : Tb) (n : Nat) (e0 : Option (Addr × Xc)) (N : List Str) (sc : Scope) (X : Cx) : Prop extends CK P G tb n e0 N sc X where
  fn : ∀ y, X.fn y = true
  kind : sc.kind = .function
  po : PassesOwn (model X.prog X.w) X.A X.env X.xe
  stk : X.stack = X.env :: X.outer
  frm : X.env.frame = some X.env.locals
  hcall : ∀ p f x, tb.hfn f = some x → ∃ addr fd ps, X.mg x = some (.ref addr) ∧ PySem.W.keepIn X.K (.ref addr) = true ∧ Binds X.K fd ps [] ∧ FG X.prog X.w X.K X.mg X.base n (some p) addr fd ps (spD X.K tb.cs P G n (some p) f)
def KN (K : PySem.W.Frag) (F Z : Hp) (N' : En → MH → Prop) (σ' : L2.St) (H' : Hp) : Prop := ∃ F' M' ρ', Same F F' ∧ SR K F' M' Z H' ∧ RE K F' σ' ρ' ∧ N' ρ' M'
def tDS (X : Cx) (tb : Tb) (C : SC) (R : Xc → En → MH → Prop) (wp : En → MH → (En → MH → Prop) → (D → MH → Prop) → Prop) : TS := fun D σ H => ∃ F M Z ρ N' T', SR X.K F M Z H ∧ RS X tb C R F Z σ ρ ∧ wp ρ M N' T' ∧ (∀ σ' H', KN X.K F Z N' σ' H' → D.nx σ' H') ∧ ∀ v H', KQ X.K F Z T' v H' → D.rt v H'
section
variable {P : Nat → Option Fn} {G : Nat → Option D} {tb : Tb} {n : Nat} {e0 : Option (Addr × Xc)} {N : List Str} {sc : Scope} {X : Cx} {R : Xc → En → MH → Prop} {C : SC}
theorem PS_imp {st : Stmt} {t t' : TS} (h : PS X st t) (i : ∀ D σ H, t' D σ H → t D σ H) : PS X st t' := ⟨fun pins s σ H D I w => h.run pins s σ H D I (i D σ H w)⟩
theorem PE_dep {e : Ex} {x : Expr} (h : ∀ R, PE X x (tD X tb C R (wpE C R e))) : PE X x (tDd X tb C R fun ρ => wpE C (fun x M' => R x ρ M') e ρ) := by
  refine ⟨fun pins s σ H Q I w => ?_⟩
  obtain ⟨F, M, Z, ρ, Q', sr, re, r⟩ := w
  exact (h (fun x M' => R x ρ M')).run pins s σ H Q I ⟨F, M, Z, ρ, Q', sr, re.x, r⟩
theorem PT_dep {e : Ex} {x : Expr} (h : ∀ R, PT X x (tDt X tb C R (wpB' C R e))) : PT X x (tDtd X tb C R fun ρ => wpB' C (fun x M' => R x ρ M') e ρ) := by
  refine ⟨fun pins s σ H Q I w => ?_⟩
  obtain ⟨F, M, Z, ρ, Q', sr, re, r⟩ := w
  exact (h (fun x M' => R x ρ M')).run pins s σ H Q I ⟨F, M, Z, ρ, Q', sr, re.x, r⟩
theorem PI_dep {it : It} {g : Tg} {tg x : Expr} (h : ∀ R, PI X tg x (tDi X tb C R g (wpI C R it))) : PI X tg x (tDid X tb C R g fun ρ => wpI C (fun x M' => R x ρ M') it ρ) := by
  refine ⟨fun pins s σ H Q I w => ?_⟩
  obtain ⟨F, M, Z, ρ, Q', sr, re, r⟩ := w
  exact (h (fun x M' => R x ρ M')).run pins s σ H Q I ⟨F, M, Z, ρ, Q', sr, re.x, r⟩
theorem lk_of {x : Str} (c : CS P G tb n e0 N sc X) (h : lkB sc x = true) : X.env.scope.names.lookup x = some .local := by rw [c.hs]; exact of_decide_eq_true h
theorem rep_asg {g : Tg} {e : Ex} : ∀ D σ H, tDS X tb C R (wpS C R (.asg g e)) D σ H → tAsg (tDd X tb C R (fun ρ => wpE C (fun x M' => R x ρ M') e ρ)) (gD X g) D σ H := fun D σ H ⟨F, M, Z, ρ, N', T', sr, re, hw, k, _⟩ => by
  simp only [wpS] at hw
  refine ⟨F, M, Z, ρ, _, sr, re, hw, fun v H1 ⟨F1, M1, d, s1, sr1, rv, h1⟩ => ?_⟩
  exact ⟨F1, M1, Z, ρ, d, _, sr1, re.re.mono s1, .inl rv, h1, fun σ' H' ⟨ρ', sr', re', q, _⟩ => k _ _ ⟨F1, M1, ρ', s1, sr', re', q⟩⟩
theorem gt_of (c : CS P G tb n e0 N sc X) {g : Tg} {t : Expr} (hg : ckG N sc (fun _ => true) g t = true) (hh : (!tb.hot || g.isNm) = true) : PG X t (gD X g) := by
  cases g with
  | nm i => exact jgn c.hN c.nd c.hs (fun n _ => c.fn n) hg
  | tp gs => exact jg c.hN c.nd (c.calm (by simpa [Tg.isNm] using hh)) c.hs (fun n _ => c.fn n) hg
theorem js_asg (c : CS P G tb n e0 N sc X) {g : Tg} {e : Ex} {t v : Expr} {pos : Pos} (hg : ckG N sc (fun _ => true) g t = true) (hh : (!tb.hot || g.isNm) = true) (he : ∀ R, PE X v (tD X tb C R (wpE C R e))) (h1 : swp sc t v = some none) (h2 : swb sc v t = false) : PS X (.Assign [t] v pos) (tDS X tb C R (wpS C R (.asg g e))) := by
  have gt := gt_of c hg hh
  have e1 : noStar t = true := by
    cases g <;> cases t <;> first
      | rfl
      | exact absurd (show false = true from hg) Bool.false_ne_true
  refine PS_imp (ps_asg (PE_dep (R := R) he) gt ?_ (swp_ok c.hs c.kind h1) (by rw [assignEach_of e1]; rfl)) rep_asg
  show swapsWith v (some t) pos.line X.env = _
  rw [swb_ok c.hs c.kind, h2]
/-- a or b, a a tuple -/
def orW (C : SC) (R : Xc → MH → Prop) (a b : Ex) : En → MH → (D → MH → Prop) → Prop := fun ρ M Q => wpE C R a ρ M fun x M1 => (match x with
      | .tup xs => if xs = [] then wpE C R b ρ M1 Q else Q (.tup xs) M1
      | _ => False)
theorem je_orT {a b : Ex} {l r : Expr} {pos : Pos} {R : Xc → MH → Prop} (ha : PE X l (tD X tb C R (wpE C R a))) (hb : PE X (.BoolOp .Or [r] pos) (tD X tb C R (wpE C R b))) : PE X (.BoolOp .Or [l, r] pos) (tD X tb C R (orW C R a b)) := by
  refine PE_imp (pe_orT ha hb) fun σ H Q ⟨F, M, Z, ρ, Q', sr, re, hw, k⟩ => ?_
  refine ⟨F, M, Z, ρ, _, sr, re, hw, fun x H1 ⟨F1, M1, dx, s1, sr1, rx, h1⟩ => ?_⟩
  simp only [] at h1
  split at h1
  case h_2 => exact h1.elim
  rename_i xs
  obtain ⟨p, vs, rfl, ht, ra⟩ := vw_tup (M := M1) rx rfl
  have hl := ra.len
  by_cases hx : xs = []
  · rw [if_pos hx] at h1
    subst hx
    refine ⟨false, .inr (.inl ⟨vs, SqT.mono sr1.f ht.sqt, ?_⟩), ?_⟩
    · cases vs with
      | nil => rfl
      | cons => simp at hl
    · rw [if_neg (by decide)]
      exact ⟨F1, M1, Z, ρ, Q', sr1, re.mono s1, h1, tD_then s1 k⟩
  · rw [if_neg hx] at h1
    refine ⟨true, .inr (.inl ⟨vs, SqT.mono sr1.f ht.sqt, ?_⟩), ?_⟩
    · cases vs with
      | nil => cases xs with
        | nil => exact absurd rfl hx
        | cons => simp at hl
      | cons => rfl
    · rw [if_pos rfl]
      exact k _ _ ⟨F1, M1, _, s1, sr1, rx, h1⟩
theorem PE_depO {v : Expr} {a b : Ex} (h : ∀ R, PE X v (tD X tb C R (orW C R a b))) : PE X v (tDd X tb C R (fun ρ => orW C (fun x M' => R x ρ M') a b ρ)) := by
  refine ⟨fun pins s σ H Q I w => ?_⟩
  obtain ⟨F, M, Z, ρ, Q', sr, re, r⟩ := w
  exact (h (fun x M' => R x ρ M')).run pins s σ H Q I ⟨F, M, Z, ρ, Q', sr, re.x, r⟩
theorem rep_asgO {g : Tg} {a b : Ex} : ∀ D σ H, tDS X tb C R (wpS C R (.asgO g a b)) D σ H → tAsg (tDd X tb C R (fun ρ => orW C (fun x M' => R x ρ M') a b ρ)) (gD X g) D σ H := fun D σ H ⟨F, M, Z, ρ, N', T', sr, re, hw, k, _⟩ => by
  simp only [wpS] at hw
  refine ⟨F, M, Z, ρ, fun d M2 => g.put d ρ fun ρ' => N' ρ' M2, sr, re, hw, fun v H1 ⟨F1, M1, d, s1, sr1, rv, h1⟩ => ?_⟩
  exact ⟨F1, M1, Z, ρ, d, _, sr1, re.re.mono s1, .inl rv, h1, fun σ' H' ⟨ρ', sr', re', q, _⟩ => k _ _ ⟨F1, M1, ρ', s1, sr', re', q⟩⟩
theorem js_asgO (c : CS P G tb n e0 N sc X) {g : Tg} {a b : Ex} {t v : Expr} {pos : Pos} (hg : ckG N sc (fun _ => true) g t = true) (hh : (!tb.hot || g.isNm) = true) (he : ∀ R, PE X v (tD X tb C R (orW C R a b))) (h1 : swp sc t v = some none) (h2 : swb sc v t = false) : PS X (.Assign [t] v pos) (tDS X tb C R (wpS C R (.asgO g a b))) := by
  have gt := gt_of c hg hh
  have e1 : noStar t = true := by
    cases g <;> cases t <;> first
      | rfl
      | exact absurd (show false = true from hg) Bool.false_ne_true
  refine PS_imp (ps_asg (PE_depO (R := R) he) gt ?_ (swp_ok c.hs c.kind h1) (by rw [assignEach_of e1]; rfl)) rep_asgO
  show swapsWith v (some t) pos.line X.env = _
  rw [swb_ok c.hs c.kind, h2]
theorem pset_or {X : Cx} {t t' : TSet} (h : PSet X t) (h' : PSet X t') : PSet X (fun o i v H Q => t o i v H Q ∨ t' o i v H Q) := by
  intro pins s σ H o i v ov iv u Q I ro ri rv q
  rcases q with q | q
  · exact h pins s σ H o i v ov iv u Q I ro ri rv q
  · exact h' pins s σ H o i v ov iv u Q I ro ri rv q
theorem js_sto (hu : X.A.units + 65 < cLine) {a i e : Ex} {o k v : Expr} {p pos : Pos} (hk : noSlice k = true) (ha : ∀ R, PE X o (tD X tb C R (wpE C R a))) (hi : ∀ R, PE X k (tD X tb C R (wpE C R i))) (he : ∀ R, PE X v (tD X tb C R (wpE C R e))) : PS X (.Assign [.Subscript o k p] v pos) (tDS X tb C R (wpS C R (.sto a i e))) := by
  refine PS_imp (ps_asg (PE_dep (R := R) he) (pg_sub (PE_dep (R := R) ha) (PE_dep (R := R) hi) (pset_or set_list (set_dt (by omega))) ?_) ?_ rfl rfl) ?_
  · intro w
    cases k <;> first
      | rfl
      | cases hk
  · show swapsWith v (some (.Subscript o k p)) pos.line X.env = _
    cases v <;> rfl
  · intro D σ H ⟨F, M, Z, ρ, N', T', sr, re, hw, kk, _⟩
    simp only [wpS] at hw
    refine ⟨F, M, Z, ρ, _, sr, re, hw, fun v H1 ⟨F1, M1, d, s1, sr1, rv, h1⟩ => ⟨F1, M1, Z, ρ, _, sr1, re.mono s1, h1, fun x H2 ⟨F2, M2, dx, s2, sr2, rx, h2⟩ =>
      ⟨F2, M2, Z, ρ, _, sr2, re.mono (s1.trans s2), h2, fun y H3 ⟨F3, M3, dy, s3, sr3, ry, h3⟩ => ?_⟩⟩⟩
    have h3 : stD dx dy d M3 (fun M4 => N' ρ M4) := h3
    unfold stD at h3
    split at h3
    case h_3 => exact h3.elim
    case h_1 =>
      split at h3
      case h_2 => exact h3.elim
      rename_i q _ _ _ xs hM
      split at h3
      case h_2 => exact h3.elim
      rename_i j hj
      obtain rfl := mp_ref (rx.mono s3)
      cases ry
      obtain ⟨vs, hH, ra⟩ := cell_lst sr3 hM
      exact .inl ⟨_, vs, _, j, rfl, rfl, hH, by rw [ra.len]; exact hj, kk _ _ ⟨F3, _, ρ, (s1.trans s2).trans s3, sr3.put hM (.lst (ra.set j ((rv.mono s2).mono s3))), re.re.mono ((s1.trans s2).trans s3), h3⟩⟩
    case h_2 =>
      split at h3
      case h_2 => exact h3.elim
      rename_i es ep hM
      split at h3
      case h_2 => exact h3.elim
      rename_i ks hn
      obtain rfl := mp_ref (rx.mono s3)
      exact .inr ⟨F3, M3, Z, _, es, ep, _, ks, d, rfl, sr3, ry, (rv.mono s2).mono s3, hM, hn, h3.1, fun ep' H' sr' => kk _ _ ⟨F3, _, ρ, (s1.trans s2).trans s3, sr', re.re.mono ((s1.trans s2).trans s3), h3.2 ep'⟩⟩
theorem st_rep {F Z H : Hp} {M : MH} {x y v : V} {dx dy d : D} {kk : MH → Prop} {Q : Hp → Prop} (sr3 : SR X.K F M Z H) (rx : Rep X.K F x dx) (ry : Rep X.K F y dy) (rv : Rep X.K F v d) (h3 : stD dx dy d M kk) (q : ∀ M4 H4, SR X.K F M4 Z H4 → kk M4 → Q H4) : rSetL x y v H Q ∨ rSetD X x y v H Q := by
  unfold stD at h3
  split at h3
  case h_3 => exact h3.elim
  case h_1 =>
    split at h3
    case h_2 => exact h3.elim
    rename_i p _ _ _ xs hM
    split at h3
    case h_2 => exact h3.elim
    rename_i j hj
    obtain rfl := mp_ref rx
    cases ry
    obtain ⟨vs, hH, ra⟩ := cell_lst sr3 hM
    exact .inl ⟨_, vs, _, j, rfl, rfl, hH, by rw [ra.len]; exact hj, q _ _ (sr3.put hM (.lst (ra.set j rv))) h3⟩
  case h_2 =>
    split at h3
    case h_2 => exact h3.elim
    rename_i es ep hM
    split at h3
    case h_2 => exact h3.elim
    rename_i ks hn
    obtain rfl := mp_ref rx
    exact .inr ⟨F, M, Z, _, es, ep, _, ks, d, rfl, sr3, ry, rv, hM, hn, h3.1, fun ep' H' sr' => q _ _ sr' (h3.2 ep')⟩
/-- a[i], b[j] = e -/
theorem js_swp (c : CS P G tb n e0 N sc X) (hh : tb.hot = false) {a i b j e : Ex} {o k o2 k2 v : Expr} {p p2 tp pos : Pos} {kk : Nat} (hk : noSlice k = true) (hk2 : noSlice k2 = true) (ha : ∀ R, PE X o (tD X tb C R (wpE C R a))) (hi : ∀ R, PE X k (tD X tb C R (wpE C R i))) (hb : ∀ R, PE X o2 (tD X tb C R (wpE C R b))) (hj : ∀ R, PE X k2 (tD X tb C R (wpE C R j))) (he : ∀ R, PE X v (tD X tb C R (wpE C R e)))
    (h1 : swp sc (.Tuple [.Subscript o k p, .Subscript o2 k2 p2] kk tp) v = some none) (h2 : swb sc v (.Tuple [.Subscript o k p, .Subscript o2 k2 p2] kk tp) = false) : PS X (.Assign [.Tuple [.Subscript o k p, .Subscript o2 k2 p2] kk tp] v pos) (tDS X tb C R (wpS C R (.swp a i b j e))) := by
  have hu := c.toCK.hu
  have ns : ∀ {o k : Expr} {p : Pos}, noSlice k = true → ∀ w, assign (.Subscript o k p) X.env w = (do
      let ov ← holding [w] (eval o X.env)
      let iv ← holding [w, ov] (eval k X.env)
      standAt p
      holding [w, ov, iv] (setItem ov iv w)
      release [w, ov, iv] []) := fun {o k p} hk w => by
    cases k <;> first
      | rfl
      | cases hk
  refine PS_imp (ps_asg (PE_dep (R := R) he) (pg_tup (n := 2) (c.toCK.calm hh) (pgs_cons (pg_sub (PE_dep (R := R) ha) (PE_dep (R := R) hi) (pset_or set_list (set_dt (by omega))) (ns hk)) (pgs_cons (pg_sub (PE_dep (R := R) hb) (PE_dep (R := R) hj) (pset_or set_list (set_dt (by omega))) (ns hk2)) pgs_nil))) ?_ (swp_ok c.hs c.kind h1) rfl) ?_
  · show swapsWith v (some (.Tuple [.Subscript o k p, .Subscript o2 k2 p2] kk tp)) pos.line X.env = _
    rw [swb_ok c.hs c.kind, h2]
  · intro D σ H ⟨F, M, Z, ρ, N', T', sr, re, hw, kN, _⟩
    simp only [wpS] at hw
    refine ⟨F, M, Z, ρ, _, sr, re, hw, fun v H1 ⟨F1, M1, d, s1, sr1, rv, h1⟩ => ?_⟩
    dsimp only at h1
    split at h1
    case h_2 => exact h1.elim
    rename_i u w
    obtain ⟨ta, vs, rfl, ht, ra⟩ := vw_tup (M := M1) rv rfl
    obtain ⟨v1, v2, rfl, r1, r2⟩ := ra.two
    refine ⟨ta, [v1, v2], rfl, SqT.mono sr1.f ht.sqt, rfl, v1, [v2], rfl, ?_⟩
    refine ⟨F1, M1, Z, ρ, _, sr1, re.mono s1, h1, fun x H2 ⟨F2, M2, dx, s2, sr2, rx, h2⟩ =>
      ⟨F2, M2, Z, ρ, _, sr2, re.mono (s1.trans s2), h2, fun y H3 ⟨F3, M3, dy, s3, sr3, ry, h3⟩ => ?_⟩⟩
    have t3 := (s1.trans s2).trans s3
    refine st_rep sr3 (rx.mono s3) ry (r1.mono (s2.trans s3)) h3 fun M4 H4 sr4 h4 => ?_
    refine ⟨v2, [], rfl, ?_⟩
    refine ⟨F3, M4, Z, ρ, _, sr4, re.mono t3, h4, fun x2 H5 ⟨F5, M5, dx2, s5, sr5, rx2, h5⟩ =>
      ⟨F5, M5, Z, ρ, _, sr5, re.mono (t3.trans s5), h5, fun y2 H6 ⟨F6, M6, dy2, s6, sr6, ry2, h6⟩ => ?_⟩⟩
    refine st_rep sr6 (rx2.mono s6) ry2 (r2.mono ((s2.trans s3).trans (s5.trans s6))) h6 fun M7 H7 sr7 h7 => ?_
    refine ⟨rfl, kN _ _ ⟨F6, M7, ρ, (t3.trans s5).trans s6, sr7, re.re.mono ((t3.trans s5).trans s6), h7⟩⟩
theorem js_exp {e : Ex} {v : Expr} {pos : Pos} (hv : noComp v = true) (he : ∀ R, PE X v (tD X tb C R (wpE C R e))) : PS X (.Expr v pos) (tDS X tb C R (wpS C R (.exp e))) := by
  refine PS_imp (ps_expr (PE_dep (R := R) he) ?_) fun D σ H ⟨F, M, Z, ρ, N', T', sr, re, hw, k, _⟩ => ?_
  · cases v <;> first
      | rfl
      | cases hv
  · simp only [wpS] at hw
    exact ⟨F, M, Z, ρ, _, sr, re, hw, fun v H1 ⟨F1, M1, d, s1, sr1, rv, h1⟩ => k _ _ ⟨F1, M1, ρ, s1, sr1, re.re.mono s1, h1⟩⟩
theorem js_ret {e : Ex} {v : Expr} {pos : Pos} (he : ∀ R, PE X v (tD X tb C R (wpE C R e))) : PS X (.Return (some v) pos) (tDS X tb C R (wpS C R (.ret e))) := by
  refine PS_imp (ps_ret (PE_dep (R := R) he)) fun D σ H ⟨F, M, Z, ρ, N', T', sr, re, hw, _, k⟩ => ?_
  simp only [wpS] at hw
  exact ⟨F, M, Z, ρ, _, sr, re, hw, k⟩
theorem js_ret0 {pos : Pos} : PS X (.Return none pos) (tDS X tb C R (wpS C R .ret0)) := by
  refine PS_imp ps_retN fun D σ H ⟨F, M, Z, ρ, N', T', sr, re, hw, _, k⟩ => ?_
  simp only [wpS] at hw
  exact k _ _ (.of sr .non hw)
theorem js_pass {pos : Pos} : PS X (.Pass pos) (tDS X tb C R (wpS C R .pass)) := by
  refine PS_imp ps_pass fun D σ H ⟨F, M, Z, ρ, N', T', sr, re, hw, k, _⟩ => ?_
  simp only [wpS] at hw
  exact k _ _ ⟨F, M, ρ, Same.refl F, sr, re.re, hw⟩
theorem js_never {st : Stmt} : PS X st (tDS X tb C R (wpS C R .never)) := ⟨fun pins s σ H D I ⟨F, M, Z, ρ, N', T', sr, re, hw, _⟩ => by simp only [wpS] at hw⟩
theorem js_if {e : Ex} {t u : Ss} {x : Expr} {p q : List Stmt} {pos : Pos} (hc : ∀ R, PT X x (tDt X tb C R (wpB' C R e))) (ha : PSs X p (tDS X tb C R (wpB C R t))) (hb : PSs X q (tDS X tb C R (wpB C R u))) : PS X (.If x p q pos) (tDS X tb C R (wpS C R (.iff e t u))) := by
  refine PS_imp (ps_if (PT_dep (R := R) hc) ha hb) fun D σ H ⟨F, M, Z, ρ, N', T', sr, re, hw, k, k2⟩ => ?_
  simp only [wpS] at hw
  refine ⟨F, M, Z, ρ, fun b M1 => if b = true then wpB C R t ρ M1 N' T' else wpB C R u ρ M1 N' T', sr, re, hw, fun b H1 ⟨F1, M1, s1, sr1, h1⟩ => ?_⟩
  cases b with
  | true => exact ⟨F1, M1, Z, ρ, N', T', sr1, re.mono s1, h1, fun σ' H' ⟨F2, M2, ρ2, s2, r⟩ => k _ _ ⟨F2, M2, ρ2, s1.trans s2, r⟩, fun v H' q => k2 _ _ (q.back s1)⟩
  | false => exact ⟨F1, M1, Z, ρ, N', T', sr1, re.mono s1, h1, fun σ' H' ⟨F2, M2, ρ2, s2, r⟩ => k _ _ ⟨F2, M2, ρ2, s1.trans s2, r⟩, fun v H' q => k2 _ _ (q.back s1)⟩
theorem js_whl (po : PassesOwn (model X.prog X.w) X.A X.env X.xe) {e : Ex} {t : Ss} {x : Expr} {p : List Stmt} {pos : Pos} (hc : ∀ R, PT X x (tDt X tb C R (wpB' C R e))) (ha : PSs X p (tDS X tb C R (wpB C R t))) : PS X (.While x p [] pos) (tDS X tb C R (wpS C R (.whl e t))) := by
  refine PS_imp (ps_while po (PT_dep (R := R) hc) ha) fun D σ H ⟨F, M, Z, ρ, N', T', sr, re, hw, k, k2⟩ => ?_
  simp only [wpS] at hw
  obtain ⟨n, hw⟩ := hw
  refine ⟨fun m σ H => ∃ F1 M1 ρ1, Same F F1 ∧ SR X.K F1 M1 Z H ∧ RE X.K F1 σ ρ1 ∧ wpW (fun ρ M k => wpE C (fun x M' => R x ρ M') e ρ M fun x M1 => isB x fun b => k b M1) (fun ρ M k => wpB C R t ρ M k T') m ρ1 M1 N', ⟨n, F, M, ρ, Same.refl F, sr, re.re, hw⟩, ?_⟩
  rintro m σ1 H1 ⟨F1, M1, ρ1, s1, sr1, re1, hw1⟩
  cases m with
  | zero => simp only [wpW] at hw1
  | succ m =>
    simp only [wpW] at hw1
    refine ⟨F1, M1, Z, ρ1, fun b M' => if b = true then wpB C R t ρ1 M' (fun ρ' M'' => wpW (fun ρ M k => wpE C (fun x M' => R x ρ M') e ρ M fun x M1 => isB x fun b => k b M1) (fun ρ M k => wpB C R t ρ M k T') m ρ' M'' N') T' else N' ρ1 M', sr1, re.to s1 re1, hw1, fun b H2 ⟨F2, M2, s2, sr2, h2⟩ => ?_⟩
    cases b with
    | true =>
      refine ⟨fun σ H => ∃ F1 M1 ρ1, Same F F1 ∧ SR X.K F1 M1 Z H ∧ RE X.K F1 σ ρ1 ∧ wpW (fun ρ M k => wpE C (fun x M' => R x ρ M') e ρ M fun x M1 => isB x fun b => k b M1) (fun ρ M k => wpB C R t ρ M k T') m ρ1 M1 N', fun σ' H' h => ⟨m, Nat.lt_succ_self m, h⟩, ?_⟩
      exact ⟨F2, M2, Z, ρ1, _, T', sr2, (re.to s1 re1).mono s2, h2, fun σ' H' ⟨F3, M3, ρ3, s3, sr3, re3, h3⟩ => ⟨F3, M3, ρ3, (s1.trans s2).trans s3, sr3, re3, h3⟩, fun v H' q => k2 _ _ (q.back (s1.trans s2))⟩
    | false => exact k _ _ ⟨F2, M2, ρ1, s1.trans s2, sr2, re1.mono s2, h2⟩
theorem js_for (po : PassesOwn (model X.prog X.w) X.A X.env X.xe) (hc : X.calm = true) {g : Tg} {it : It} {t : Ss} {tg x : Expr} {p : List Stmt} {pos : Pos} (hi : ∀ R, PI X tg x (tDi X tb C R g (wpI C R it))) (hg : PG X tg (gD X g)) (ha : PSs X p (tDS X tb C R (wpB C R t))) (hs : noSet x = true) : PS X (.For tg x p [] pos) (tDS X tb C R (wpS C R (.for g it t))) := by
  refine PS_imp (ps_for po hc (PI_dep (R := R) hi) hg ha (fsi hs)) fun D σ H ⟨F, M, Z, ρ, N', T', sr, re, hw, k, k2⟩ => ?_
  simp only [wpS] at hw
  refine ⟨F, M, Z, ρ, _, sr, re, hw, fun J H1 ⟨F1, M1, items, Gg, s1, sr1, wk, h1⟩ => ?_⟩
  refine ⟨fun i m σ H => ∃ F2 M2 ρ2, Same F1 F2 ∧ SR X.K F2 M2 Z H ∧ RE X.K F2 σ ρ2 ∧ m = items.length - i ∧ i ≤ items.length ∧ wpF Gg (fun x ρ M k => g.put x ρ fun ρ' => wpB C R t ρ' M k T') (items.drop i) ρ2 M2 N', ⟨items.length, F1, M1, ρ, Same.refl F1, sr1, re.re.mono s1, by simp, Nat.zero_le _, by simpa using h1⟩, ?_⟩
  rintro i m σ2 H2 ⟨F2, M2, ρ2, s2, sr2, re2, rfl, hi, hw2⟩
  by_cases hlt : i < items.length
  · obtain ⟨d, hd⟩ : ∃ d, items[i]? = some d := ⟨_, List.getElem?_eq_getElem hlt⟩
    rw [drop_at hd] at hw2
    simp only [wpF] at hw2
    obtain ⟨hG, hw2⟩ := hw2
    refine .inr ⟨wk.go F2 M2 _ H2 i s2 sr2 hG hlt, fun σ H => ∃ F3 M3 ρ3, Same F1 F3 ∧ SR X.K F3 M3 Z H ∧ RE X.K F3 σ ρ3 ∧ wpF Gg (fun x ρ M k => g.put x ρ fun ρ' => wpB C R t ρ' M k T') (items.drop (i + 1)) ρ3 M3 N',
      fun σ' H' ⟨F3, M3, ρ3, s3, sr3, re3, hw3⟩ => ⟨items.length - (i + 1), by omega, F3, M3, ρ3, s3, sr3, re3, rfl, by omega, hw3⟩, fun x H3 y => ?_⟩
    obtain ⟨F3, s3, sr3, rx⟩ := wk.yld F2 M2 _ H2 i x H3 d s2 sr2 hG hd y
    refine ⟨F3, M2, _, _, d, _, sr3, re2.mono s3, rx, hw2, fun σ4 H4 ⟨ρ4, sr4, re4, h4, _⟩ => ?_⟩
    exact ⟨F3, M2, Z, ρ4, _, T', sr4, re.to (s1.trans (s2.trans s3)) re4, h4, fun σ' H' ⟨F5, M5, ρ5, s5, sr5, re5, h5⟩ => ⟨F5, M5, ρ5, (s2.trans s3).trans s5, sr5, re5, h5⟩, fun v H' q => k2 _ _ (q.back ((s1.trans s2).trans s3))⟩
  · have e1 : i = items.length := by omega
    subst e1
    rw [List.drop_length] at hw2
    simp only [wpF] at hw2
    obtain ⟨hG, hw2⟩ := hw2
    exact .inl ⟨wk.stop F2 M2 _ H2 s2 sr2 hG, k _ _ ⟨F2, M2, ρ2, s1.trans s2, sr2, re2, hw2⟩⟩
theorem js_par2 (c : CS P G tb n e0 N sc X) (hh : tb.hot = false) {i j : Nat} {a b : Ex} {x y : Str} {u v : Expr} {px py pt pt2 pos : Pos} {kt k2 : Nat} (h1 : N[i]? = some x) (h2 : N[j]? = some y) (h3 : i ≠ j) (h4 : lkB sc x = true) (h5 : lkB sc y = true) (h6 : swp sc (.Tuple [.Name x px, .Name y py] kt pt) (.Tuple [u, v] k2 pt2) = some (some [x, y]))
    (hs1 : noStar u = true) (hs2 : noStar v = true) (ha : ∀ R, PE X u (tD X tb C R (wpE C R a))) (hb : ∀ R, PE X v (tD X tb C R (wpE C R b))) : PS X (.Assign [.Tuple [.Name x px, .Name y py] kt pt] (.Tuple [u, v] k2 pt2) pos) (tDS X tb C R (wpS C R (.par2 i j a b))) := by
  refine PS_imp (ps_par (i := i) (j := j) (c.calm hh) (by rw [c.hN]; exact c.nd) (by rw [c.hN]; exact h1) (by rw [c.hN]; exact h2) h3 (lk_of c h4) (lk_of c h5) (pa_cons (PE_dep (R := R) ha) (pa_cons (PE_dep (R := R) hb) pa_nil (star_of hs2)) (star_of hs1)) (swp_ok c.hs c.kind h6) rfl) fun D σ H ⟨F, M, Z, ρ, N', T', sr, re, hw, k, _⟩ => ?_
  simp only [wpS] at hw
  exact ⟨F, M, Z, ρ, _, sr, re, hw, fun x H1 ⟨F1, M1, dx, s1, sr1, rx, h1⟩ => ⟨F1, M1, Z, ρ, _, sr1, re.mono s1, h1, fun y H2 ⟨F2, M2, dy, s2, sr2, ry, h2⟩ =>
    ⟨_, _, rfl, k _ _ ⟨F2, M2, _, s1.trans s2, sr2, ((re.re.mono (s1.trans s2)).set i (rx.mono s2)).set j ry, h2⟩⟩⟩⟩
theorem js_par3 (c : CS P G tb n e0 N sc X) (hh : tb.hot = false) {i j l : Nat} {a b d : Ex} {x y z : Str} {u v w : Expr} {px py pz pt pt2 pos : Pos} {kt k2 : Nat} (h1 : N[i]? = some x) (h2 : N[j]? = some y) (h2' : N[l]? = some z) (h3 : i ≠ j ∧ i ≠ l ∧ j ≠ l) (h4 : lkB sc x = true) (h5 : lkB sc y = true) (h5' : lkB sc z = true) (h6 : swp sc (.Tuple [.Name x px, .Name y py, .Name z pz] kt pt) (.Tuple [u, v, w] k2 pt2) = some (some [x, y, z]))
    (hs1 : noStar u = true) (hs2 : noStar v = true) (hs3 : noStar w = true) (ha : ∀ R, PE X u (tD X tb C R (wpE C R a))) (hb : ∀ R, PE X v (tD X tb C R (wpE C R b))) (hd : ∀ R, PE X w (tD X tb C R (wpE C R d))) : PS X (.Assign [.Tuple [.Name x px, .Name y py, .Name z pz] kt pt] (.Tuple [u, v, w] k2 pt2) pos) (tDS X tb C R (wpS C R (.par3 i j l a b d))) := by
  refine PS_imp (ps_par3 (i := i) (j := j) (l := l) (c.calm hh) (by rw [c.hN]; exact c.nd) (by rw [c.hN]; exact h1) (by rw [c.hN]; exact h2) (by rw [c.hN]; exact h2') h3.1 h3.2.1 h3.2.2 (lk_of c h4) (lk_of c h5) (lk_of c h5') (pa_cons (PE_dep (R := R) ha) (pa_cons (PE_dep (R := R) hb) (pa_cons (PE_dep (R := R) hd) pa_nil (star_of hs3)) (star_of hs2)) (star_of hs1)) (swp_ok c.hs c.kind h6) rfl) fun D σ H ⟨F, M, Z, ρ, N', T', sr, re, hw, k, _⟩ => ?_
  simp only [wpS] at hw
  exact ⟨F, M, Z, ρ, _, sr, re, hw, fun x H1 ⟨F1, M1, dx, s1, sr1, rx, h1⟩ => ⟨F1, M1, Z, ρ, _, sr1, re.mono s1, h1, fun y H2 ⟨F2, M2, dy, s2, sr2, ry, h2⟩ => ⟨F2, M2, Z, ρ, _, sr2, re.mono (s1.trans s2), h2, fun z H3 ⟨F3, M3, dz, s3, sr3, rz, h3⟩ =>
    ⟨_, _, _, rfl, k _ _ ⟨F3, M3, _, (s1.trans s2).trans s3, sr3, (((re.re.mono ((s1.trans s2).trans s3)).set i (rx.mono (s2.trans s3))).set j (ry.mono s3)).set l rz, h3⟩⟩⟩⟩⟩
/-- a list comprehension that is stored at once -/
theorem js_lc (c : CS P G tb n e0 N sc X) {g : Tg} {e : Ex} {t v : Expr} {pos : Pos} (hg : ckG N sc (fun _ => true) g t = true) (he : ckE tb N e sc v = true) (hl : isLc e = true) (h2 : swb sc v t = true) : PS X (.Assign [t] v pos) (tDS X tb (scX P G n e0) R (wpS (scX P G n e0) R (.asg g e))) := by
  have hsw : swapsWith v (some t) pos.line X.env = pure true := by rw [swb_ok c.hs c.kind, h2]
  have tn : ∃ y py, t = .Name y py := by
    unfold swb at h2
    split at h2
    · exact absurd h2 Bool.false_ne_true
    · split at h2
      · exact ⟨_, _, rfl⟩
      · exact absurd h2 Bool.false_ne_true
  obtain ⟨y, py, rfl⟩ := tn
  have hloc : X.env.scope.names.lookup y = some .local := by
    unfold swb at h2
    split at h2
    · exact absurd h2 Bool.false_ne_true
    · simp only [Bool.and_eq_true] at h2
      rw [c.hs]
      simpa using h2.1.1.2
  cases g with
  | tp gs => exact absurd (show false = true from hg) Bool.false_ne_true
  | nm i =>
  obtain ⟨hy, _⟩ := da (show (decide (N[i]? = some y) && locB sc (fun _ => true) y) = true from hg)
  have hN : X.N[i]? = some y := by rw [c.hN]; exact hy
  have nd : X.N.Nodup := by rw [c.hN]; exact c.nd
  have fin : ∀ {te : TE}, (∀ σ H Q, tDd X tb (scX P G n e0) R (fun ρ => wpE (scX P G n e0) (fun x M' => R x ρ M') e ρ) σ H Q → te σ H Q) → ∀ D σ H, tDS X tb (scX P G n e0) R (wpS (scX P G n e0) R (.asg (.nm i) e)) D σ H → tAsg te (gName i) D σ H := fun {te} ht D σ H ⟨F, M, Z, ρ, N', T', sr, re, hw, k, _⟩ => by
    simp only [wpS] at hw
    refine ht σ H _ ⟨F, M, Z, ρ, _, sr, re, hw, fun v H1 ⟨F1, M1, d, s1, sr1, rv, h1⟩ => ?_⟩
    simp only [Tg.put] at h1
    exact k _ _ ⟨F1, M1, _, s1, sr1, (re.re.mono s1).set i rv, h1⟩
  cases e <;> first
    | exact absurd (show false = true from hl) Bool.false_ne_true
    | skip
  case lc m e g it t =>
    unfold ckE at he
    split at he
    case h_2 => exact absurd he Bool.false_ne_true
    rename_i el tg iter ifs asy scope pos'
    replace he := ba he; obtain ⟨hh, he⟩ := he
    replace hh := na hh
    have hx := c.toCK.cold hh
    replace he := da he; obtain ⟨h1, he⟩ := he
    replace he := ba he; obtain ⟨h2', he⟩ := he
    replace he := ba he; obtain ⟨h3, he⟩ := he
    replace he := ba he; obtain ⟨h4, he⟩ := he
    replace he := ba he; obtain ⟨h5, h6⟩ := he
    subst h1
    have c' := c.toCK
    have key := ps_setLc (X := X) (pos := pos') (spos := pos) (i := i) (y := y) (py := py) (g := gD X g) (tt := tDt0 X.K (wpT (scX P G n e0) (fun _ _ => False) t)) (te := tD0 X.K (wpE (scX P G n e0) (fun _ _ => False) e)) (c.calm hh) nd hN hloc hsw (PI_dep (R := R) fun R => jI it (R := R) c' h2' h4) (by rw [c.hN, c.hs]; exact blkOk_by h3) (blk_g c' hh h4) (fun s H C cl fp => PTs_f hx (jT t (R := fun _ _ => False) (c'.blk (s := s) (H := H) (C := C) (cl := cl) (fp := fp)) h5)) (fun s H C cl fp => PE_f hx (jE e (R := fun _ _ => False) (c'.blk (s := s) (H := H) (C := C) (cl := cl) (fp := fp)) h6).e) (fsi (goodI h2'))
    rw [own_map] at key
    refine PS_imp key (fin fun σ H Q w => ?_)
    obtain ⟨F, M, Z, ρ, Q', sr, re, hw, k⟩ := w
    refine lc_dep (R := R) (m := m) (fun h => h.re) (fun i hi => hi) σ H Q ⟨F, M, Z, ρ, Q', sr, re, by simp only [wpE] at hw; exact hw, k⟩
  case lc2 m e g it t g2 it2 t2 =>
    unfold ckE at he
    split at he
    case h_2 => exact absurd he Bool.false_ne_true
    rename_i el tg iter ifs asy tg2 iter2 ifs2 asy2 scope pos'
    replace he := ba he; obtain ⟨hh, he⟩ := he
    replace hh := na hh
    have hx := c.toCK.cold hh
    replace he := da he; obtain ⟨h1, he⟩ := he
    replace he := da he; obtain ⟨h1', he⟩ := he
    replace he := ba he; obtain ⟨h2', he⟩ := he
    replace he := ba he; obtain ⟨h3, he⟩ := he
    replace he := ba he; obtain ⟨h4, he⟩ := he
    replace he := ba he; obtain ⟨h5, he⟩ := he
    replace he := ba he; obtain ⟨h6, he⟩ := he
    replace he := ba he; obtain ⟨h7, he⟩ := he
    replace he := ba he; obtain ⟨h8, h9⟩ := he
    subst h1 h1'
    have c' := c.toCK
    have key := ps_setLc2 (X := X) (pos := pos') (spos := pos) (i := i) (y := y) (py := py) (vs1 := g2.own) (g := gD X g) (tt := tDt0 X.K (wpT (scX P G n e0) (fun _ _ => False) t)) (g1 := gD X g2) (tt1 := tDt0 X.K (wpT (scX P G n e0) (fun _ _ => False) t2)) (te := tD0 X.K (wpE (scX P G n e0) (fun _ _ => False) e)) (wi1 := tDi0 X.K g2 (wpI (scX P G n e0) (fun _ _ => False) it2)) (c.calm hh) nd hN hloc hsw (PI_dep (R := R) fun R => jI it (R := R) c' h2' h4) (by rw [c.hN, c.hs]; exact blkOk_by h3) (by rw [own_map]; exact fun i hi => List.mem_append_right _ hi) (blk_g c' hh h4) (fun s H C cl fp => PTs_f hx (jT t (R := fun _ _ => False) (c'.blk (s := s) (H := H) (C := C) (cl := cl) (fp := fp)) h5))
      (fun s H C cl fp => PI_f hx (jI it2 (R := fun _ _ => False) (c'.blk (s := s) (H := H) (C := C) (cl := cl) (fp := fp)) h6 h7)) (blk_g c' hh h7) (fun s H C cl fp => PTs_f hx (jT t2 (R := fun _ _ => False) (c'.blk (s := s) (H := H) (C := C) (cl := cl) (fp := fp)) h8)) (fun s H C cl fp => PE_f hx (jE e (R := fun _ _ => False) (c'.blk (s := s) (H := H) (C := C) (cl := cl) (fp := fp)) h9).e) (fsi (goodI h2')) (fun env => fsi (goodI h6))
    rw [own_map] at key
    refine PS_imp key (fin fun σ H Q w => ?_)
    obtain ⟨F, M, Z, ρ, Q', sr, re, hw, k⟩ := w
    refine lc2_dep (R := R) (m := m) (fun h => h.re) (fun i hi => List.mem_append_left _ hi) (fun i hi => List.mem_append_right _ hi) σ H Q ⟨F, M, Z, ρ, Q', sr, re, by simp only [wpE] at hw; exact hw, k⟩
/-- C(e), C's own __init__ setting the field f -/
def tMkX (C : Addr) (f : Str) (ta : TA) : L2.St → Hp → XK → Prop := fun σ H Q => ta σ H fun vs H1 => ∃ y, vs = [y] ∧ ∀ d, H1 d = none → Q (.ref C) (some d) (upd H1 d (.xd [(f, y)]))
theorem pmk_X (c : CS P G tb n e0 N sc X) (hh : tb.hot = false) {cn f : Str} {y : Expr} {ta : TA} {p pos : Pos} (hm : (cn, some f) ∈ tb.cs) (hg : glB sc cn = true) (hdb : (cn == ("__debug__" : Str)) = false) (ha : PA X [y] ta) (hs : noStar y = true) :
    L2N.PMk X (.Call (.Name cn p) [y] [] pos) (tMkX (He.ga X.K cn) f ta) := by
  intro pins s σ H Q I h
  have T := c.xc _ hm
  obtain ⟨hO, hno⟩ := T.own1 f rfl
  obtain ⟨fI, fd, ps, iC, tI, hb, F1⟩ := c.xi cn f hm
  obtain ⟨nm, q, N', bs, bm, sn, sub, ab, col, dd, k0, k1, k2, k3, k5, hC, hbm⟩ := hO.cls
  have hhd : X.A.handled = none := c.hdl (by
    have := c.hote
    rw [hh] at this
    cases e0 with
    | none => rfl
    | some p => cases this)
  have hr : Room 2 X.A := ⟨hhd, by have := c.room.dp; omega, by have := c.room.un; omega⟩
  refine wpAny_Call_Name_kw (ld_glob I (c.gl hg) T.gC ?_ hdb)
  refine PySem.W.callWith_K (h₀ := X.base) I.ok.mod.kin T.kC (thn (ha.run pos pins s σ H _ I h) fun us s1 ⟨vs, H1, I1, r1, y', ev, q1⟩ => ⟨I1.kIn, ?_⟩) (star_of hs) rfl
  subst ev
  show wpAny _ _ (call (.ref (He.ga X.K cn)) us) _ _ _
  obtain ⟨hp, g, dr, tk, os⟩ := s1
  have hsz : hp.objs.size ≤ hp.objs.size + 1 := Nat.le_succ _
  have hn : H1 (hp.objs.size + 1) = none := I1.hok.fresh hsz
  have hq : spI (He.ga X.K cn) f [.ref (hp.objs.size + 1), y'] (upd H1 (hp.objs.size + 1) (exo (hp.objs.size + 1) (He.ga X.K cn) none))
      (fun v H2 => v = .non ∧ ∃ (d : Addr) (fs : List (Str × V)), H2 (hp.objs.size + 1) = some (exo (hp.objs.size + 1) (He.ga X.K cn) (some d)) ∧ H2 d = some (exd d fs) ∧ H1 d = none ∧ Q (.ref (He.ga X.K cn)) (some d) (upd (del H2 (hp.objs.size + 1)) d (.xd fs))) (fun _ _ _ => False) := by
    refine ⟨_, _, rfl, upd_same, fun dx hdx hne => ⟨rfl, dx, [(f, y')], upd_same, ?_, ?_, ?_⟩⟩
    · rw [upd_ne hne, upd_same]
    · rw [upd_ne hne] at hdx; exact hdx
    · rw [upd_ne hne] at hdx
      have e : upd (del (upd (upd (upd H1 (hp.objs.size + 1) (exo (hp.objs.size + 1) (He.ga X.K cn) none)) dx (exd dx [(f, y')])) (hp.objs.size + 1) (exo (hp.objs.size + 1) (He.ga X.K cn) (some dx))) (hp.objs.size + 1)) dx (.xd [(f, y')]) = upd H1 dx (.xd [(f, y')]) := by
        funext b
        by_cases hb : b = dx
        · subst hb; rw [upd_same, upd_same]
        · rw [upd_ne hb, upd_ne hb]
          by_cases hb2 : b = hp.objs.size + 1
          · subst hb2; rw [del_same, hn]
          · rw [del_ne hb2, upd_ne hb2, upd_ne hb, upd_ne hb2]
      rw [e]
      exact q1 dx hdx
  have kk : ∀ b o, hp.get? b = some o → ((hp.push (PySem.W.kdv_tup us)).push (PySem.HandSPX.excO (He.ga X.K cn) hp.objs.size)).get? b = some o := fun b o e => Heap.get?_push_of_some _ (Heap.get?_push_of_some _ e)
  have hget : ((hp.push (PySem.W.kdv_tup us)).push (PySem.HandSPX.excO (He.ga X.K cn) hp.objs.size)).get? (hp.objs.size + 1) = some (PySem.HandSPX.excO (He.ga X.K cn) hp.objs.size) := by heap_get
  have I2 : Inv X pins σ (upd H1 (hp.objs.size + 1) (exo (hp.objs.size + 1) (He.ga X.K cn) none)) ⟨(hp.push (PySem.W.kdv_tup us)).push (PySem.HandSPX.excO (He.ga X.K cn) hp.objs.size), g, dr, tk, os⟩ :=
    I1.laid (t' := tk) (a := hp.objs.size + 1) (o := exo (hp.objs.size + 1) (He.ga X.K cn) none) (h' := (hp.push (PySem.W.kdv_tup us)).push (PySem.HandSPX.excO (He.ga X.K cn) hp.objs.size)) kk hsz (exo_ok hget)
  have r2 : Vals [V.ref (hp.objs.size + 1), y'] (Value.ref (hp.objs.size + 1) :: us) := .cons rfl r1
  have hl : (Value.ref (hp.objs.size + 1) :: us ++ []).length = ps.length := by
    have e := r2.length
    rw [F1.len _ _ _ _ hq] at e
    rw [List.append_nil]
    exact e.symm
  have hus : us.length ≤ sizeLine := by
    have := Paired.length r1
    rw [← this, sizeLine_eq]
    show 1 ≤ _
    omega
  have b2 := hb _ (Value.ref (hp.objs.size + 1) :: us) I2.kIn hl
  rw [List.append_nil] at b2
  refine wpAny_call (PySem.HandSPX.call_own F.excBase_ValueError (fun Y => PySem.HandSPX.refsVE_contains Y bm hbm) (I1.kIn _ _ hC) (PySem.W.looks_findIn I1.kIn iC) (fun self => PySem.W.bind_fn I1.kIn self tI) hus
    (codeAny_mono (F1.run _ X.stack _ _ ⟨Value.ref (hp.objs.size + 1) :: us, []⟩ (Value.ref (hp.objs.size + 1) :: us) _ _ (fun _ _ _ => False) (hr.make (He.ga X.K cn) us []) (I2.env0.make (He.ga X.K cn) us []) b2 r2 hq) fun r s' hq' => ?_))
  cases r with
  | error er =>
    obtain ⟨_, _, _, _, _, _, _, _, _, _, _, _, z⟩ := hq'
    exact z.elim
  | ok fl =>
    cases fl with
    | ret u =>
      obtain ⟨v, H2, os2, bare2, un2, hok2, rv, ev, d, fs, ea, ed, hd1, q2⟩ := hq'
      subst ev
      obtain ⟨h2, g2, d2, t2, os'⟩ := s'
      obtain ⟨t0, G', J, kG, ge, hoe, na⟩ := mk_end0 (d2 := d2) (t2 := t2) I1 hsz kk un2 hok2 os2 bare2 ea ed hd1
      exact ⟨rv, hp.objs.size + 1, _, _, ⟨G', g2, d2, t2, os'⟩, _, .ref (He.ga X.K cn), some d, rfl, J, kG, ge, hoe, ⟨rfl, rfl, fun vs hv => by cases hv; rfl⟩, rfl, rfl, na, rfl, bare2, raises_own hO.exC hO.tyC, q2⟩
    | next => exact False.elim hq'
    | brk => exact False.elim hq'
    | cont => exact False.elim hq'
theorem js_rai (c : CS P G tb n e0 N sc X) (hh : tb.hot = false) {cn f : Str} {e : Ex} {y : Expr} {p pos pos2 : Pos} (hm : (cn, some f) ∈ tb.cs) (hg : glB sc cn = true) (hdb : (cn == ("__debug__" : Str)) = false) (hs : noStar y = true) (he : ∀ R, PE X y (tD X tb C R (wpE C R e))) :
    PS X (.Raise (some (.Call (.Name cn p) [y] [] pos)) none pos2) (tDS X tb C R (wpS C R (.rai cn f e))) := by
  refine ⟨fun pins s σ H D I h => ?_⟩
  obtain ⟨F, M, Z, ρ, N', T', sr, re, hw, k, k2⟩ := h
  simp only [wpS] at hw
  refine (L2N.ps_raise (c.calm hh) re.tk (pmk_X c hh hm hg hdb (pa_cons (PE_dep (R := R) he) pa_nil (star_of hs)) hs)).run pins s σ H D I ?_
  refine ⟨F, M, Z, ρ, _, sr, re, hw, fun v H1 ⟨F1, M1, d, s1, sr1, rv, h1⟩ => ⟨v, rfl, fun da hda => ?_⟩⟩
  obtain ⟨sF, sr2⟩ := sr1.layF (o := .xd [(f, v)]) hda
  exact ⟨_, M1, ρ, ⟨cn, some (f, d)⟩, s1.trans sF, sr2, re.re.mono (s1.trans sF), ⟨hm, ⟨rfl, fun z => nomatch z⟩, fun f' v' e => by cases e; exact ⟨da, v, rfl, upd_same, rv.mono sF⟩⟩, h1⟩
theorem pmk_X0 (c : CS P G tb n e0 N sc X) {cn : Str} {p pos : Pos} (hm : (cn, none) ∈ tb.cs) (hg : glB sc cn = true) (hdb : (cn == ("__debug__" : Str)) = false) :
    L2N.PMk X (.Call (.Name cn p) [] [] pos) (fun _ H Q => Q (.ref (He.ga X.K cn)) none H) := by
  intro pins s σ H Q I h
  have T := c.xc _ hm
  refine wpAny_Call_Name_kw (ld_glob I (c.gl hg) T.gC ?_ hdb)
  refine PySem.W.callWith_K0 I.kIn T.kC ?_
  show wpAny _ _ (call (.ref (He.ga X.K cn)) []) _ _ _
  obtain ⟨bm, N', nm, qn, bs, hdct, sn, sub, ab, col, dd, k0, k1, k2, k3, k5, mN, hC, hN, hni, T'⟩ := exc_obj I.kIn (T.own0 rfl)
  refine wpAny_call_exc_subT F.excBase_ValueError T' hC hN hni (fun h' e hm' => ?_) (by show 0 ≤ sizeLine; omega)
  exact L2N.mk_of I hm' (raises_own T.exC T.tyC) h (I.hok.gone hm'.new)
theorem js_rai0 (c : CS P G tb n e0 N sc X) (hh : tb.hot = false) {cn : Str} {p pos pos2 : Pos} (hm : (cn, none) ∈ tb.cs) (hg : glB sc cn = true) (hdb : (cn == ("__debug__" : Str)) = false) :
    PS X (.Raise (some (.Call (.Name cn p) [] [] pos)) none pos2) (tDS X tb C R (wpS C R (.rai0 cn))) := by
  refine ⟨fun pins s σ H D I h => ?_⟩
  obtain ⟨F, M, Z, ρ, N', T', sr, re, hw, k, k2⟩ := h
  simp only [wpS] at hw
  refine (L2N.ps_raise (c.calm hh) re.tk (pmk_X0 c hm hg hdb)).run pins s σ H D I ?_
  exact ⟨F, M, ρ, ⟨cn, none⟩, Same.refl F, sr, re.re, ⟨hm, ⟨rfl, fun _ => rfl⟩, fun f' v' e => nomatch e⟩, hw⟩
/-- a try's body, whatever is wished of its exceptions -/
def tTry (K : PySem.W.Frag) (cs : List (Str × Option Str)) (C : SC) (b : Ss) (W : WX) : TS := fun D σ H => ∃ F M Z ρ N' T' R', SR K F M Z H ∧ RE K F σ ρ ∧ wpB C R' b ρ M N' T' ∧ (∀ σ' H', KN K F Z N' σ' H' → D.nx σ' H') ∧ (∀ v H', KQ K F Z T' v H' → D.rt v H') ∧ ∀ cls d σ' H', KXS K cs F Z R' cls d σ' H' → W cls d σ' H'
/-- an except suite -/
def tSui (K : PySem.W.Frag) (cs : List (Str × Option Str)) (C : SC) (h : Ss) (a : Addr) (cls : Value) (d : Option Addr) : TS := fun D σ H => ∃ F M Z ρ N' T' x, SR K F M Z H ∧ RE K F σ ρ ∧ XRep K cs F cls d x ∧ wpB (C.hotC (a, x)) (fun _ _ _ => False) h ρ M N' T' ∧ (∀ σ' H', KN K F Z N' σ' H' → D.nx σ' H') ∧ ∀ v H', KQ K F Z T' v H' → D.rt v H'
theorem js_try (c : CS P G tb n e0 N sc X) (hh : tb.hot = false) {cn y : Str} {i : Nat} {b h : Ss} {body suite : List Stmt} {b₀ : Stmt} {np pos pos' : Pos} (hC : C = scX P G n e0) (hg : glB sc cn = true) (hdb : (cn == ("__debug__" : Str)) = false) (hx : xsT tb.cs cn) (hcs : tb.cs ≠ []) (hi : N[i]? = some y) (hl : lkB sc y = true)
    (hb : ∀ (pn : List (Addr × Obj)) (xe : Value → Shared → Prop), PassesOwn (model X.prog X.w) X.A X.env xe → ∀ R', PSs (X.tr pn xe) body (tDS (X.tr pn xe) tb C R' (wpB C R' b)))
    (hs : ∀ (a : Addr) (pn : List (Addr × Obj)) (x : Xc), PSs (X.suite a pn) (b₀ :: suite) (tDS (X.suite a pn) tb.toHot (C.hotC (a, x)) (fun _ _ _ => False) (wpB (C.hotC (a, x)) (fun _ _ _ => False) h))) :
    PS X (.Try body [.ExceptHandler (some (.Name cn np)) (some y) (b₀ :: suite) pos'] [] [] pos) (tDS X tb C R (wpS C R (.tryE b cn i h))) := by
  refine ⟨fun pins s σ H D I hq => ?_⟩
  obtain ⟨F, M, Z, ρ, N', T', sr, re, hw, k, k2⟩ := hq
  simp only [wpS] at hw
  have hexc : C.exc = none := by rw [hC]; exact c.toCK.cold hh
  have hNm : Names X cn (clV X.K cn) := by
    refine ⟨c.toCK.gl hg, hdb, ?_⟩
    by_cases hv : cn = ("ValueError" : Str)
    · subst hv
      exact .inr ⟨c.blt _ (by decide), by show _ = some (clV X.K ("ValueError" : Str)); rw [show clV X.K ("ValueError" : Str) = .type "ValueError" from if_pos rfl]; exact PyProof.Rows.Boot.«ValueError», by decide⟩
    · rw [show clV X.K cn = .ref (He.ga X.K cn) from if_neg hv]
      rcases hx with hx | hx | hx
      · obtain ⟨p, hp, rfl⟩ := List.mem_map.mp hx
        exact .inl (c.xc p hp).gC
      · exact .inl (by rw [hx]; exact c.xt hcs)
      · exact absurd hx hv
  refine (L2N.ps_try_as (X := X) (i := i) (n := y) (c := clV X.K cn) (tb := tTry X.K tb.cs C b) (ts := tSui X.K tb.cs C h) c.stk c.frm (by rw [c.hN]; exact c.nd) (by rw [c.hN]; exact hi) (lk_of c hl) hNm re.tk
    (fun W pn xe tk po => ⟨fun pins s σ H D I ⟨F, M, Z, ρ, N', T', R', sr, re, hw, k, k2, k3⟩ => (hb pn xe po R').run pins s σ H D I ⟨F, M, Z, ρ, N', T', sr, ⟨re, tk.imp k3, fun p e => by rw [hexc] at e; cases e⟩, hw, k, k2⟩⟩)
    (fun a oe cls d pn hz hf => ⟨fun pins s σ H D I ⟨F, M, Z, ρ, N', T', x, sr, re, xr, hw, k, k2⟩ => (hs a ((a, oe) :: pn) x).run pins s σ H D I ⟨F, M, Z, ρ, N', T', sr, ⟨re, fun u s' ⟨_, _, _, _, _, _, _, _, _, _, _, _, _, _, _, _, _, _, _, _, _, _, _, _, z⟩ => z.elim, fun p e => ?_⟩, hw, k, k2⟩⟩)).run pins s σ H D I ?_
  · cases e
    obtain ⟨vs, hv⟩ := hf
    refine ⟨oe, List.mem_cons_self, ⟨rfl, vs, hv, hz.2.2 vs hv⟩, ?_⟩
    show XRep X.K tb.cs F oe.cls oe.dict x
    rw [hz.1, hz.2.1]; exact xr
  · refine ⟨F, M, Z, ρ, N', T', _, sr, re.re, hw, k, k2, fun cls d σ' H' ⟨F1, M1, ρ1, x, s1, sr1, re1, xr, h1⟩ => ?_⟩
    refine ⟨subX x.cls cn, ?_, fun e a ha => ?_, fun e => ?_⟩
    · have := (c.xc _ xr.1).exm cn hx
      rw [xr.2.1.1]; exact this
    · simp only [] at h1
      rw [if_pos e] at h1
      refine ⟨F1, M1, Z, ρ1.set i (some (.ref a)), _, T', x, sr1, re1.set i (.ref a), xr, h1 a (sr1.new ha).2.1, fun σ2 H2 ⟨F2, M2, ρ2, s2, sr2, re2, q⟩ => k _ _ ⟨F2, M2, _, s1.trans s2, sr2, re2.clr i, q⟩, fun v H2 q => k2 _ _ (q.back s1)⟩
    · simp only [] at h1
      rw [e, if_neg Bool.false_ne_true] at h1
      exact ⟨F1, M1, ρ1, x, s1, sr1, re1, xr, h1⟩
/-- the context of a try's body -/
theorem CS.tr (c : CS P G tb n e0 N sc X) (hh : tb.hot = false) {pn : List (Addr × Obj)} {xe : Value → Shared → Prop} (po : PassesOwn (model X.prog X.w) X.A X.env xe) : CS P G tb n e0 N sc (X.tr pn xe) where
  room := c.room
  hdl := c.hdl
  gd := c.gd
  sm := c.sm
  calm := c.calm
  hote := c.hote
  nd := c.nd
  hN := c.hN
  hs := c.hs
  call := c.call
  glob := c.glob
  blt := c.blt
  xc := c.xc
  xt := c.xt
  xi := c.xi
  szk := c.szk
  fn := c.fn
  kind := c.kind
  po := po
  stk := c.stk
  frm := c.frm
  hcall := c.hcall
/-- the context of an except suite -/
theorem CS.sui (c : CS P G tb n e0 N sc X) {a : Addr} {x : Xc} {pn : List (Addr × Obj)} : CS P G tb.toHot n (some (a, x)) N sc (X.suite a pn) where
  room := ⟨c.room.dp, c.room.un⟩
  hdl := fun e => nomatch e
  gd := c.gd
  sm := c.sm
  calm := fun e => nomatch e
  hote := rfl
  nd := c.nd
  hN := c.hN
  hs := c.hs
  call := fun f y h => c.hcall (a, x) f y h
  glob := c.glob
  blt := c.blt
  xc := c.xc
  xt := c.xt
  xi := c.xi
  szk := fun z => nomatch z
  fn := c.fn
  kind := c.kind
  po := PassesOwn.never
  stk := c.stk
  frm := c.frm
  hcall := fun _ _ _ e => nomatch e
mutual
theorem jS : ∀ (s : Sm) {st : Stmt} {tb : Tb} {e0 : Option (Addr × Xc)} {X : Cx} {R : Xc → En → MH → Prop}, CS P G tb n e0 N sc X → ckS tb N sc s st = true → PS X st (tDS X tb (scX P G n e0) R (wpS (scX P G n e0) R s))
  | .par2 i j a b, st, tb, e0, X, R, c, h => by
    unfold ckS at h
    split at h
    case h_2 => exact absurd h Bool.false_ne_true
    replace h := ba h; obtain ⟨hh, h⟩ := h
    replace hh := na hh
    replace h := da h; obtain ⟨h1, h⟩ := h
    replace h := da h; obtain ⟨h2, h⟩ := h
    replace h := da h; obtain ⟨h3, h⟩ := h
    replace h := ba h; obtain ⟨h4, h⟩ := h
    replace h := ba h; obtain ⟨h5, h⟩ := h
    replace h := da h; obtain ⟨h6, h⟩ := h
    replace h := ba h; obtain ⟨h7, h8⟩ := h
    exact js_par2 c hh h1 h2 h3 h4 h5 h6 (noStar_of (good_of h7)) (noStar_of (good_of h8)) (fun R => (jE a c.toCK h7).e) (fun R => (jE b c.toCK h8).e)
  | .par3 i j l a b d, st, tb, e0, X, R, c, h => by
    unfold ckS at h
    split at h
    case h_2 => exact absurd h Bool.false_ne_true
    replace h := ba h; obtain ⟨hh, h⟩ := h
    replace hh := na hh
    replace h := da h; obtain ⟨h1, h⟩ := h
    replace h := da h; obtain ⟨h2, h⟩ := h
    replace h := da h; obtain ⟨h2', h⟩ := h
    replace h := da h; obtain ⟨h3, h⟩ := h
    replace h := ba h; obtain ⟨h4, h⟩ := h
    replace h := ba h; obtain ⟨h5, h⟩ := h
    replace h := ba h; obtain ⟨h5', h⟩ := h
    replace h := da h; obtain ⟨h6, h⟩ := h
    replace h := ba h; obtain ⟨h7, h⟩ := h
    replace h := ba h; obtain ⟨h8, h9⟩ := h
    exact js_par3 c hh h1 h2 h2' h3 h4 h5 h5' h6 (noStar_of (good_of h7)) (noStar_of (good_of h8)) (noStar_of (good_of h9)) (fun R => (jE a c.toCK h7).e) (fun R => (jE b c.toCK h8).e) (fun R => (jE d c.toCK h9).e)
  | .asg g e, st, tb, e0, X, R, c, h => by
    unfold ckS at h
    split at h
    case h_2 => exact absurd h Bool.false_ne_true
    replace h := ba h; obtain ⟨hh, h⟩ := h
    replace h := ba h; obtain ⟨h1, h⟩ := h
    replace h := ba h; obtain ⟨h2, h⟩ := h
    replace h := da h; obtain ⟨h3, h⟩ := h
    rename_i t v pos
    cases q : swb sc v t with
    | false => exact js_asg c h1 hh (fun R => (jE e c.toCK h2).e) h3 q
    | true =>
      rw [q] at h
      exact js_lc c h1 h2 (by simpa using h) q
  | .asgO g a b, st, tb, e0, X, R, c, h => by
    unfold ckS at h
    split at h
    case h_2 => exact absurd h Bool.false_ne_true
    replace h := ba h; obtain ⟨hh, h⟩ := h
    replace hh := na hh
    replace h := ba h; obtain ⟨h1, h⟩ := h
    replace h := da h; obtain ⟨h2, h⟩ := h
    replace h := ba h; obtain ⟨h3, h⟩ := h
    replace h := ba h; obtain ⟨h4, h⟩ := h
    replace h := ba h; obtain ⟨h5, h6⟩ := h
    subst h2
    exact js_asgO c h1 (by rw [hh]; rfl) (fun R => je_orT (jE a (R := R) c.toCK h3).e (bo_one (op := .Or) (jE b (R := R) c.toCK h4)).1) (of_decide_eq_true h5) (by cases q : swb sc _ _ with | false => rfl | true => rw [q] at h6; cases h6)
  | .sto a i e, st, tb, e0, X, R, c, h => by
    unfold ckS at h
    split at h
    case h_2 => exact absurd h Bool.false_ne_true
    replace h := ba h; obtain ⟨h1, h⟩ := h
    replace h := ba h; obtain ⟨h2, h3⟩ := h
    exact js_sto c.toCK.hu (noSlice_of (good_of h2)) (fun R => (jE a c.toCK h1).e) (fun R => (jE i c.toCK h2).e) (fun R => (jE e c.toCK h3).e)
  | .swp a i b j e, st, tb, e0, X, R, c, h => by
    unfold ckS at h
    split at h
    case h_2 => exact absurd h Bool.false_ne_true
    replace h := ba h; obtain ⟨hh, h⟩ := h
    replace h := ba h; obtain ⟨h1, h⟩ := h
    replace h := ba h; obtain ⟨h2, h⟩ := h
    replace h := ba h; obtain ⟨h3, h⟩ := h
    replace h := ba h; obtain ⟨h4, h⟩ := h
    replace h := ba h; obtain ⟨h5, h⟩ := h
    replace h := da h; obtain ⟨h6, h7⟩ := h
    exact js_swp c (na hh) (noSlice_of (good_of h2)) (noSlice_of (good_of h4)) (fun R => (jE a c.toCK h1).e) (fun R => (jE i c.toCK h2).e) (fun R => (jE b c.toCK h3).e) (fun R => (jE j c.toCK h4).e) (fun R => (jE e c.toCK h5).e) h6 (na h7)
  | .exp e, st, tb, e0, X, R, c, h => by
    unfold ckS at h
    split at h
    case h_2 => exact absurd h Bool.false_ne_true
    replace h := ba h; obtain ⟨h1, h2⟩ := h
    exact js_exp h1 (fun R => (jE e c.toCK h2).e)
  | .ret e, st, tb, e0, X, R, c, h => by
    unfold ckS at h
    split at h
    case h_2 => exact absurd h Bool.false_ne_true
    exact js_ret (fun R => (jE e c.toCK h).e)
  | .ret0, st, tb, e0, X, R, c, h => by
    unfold ckS at h
    split at h
    case h_2 => exact absurd h Bool.false_ne_true
    exact js_ret0
  | .pass, st, tb, e0, X, R, c, h => by
    unfold ckS at h
    split at h
    case h_2 => exact absurd h Bool.false_ne_true
    exact js_pass
  | .never, st, tb, e0, X, R, c, h => js_never
  | .iff e t u, st, tb, e0, X, R, c, h => by
    unfold ckS at h
    split at h
    case h_2 => exact absurd h Bool.false_ne_true
    replace h := ba h; obtain ⟨h1, h⟩ := h
    replace h := ba h; obtain ⟨h2, h3⟩ := h
    exact js_if (fun R => (jE e c.toCK h1).t) (jB t c h2) (jB u c h3)
  | .whl e b, st, tb, e0, X, R, c, h => by
    unfold ckS at h
    split at h
    case h_2 => exact absurd h Bool.false_ne_true
    replace h := ba h; obtain ⟨h1, h2⟩ := h
    exact js_whl c.po (fun R => (jE e c.toCK h1).t) (jB b c h2)
  | .for g it b, st, tb, e0, X, R, c, h => by
    unfold ckS at h
    split at h
    case h_2 => exact absurd h Bool.false_ne_true
    replace h := ba h; obtain ⟨hh, h⟩ := h
    replace hh := na hh
    replace h := ba h; obtain ⟨h1, h⟩ := h
    replace h := ba h; obtain ⟨h2, h3⟩ := h
    exact js_for c.po (c.calm hh) (fun R => jI it c.toCK h1 h2) (jg c.hN c.nd (c.calm hh) c.hs (fun n _ => c.fn n) h2) (jB b c h3) (goodI h1)
  | .rai cn f e, st, tb, e0, X, R, c, h => by
    unfold ckS at h
    split at h
    case h_2 => exact absurd h Bool.false_ne_true
    replace h := ba h; obtain ⟨hh, h⟩ := h
    replace hh := na hh
    replace h := da h; obtain ⟨h1, h⟩ := h
    replace h := ba h; obtain ⟨h2, h⟩ := h
    replace h := ba h; obtain ⟨h3, h⟩ := h
    replace h := ba h; obtain ⟨h4, h5⟩ := h
    subst h1
    exact js_rai c hh (List.contains_iff_mem.mp h4) h2 (okN_of h3).1 (noStar_of (good_of h5)) (fun R => (jE e c.toCK h5).e)
  | .rai0 cn, st, tb, e0, X, R, c, h => by
    unfold ckS at h
    split at h
    case h_2 => exact absurd h Bool.false_ne_true
    replace h := ba h; obtain ⟨hh, h⟩ := h
    replace hh := na hh
    replace h := da h; obtain ⟨h1, h⟩ := h
    replace h := ba h; obtain ⟨h2, h⟩ := h
    replace h := ba h; obtain ⟨h3, h4⟩ := h
    subst h1
    exact js_rai0 c hh (List.contains_iff_mem.mp h4) h2 (okN_of h3).1
  | .tryE b cn i hd, st, tb, e0, X, R, c, h => by
    unfold ckS at h
    split at h
    case h_2 => exact absurd h Bool.false_ne_true
    replace h := ba h; obtain ⟨hh, h⟩ := h
    replace hh := na hh
    replace h := da h; obtain ⟨h1, h⟩ := h
    replace h := ba h; obtain ⟨h2, h⟩ := h
    replace h := ba h; obtain ⟨h3, h⟩ := h
    replace h := ba h; obtain ⟨h4, h⟩ := h
    replace h := ba h; obtain ⟨h5, h⟩ := h
    replace h := da h; obtain ⟨h6, h⟩ := h
    replace h := ba h; obtain ⟨h7, h⟩ := h
    replace h := ba h; obtain ⟨h8, h9⟩ := h
    subst h1
    exact js_try c hh rfl h2 (okN_of h3).1 (xsB_of h4) (fun z => by rw [z] at h5; cases h5) h6 h7 (fun pn xe po R' => jB b (c.tr hh po) h8) (fun a pn x => jB hd c.sui h9)
theorem jB : ∀ (b : Ss) {sts : List Stmt} {tb : Tb} {e0 : Option (Addr × Xc)} {X : Cx} {R : Xc → En → MH → Prop}, CS P G tb n e0 N sc X → ckB tb N sc b sts = true → PSs X sts (tDS X tb (scX P G n e0) R (wpB (scX P G n e0) R b))
  | .nil, sts, tb, e0, X, R, c, h => by
    unfold ckB at h
    cases sts with
    | cons => exact absurd h Bool.false_ne_true
    | nil =>
      refine ⟨fun pins s σ H D I h => pss_nil.run pins s σ H D I ?_⟩
      obtain ⟨F, M, Z, ρ, N', T', sr, re, hw, k, _⟩ := h
      simp only [wpB] at hw
      exact k _ _ ⟨F, M, ρ, Same.refl F, sr, re.re, hw⟩
  | .cons s r, sts, tb, e0, X, R, c, h => by
    unfold ckB at h
    split at h
    case h_2 => exact absurd h Bool.false_ne_true
    replace h := ba h; obtain ⟨h1, h2⟩ := h
    refine ⟨fun pins s' σ H D I hq => (pss_cons (jS s (R := R) c h1) (jB r (R := R) c h2)).run pins s' σ H D I ?_⟩
    obtain ⟨F, M, Z, ρ, N', T', sr, re, hw, k, k2⟩ := hq
    simp only [wpB] at hw
    exact ⟨F, M, Z, ρ, _, T', sr, re, hw, fun σ' H' ⟨F1, M1, ρ1, s1, sr1, re1, h1⟩ => ⟨F1, M1, Z, ρ1, N', T', sr1, re.to s1 re1, h1, fun σ2 H2 ⟨F2, M2, ρ2, s2, r⟩ => k _ _ ⟨F2, M2, ρ2, s1.trans s2, r⟩, fun v H' q => k2 _ _ (q.back s1)⟩, k2⟩
end
end
end T
set_option Elab.async false
set_option linter.all false
set_option maxRecDepth 100000
set_option maxHeartbeats 400000
namespace T
open PySem PySem.Spec PyProof.Rows L2 HT
open Classical in
noncomputable def fzF (F H : Hp) (M : MH) (S : Addr → Prop) : Hp := fun a => if S a ∧ (M a).isSome = true then H a else F a
section
variable {K : PySem.W.Frag} {F Z H : Hp} {M : MH} {S : Addr → Prop}
theorem fz_same (sr : SR K F M Z H) : Same F (fzF F H M S) := fun a o e => by
  unfold fzF
  split
  · exact sr.f a o e
  · exact e
theorem fz_at (h1 : S a) {c : Ce} (h2 : M a = some c) : fzF F H M S a = H a := by
  unfold fzF
  rw [if_pos ⟨h1, by rw [h2]; rfl⟩]
mutual
theorem fz_rep (sr : SR K F M Z H) : ∀ {v : V} {d d' : D}, FzD M S d d' → Rep K F v d → Rep K (fzF F H M S) v d'
  | v, d, _, .keep _, r => r.mono (fz_same sr)
  | v, .ref a, _, .ref (xs := xs) h1 h2 h3, r => by
    obtain rfl := mp_ref r
    obtain ⟨vs, hH, ra⟩ := cell_lst sr h1
    exact .lst (by rw [fz_at h2 h1]; exact hH) (fz_reps sr h3 ra)
  | v, .ref a, _, .dct h1 h2 h3, r => by
    obtain rfl := mp_ref r
    obtain ⟨_, _, o, hH, rc⟩ := sr.m _ _ h1
    cases rc with
    | dK ra => exact .dK (by rw [fz_at h2 h1]; exact hH) (fz_reps sr h3 ra)
    | dT ra => exact .dT (by rw [fz_at h2 h1]; exact hH) (fz_reps sr h3 ra)
  | v, .tup xs, _, .tup h3, r => by
    cases r with
    | tup ht ra => exact .tup (TupS.mono (fz_same sr) ht) (fz_reps sr h3 ra)
theorem fz_reps (sr : SR K F M Z H) : ∀ {vs : List V} {ds ds' : List D}, FzA M S ds ds' → RepA K F vs ds → RepA K (fzF F H M S) vs ds'
  | _, _, _, .nil, r => by cases r; exact .nil
  | _, _, _, .cons h t, r => by
    cases r with
    | cons r rs => exact .cons (fz_rep sr h r) (fz_reps sr t rs)
end
theorem fin_ok {v : V} {d : D} {Q' : D → MH → Prop} (sr : SR K F M Z H) (r : Rep K F v d) (h : Fin d M Q') : KQ K F Z Q' v H := by
  obtain ⟨S, M2, d', hz, hM, q⟩ := h
  refine ⟨fzF F H M S, M2, d', fz_same sr, ⟨fun a o e => ?_, sr.z, fun a o e => ?_, fun a c e => ?_⟩, fz_rep sr hz r, q⟩
  · unfold fzF at e
    split at e
    · exact e
    · exact sr.f a o e
  · unfold fzF at e
    split at e
    · rename_i hc
      cases q : M a with
      | none => rw [q] at hc; exact absurd hc.2 Bool.false_ne_true
      | some c => exact (sr.m a c q).2.1
    · exact sr.fz a o e
  · obtain ⟨e1, hs⟩ := hM a c e
    obtain ⟨h1, h2, o, h3, h4⟩ := sr.m a c e1
    refine ⟨?_, h2, o, h3, h4.mono (fz_same sr)⟩
    unfold fzF
    rw [if_neg fun z => hs z.1]
    exact h1
end
/-- the context of its body -/
def cxE (P : Program) (w : World) (K : PySem.W.Frag) (mg : Str → Option Value) (base : Heap) (N : List Str) (qual : Str) (scope : Scope) (f : Addr) (cd : Value) (A : Around) (outer : List Env) (s : Shared) (H : Hp) (E : XK) (oe : Obj) : Option (Addr × Xc) → Cx
  | none => cxOf (L2N.CX P w) P w K mg base N qual scope f cd A outer s H E
  | some p => L2H.cxH (L2N.CX P w) P w K mg base N qual scope f cd A outer s H E (p.1, oe)
theorem fg_of {P : Program} {w : World} {K : PySem.W.Frag} {mg : Str → Option Value} {base : Heap} {k : Nat} {ex : Option (Addr × Xc)} {f : Addr} {name qual : Str} {params : Arguments} {body : List Stmt} {scope : Scope} {dV kV doc pm cdv ct oc : Value} {an od : Option Addr}
    {osl : Array (Option Value)} {N ps : List Str} {sp : Obj → Sp} (lk : K.lookup f = some ⟨oc, od, .func (PySem.W.fnOf name qual params body scope dV kV doc pm an cdv ct), osl⟩) (hcd : PySem.W.codeIn K cdv qual = true) (S : FnScope N ps scope)
    (len : ∀ oe vs H Q E, sp oe vs H Q E → vs.length = ps.length)
    (hbody : base.get? sysModules ≠ none → ∀ (A : Around) (outer : List Env) (s : Shared) (H : Hp) (vs : List V) (Q : VK) (E : XK) (oe : Obj), L2H.RoomH (k + 2) (A.deeper (envOfC qual scope s.heap.objs.size f cdv)) → (ex = none → A.handled = none) → (∀ p, ex = some p → L2H.Hot1 A (p.1, oe)) → A.guards = some [] → sp oe vs H Q E →
      ∃ t, PSs (cxE P w K mg base N qual scope f cdv A outer s H E oe ex) body t ∧ t { nx := fun _ H' => Q .non H', rt := Q } (start N vs) H) :
    FG P w K mg base (k + 1) ex f (PySem.W.fnOf name qual params body scope dV kV doc pm an cdv ct) ps sp := by
  refine ⟨len, fun hsm A outer s H args us vs Q E oe hr hgd e0 hb r hsp => ?_⟩
  obtain ⟨hr, hhd, hot⟩ := hr
  have hl := len _ _ _ _ _ hsp
  have KX : K.In s.heap := e0.mod.kin.keeps fun b o e => (e0.bs b o e).1
  have lim : s.heap.NoLimit := e0.mod.nolimit.keeps fun b o e => (e0.bs b o e).1
  have hkind : ∀ y ∈ ps.zip us, scope.names.lookup y.1 = some .local ∨ (scope.names.lookup y.1 = some .cell ∧ ((cellsFrom (s.heap.objs.size + 1) scope.names []).lookup y.1).isSome = true) := fun ⟨n, v⟩ hy => by
    rcases S.par n (List.of_mem_zip hy).1 with q | q
    · exact .inl q
    · exact .inr ⟨q, PySem.W.cellsFrom_some _ _ _ (.inl q)⟩
  refine codeAny_call_function hr.depth (KX _ _ lk) rfl S.co S.gen rfl (PySem.W.codeRec_of KX hcd) (hb _ _ _ _ ?_)
  refine wpAny_newFunctionEnv_cells S.kind hkind fun env he s1 x => ?_
  subst he
  refine ⟨lim.keeps x.toInCall.keep, codeAny_func ?_⟩
  obtain ⟨t, ht, hq⟩ := hbody hsm A outer s H vs Q E oe (hr.deeper _) hhd (fun p e => (hot p e).1) hgd hsp
  have I : Inv (cxE P w K mg base N qual scope f cdv A outer s H E oe ex) [] (start N vs) H s1 := by
    cases ex with
    | none => exact inv_start S (hhd rfl) e0 hl r x
    | some p => exact L2H.inv_startH S (hot p rfl).2 e0 hl r x
  have run : wpAny (model P w) (A.deeper (envOfC qual scope s.heap.objs.size f cdv)) (execs body (envOfC qual scope s.heap.objs.size f cdv)) (SP (cxE P w K mg base N qual scope f cdv A outer s H E oe ex) [] { nx := fun _ H' => Q .non H', rt := Q }) (cxE P w K mg base N qual scope f cdv A outer s H E oe ex).xe s1 := by
    have := ht.run [] s1 (start N vs) H _ I hq
    cases ex <;> exact this
  refine wpAny_mono run (fun fl s' hs => ?_) fun e s' hs => ?_
  · have fin : ∀ {σ' : L2.St} {H' : Hp} {v : V} {u : Value}, Inv (cxE P w K mg base N qual scope f cdv A outer s H E oe ex) [] σ' H' s' → RelV v u → Q v H' → CE outer P w H s Q u s' := fun {σ' H' v u} J rv q => by
      cases ex <;> exact ⟨v, H', J.os, J.bare, J.base, J.hok, rv, q⟩
    cases fl with
    | ret u =>
      obtain ⟨v, σ', H', J, rv, q⟩ := hs
      exact fin J rv q
    | next =>
      obtain ⟨σ', H', J, q⟩ := hs
      exact fin (v := V.non) (u := Value.none) J rfl q
    | brk =>
      obtain ⟨_, _, _, q⟩ := hs
      exact False.elim q
    | cont =>
      obtain ⟨_, _, _, q⟩ := hs
      exact False.elim q
  · cases ex <;> exact hs
theorem re_start {K : PySem.W.Frag} {F : Hp} {vs : List V} {ds : List D} (r : RepA K F vs ds) (k : Nat) : RE K F (vs.map some ++ List.replicate k none) (ds.map some ++ List.replicate k none) := by
  refine ⟨by simp [r.len], fun i d e => ?_⟩
  by_cases hi : i < ds.length
  · rw [List.getElem?_append_left (by simpa using hi), List.getElem?_map] at e
    cases q : ds[i]? with
    | none => rw [q] at e; cases e
    | some d' =>
      rw [q] at e
      cases e
      obtain ⟨v, hv, rv⟩ := r.get q
      refine ⟨v, ?_, rv⟩
      rw [List.getElem?_append_left (by rw [List.length_map, r.len]; exact hi), List.getElem?_map, hv]
      rfl
  · rw [List.getElem?_append_right (by simpa using hi), List.getElem?_replicate] at e
    split at e <;> cases e
/-- the facts of the module's state that every def needs -/
structure Ground (PF : Nat → Option Fn) (G : Nat → Option D) (tb : Tb) (P : Program) (w : World) (K : PySem.W.Frag) (mg : Str → Option Value) (base : Heap) (n : Nat) : Prop where
  call : ∀ f x, tb.fnm f = some x → ∃ addr fd ps, mg x = some (.ref addr) ∧ PySem.W.keepIn K (.ref addr) = true ∧ Binds K fd ps [] ∧ FG P w K mg base n none addr fd ps (spD K tb.cs PF G n none f)
  hcall : ∀ p f x, tb.hfn f = some x → ∃ addr fd ps, mg x = some (.ref addr) ∧ PySem.W.keepIn K (.ref addr) = true ∧ Binds K fd ps [] ∧ FG P w K mg base n (some p) addr fd ps (spD K tb.cs PF G n (some p) f)
  glob : ∀ k x d, tb.gnm k = some x → G k = some d → ∃ u v, mg x = some u ∧ RelV v u ∧ ∀ F, Rep K F v d
  blt : ∀ x ∈ bltNames, mg x = none
  xc : ∀ p ∈ tb.cs, XOK K tb.cs mg p
  xt : tb.cs ≠ [] → mg "TasteError" = some (.ref (He.ga K "TasteError"))
  xi : ∀ c f, (c, some f) ∈ tb.cs → ∃ fI fd ps, PySem.W.findIn K (.ref (He.ga K c)) "__init__" = some (some (.ref fI)) ∧ PySem.W.typeIn K (.ref fI) = some (.type "function") ∧ Binds K fd ps [] ∧ FnOk P w K mg base (L2N.CX P w) 1 fI fd ps (spI (He.ga K c) f)
  szk : tb.sz = true → SzOK K w mg
/-- the tables while e is handled -/
def Tb.at (tb : Tb) (e : Option (Addr × Xc)) : Tb := match e with
  | none => tb
  | some _ => tb.toHot
theorem fg_step {PF : Nat → Option Fn} {G : Nat → Option D} {tb : Tb} {P : Program} {w : World} {K : PySem.W.Frag} {mg : Str → Option Value} {base : Heap} {k i : Nat} {ex : Option (Addr × Xc)} {f : Addr} {name qual : Str} {params : Arguments} {body : List Stmt} {scope : Scope} {dV kV doc pm cdv ct oc : Value} {an od : Option Addr}
    {osl : Array (Option Value)} {N ps : List Str} {fn : Fn} (gr : Ground PF G tb P w K mg base k) (ht : tb.hot = false) (lk : K.lookup f = some ⟨oc, od, .func (PySem.W.fnOf name qual params body scope dV kV doc pm an cdv ct), osl⟩) (hcd : PySem.W.codeIn K cdv qual = true) (S : FnScope N ps scope)
    (hp : PF i = some fn) (h1 : fn.np = ps.length) (h2 : fn.ns = N.length) (hck : ckB (tb.at ex) N scope fn.body body = true) :
    FG P w K mg base (k + 1) ex f (PySem.W.fnOf name qual params body scope dV kV doc pm an cdv ct) ps (spD K tb.cs PF G (k + 1) ex i) := by
  refine fg_of lk hcd S (fun oe vs H Q E ⟨F, M, Z, ds, Q', R, sr, ra, _, h, _⟩ => ?_) fun hsm A outer s H vs Q E oe hr hhd hot hgd ⟨F, M, Z, ds, Q', R, sr, ra, hx, h, kk, kx⟩ => ?_
  · simp only [callX, hp] at h
    rw [ra.len, h.1, h1]
  · simp only [callX, hp] at h
    obtain ⟨hl, h⟩ := h
    have e : N.length - vs.length = fn.ns - fn.np := by rw [ra.len, hl, h2]
    have rst : RE K F (L2.start N vs) (ds.map some ++ List.replicate (fn.ns - fn.np) none) := by
      unfold L2.start
      rw [e]
      exact re_start ra _
    cases ex with
    | none =>
      have c : CS PF G tb k none N scope (cxE P w K mg base N qual scope f cdv A outer s H E oe none) := {
        room := hr
        hdl := fun _ => hhd rfl
        gd := hgd
        sm := hsm
        calm := fun _ => rfl
        hote := ht
        nd := S.nd
        hN := rfl
        hs := rfl
        call := gr.call
        glob := gr.glob
        blt := gr.blt
        xc := gr.xc
        xt := gr.xt
        xi := gr.xi
        szk := gr.szk
        fn := fun _ => rfl
        kind := S.kind
        po := passes_of rfl
        stk := rfl
        frm := rfl
        hcall := gr.hcall }
      refine ⟨_, jB fn.body (R := fun x _ M' => R x M') c hck, F, M, Z, _, _, _, sr, ⟨rst, ?_, fun p e => nomatch e⟩, h, fun σ' H' ⟨F1, M1, ρ1, s1, sr1, _, h1⟩ => kk _ _ ((fin_ok sr1 .non h1).back s1), fun v H' ⟨F1, M1, d, s1, sr1, rd, h1⟩ => kk _ _ ((fin_ok sr1 rd h1).back s1)⟩
      exact (L2N.takes_of (X := cxE P w K mg base N qual scope f cdv A outer s H E oe none) (E := E) rfl rfl rfl rfl).imp fun cls d σ' H' ⟨F', M', ρ', x, s', sr', _, xr, r⟩ => kx _ _ _ ⟨F', M', x, s', sr', xr, r⟩
    | some p =>
      have c : CS PF G tb.toHot k (some p) N scope (cxE P w K mg base N qual scope f cdv A outer s H E oe (some p)) := {
        room := hr
        hdl := fun z => nomatch z
        gd := hgd
        sm := hsm
        calm := fun z => nomatch z
        hote := rfl
        nd := S.nd
        hN := rfl
        hs := rfl
        call := gr.hcall p
        glob := gr.glob
        blt := gr.blt
        xc := gr.xc
        xt := gr.xt
        xi := gr.xi
        szk := fun z => nomatch z
        fn := fun _ => rfl
        kind := S.kind
        po := passes_of rfl
        stk := rfl
        frm := rfl
        hcall := fun _ _ _ z => nomatch z }
      refine ⟨_, jB fn.body (R := fun x _ M' => R x M') c hck, F, M, Z, _, _, _, sr, ⟨rst, ?_, fun q e => ?_⟩, h, fun σ' H' ⟨F1, M1, ρ1, s1, sr1, _, h1⟩ => kk _ _ ((fin_ok sr1 .non h1).back s1), fun v H' ⟨F1, M1, d, s1, sr1, rd, h1⟩ => kk _ _ ((fin_ok sr1 rd h1).back s1)⟩
      · exact (L2N.takes_of (X := cxE P w K mg base N qual scope f cdv A outer s H E oe (some p)) (E := E) rfl rfl rfl rfl).imp fun cls d σ' H' ⟨F', M', ρ', x, s', sr', _, xr, r⟩ => kx _ _ _ ⟨F', M', x, s', sr', xr, r⟩
      · cases e
        exact ⟨oe, List.mem_cons_self, hot p rfl, hx p rfl⟩
/-- what is tracked ahead of the law: the script, unless it is the module's own -/
def topH (K : PySem.W.Frag) (a : Addr) (o : Obj) (xs : List V) : Hp := fun b => if b = a then (match K.lookup a with | none => some (.frz o (.lst xs)) | some _ => none) else none
section
variable {K : PySem.W.Frag} {a b : Addr} {o : Obj} {xs : List V} {u : HO}
theorem topH_inv (h : topH K a o xs b = some u) : b = a ∧ K.lookup a = none ∧ u = .frz o (.lst xs) := by
  unfold topH at h
  split at h
  · split at h
    · cases h; exact ⟨by assumption, by assumption, rfl⟩
    · cases h
  · cases h
theorem topH_none (h : b ≠ a ∨ K.lookup a ≠ none) : topH K a o xs b = none := by
  cases q : topH K a o xs b with
  | none => rfl
  | some u =>
    obtain ⟨h1, h2, _⟩ := topH_inv q
    rcases h with h | h
    · exact (h h1).elim
    · exact (h h2).elim
end
/-- the law's call at the top, where nothing is under way -/
theorem law_top {P : Program} {w : World} {K : PySem.W.Frag} {mg mb : Str → Option Value} {k : Nat} {fa a : Addr} {fd : FuncData} {x : Str} {sp : Obj → Sp} {s : Shared} {vs : List Value} {ns : List Int}
    (KX : K.In s.heap) (hns : s.heap.Ns mainGlobals mg) (hb : s.heap.Ns builtinsNs mb) (hbb : ∀ x : Str, x ≠ "__name__" → mb x = bootBuiltins x) (hlim : s.heap.NoLimit) (hsm : s.heap.NoSeer) (hg : s.gens = #[])
    (ha : s.heap.get? a = some { cls := .type "list", data := .seq vs.toArray }) (hi : IntsAre vs ns) (hl : ns.length ≤ sizeLine) (hr : Room (k + 2) callerA)
    (F : ∀ base : Heap, K.In base → base.Ns mainGlobals mg → FG P w K mg base k none fa fd [x] sp) (hbind : ∀ (s : Shared) (u : Value), BindsTo s fd ⟨[u], []⟩ [(x, u)])
    (hsp : ∀ H : Hp, SqL K H a (ns.map V.int) → sp { cls := .none, dict := none, data := .fields #[], slots := #[] } [.ref a] H (fun v _ => v = .bl true) fun _ _ _ => False) :
    codeAny (model P w) callerA (.call (.ref fa) ⟨[.ref a], []⟩) (fun r s' => r = .ok (.ret (.bool true)) ∧ OldK s.heap s'.heap ∧ s'.os = s.os ∧ AllBare s'.gens) s := by
  have rv := vals_ints hi
  generalize hH : topH K a { cls := .type "list", data := .seq vs.toArray } (ns.map V.int) = H
  have inv : ∀ {b u}, H b = some u → b = a ∧ K.lookup a = none ∧ u = .frz { cls := .type "list", data := .seq vs.toArray } (.lst (ns.map V.int)) := fun q => by rw [← hH] at q; exact topH_inv q
  have non : ∀ {b : Addr} {o : Obj}, s.heap.get? b = some o → (b ≠ a ∨ K.lookup a ≠ none) → (hidT s.heap H).get? b = some o := fun e h => hidT_get e (by rw [← hH]; exact topH_none h)
  have nsK : ∀ {b : Addr} {m : Str → Option Value}, s.heap.Ns b m → (hidT s.heap H).Ns b m := fun {b m} ⟨o, es, ep, e, d, r⟩ => ⟨o, es, ep, non e (.inl fun z => by
    subst z
    rw [ha] at e
    cases e
    cases d), d, r⟩
  have kin : K.In (hidT s.heap H) := fun b o e => non (KX b o e) (by
    by_cases hb : b = a
    · subst hb; exact .inr (by rw [e]; simp)
    · exact .inl hb)
  have md : Mod K mg (hidT s.heap H) := ⟨kin, nsK hns, ⟨mb, nsK hb, hbb⟩, let ⟨mc, h1, h2⟩ := hlim; ⟨mc, nsK h1, h2⟩⟩
  have hok : HOk P w H s.heap := fun b u q => by
    obtain ⟨rfl, _, rfl⟩ := inv q
    exact ⟨ha, by rw [List.length_map]; exact hl, vs, _, rv, ha⟩
  have hS : SqL K H a (ns.map V.int) := by
    cases hk : K.lookup a with
    | some o =>
      have e := KX a o hk
      rw [ha] at e
      cases e
      exact .inr ⟨_, vs.toArray, _, hk, rfl, rfl, rfl, by rw [List.size_toArray, hi.length]; exact hl, by simpa using rv⟩
    | none => exact .inl (.inr ⟨{ cls := .type "list", data := .seq vs.toArray }, by rw [← hH]; unfold topH; rw [if_pos rfl, hk]⟩)
  have hsm' : (hidT s.heap H).get? sysModules ≠ none := by
    obtain ⟨mm, h1, _⟩ := hsm.mods
    obtain ⟨o, es, ep, e, _⟩ := nsK h1
    rw [e]; simp
  have e0 : Env0 P w K mg (hidT s.heap H) callerA [] s H := ⟨rfl, md, fun b o e => of_hidT e, Nat.le_of_eq (hidT_size _ _), trivial, fun b hb => (by cases hb), hok, .of_eq hg⟩
  refine codeAny_mono ((F _ kin (nsK hns)).run hsm' callerA [] s H ⟨[.ref a], []⟩ [.ref a] [.ref a] _ _ _ ⟨⟨hr.dp, hr.un⟩, fun _ => hr.hd, fun _ z => nomatch z⟩ rfl e0 (hbind s (.ref a)) (.cons rfl .nil) (hsp H hS)) fun r s' h => ?_
  cases r with
  | error e =>
    obtain ⟨_, _, _, _, _, _, _, _, _, _, _, _, z⟩ := h
    exact z.elim
  | ok fl =>
    cases fl with
    | next => exact False.elim h
    | brk => exact False.elim h
    | cont => exact False.elim h
    | ret u =>
      obtain ⟨v, H', os, bare, un, hok', r', q⟩ := h
      have q' : v = .bl true := q
      subst q'
      obtain rfl : u = Value.bool true := r'
      refine ⟨rfl, OldK.of_keep fun b o e => ?_, os, bare⟩
      cases q2 : H b with
      | none => exact un.keep b o e q2 (fun z => nomatch z) (by simp)
      | some u =>
        obtain ⟨rfl, _, rfl⟩ := inv q2
        obtain ⟨e2, _⟩ := hok' b _ (un.frzs b _ _ q2)
        rw [ha] at e
        cases e
        exact e2
/-- a law's end, where nothing is under way at its call -/
theorem walk_top {l : PySem.W.OpenLaw} {n k : Nat} {q : Program} {loose : List Str} {XP : (Str → Option Value) → Heap → Prop} {YP : World → Heap → Prop} {d : DefRec} {x : Str}
    (hn : l.most = some n) (hn2 : n ≤ sizeLine) (hdf : d.params.defaults = []) (hin : PyProof.Rows.importsNone q = true) (hr : Room (k + 2) callerA)
    (F : ∀ (w : World) (mg : Str → Option Value) (fa : Addr) (h : Heap), YP w h → h.Ns mainGlobals mg → mg d.name = some (.ref fa) →
      ∃ (K : PySem.W.Frag) (fd : FuncData) (sp : Obj → Sp), K.In h ∧ (∀ (s : Shared) (u : Value), BindsTo s fd ⟨[u], []⟩ [(x, u)]) ∧
        (∀ (H : Hp) (a : Addr) (ns : List Int), ns.length ≤ n → SqL K H a (ns.map V.int) → sp { cls := .none, dict := none, data := .fields #[], slots := #[] } [.ref a] H (fun v _ => v = .bl true) fun _ _ _ => False) ∧
        ∀ base : Heap, K.In base → base.Ns mainGlobals mg → FG l.prog w K mg base k none fa fd [x] sp) :
    PySem.W.WalkO q loose XP YP l.row.toRowW d [] (fun f vs => PySem.call f vs) := by
  refine Att.attach_call hn hdf fun w s₀ s₁ mg mb fa o pm cd doc a vs ns G Y ho hd hcd hmg hobj hints hlen hg => ?_
  obtain ⟨K, fd, sp, KX, hb, hsp, hF⟩ := F w mg fa _ Y G.T.g hmg
  exact law_top KX G.T.g G.T.b G.T.builtins G.T.nolimit (G.T.seer hin) hg hobj hints (Nat.le_trans hlen hn2) hr hF hb fun H hS => hsp H a ns hlen hS
end T
set_option Elab.async false
set_option linter.all false
set_option maxRecDepth 100000
set_option maxHeartbeats 400000
namespace T
open PySem PySem.Spec PyProof.Rows L2 HT
def oexB (K : PySem.W.Frag) (C : Addr) : Bool := (match K.lookup C with
  | some ⟨.type t, _, .cls cd, sl⟩ => (match cd.mro, sl.toList with
    | .ref C' :: bm, [_, _, _, _, some (.builtin n), _] => decide (t = "type") && (decide (C' = C) && (decide (n = "ValueError.__new__") && (!cd.hasDel && (cd.hasDict && PySem.HandSPX.refsVE bm))))
    | _, _ => false)
  | _ => false) && (He.eqO (PySem.W.findIn K (.ref C) "__setattr__") (some (some (.builtin "object.__setattr__"))) && (decide (PySem.W.subIn K (.ref C) (.type "BaseException") = some true) && (decide (PySem.W.typeIn K (.ref C) = some (.type "type")) && PySem.W.keepIn K (.ref C))))
theorem oexB_ok {K : PySem.W.Frag} {C : Addr} (h : oexB K C = true) : OexC K C := by
  replace h := ba h; obtain ⟨h1, h⟩ := h
  replace h := ba h; obtain ⟨h2, h⟩ := h
  replace h := da h; obtain ⟨h3, h⟩ := h
  replace h := da h; obtain ⟨h4, h5⟩ := h
  refine ⟨?_, He.eqO_ok h2, h3, h4, h5⟩
  split at h1
  · rename_i t dd cd sl ho
    split at h1
    · rename_i C' bm k0 k1 k2 k3 n k5 hm hs
      replace h1 := da h1; obtain ⟨q1, h1⟩ := h1
      replace h1 := da h1; obtain ⟨q2, h1⟩ := h1
      replace h1 := da h1; obtain ⟨q3, h1⟩ := h1
      replace h1 := ba h1; obtain ⟨q4, h1⟩ := h1
      replace h1 := ba h1; obtain ⟨q5, q6⟩ := h1
      replace q4 := na q4
      obtain ⟨nm, bs, mro, ns, qn, hd, sn, sub, ab, col, del⟩ := cd
      dsimp only at hm q4 q5
      subst q1 q2 q3 hm q4 q5
      have hsl : sl = #[k0, k1, k2, k3, some (.builtin "ValueError.__new__"), k5] := by
        obtain ⟨l⟩ := sl
        simp only at hs
        rw [hs]
      subst hsl
      exact ⟨nm, qn, ns, bs, bm, sn, sub, ab, col, dd, k0, k1, k2, k3, k5, ho, q6⟩
    · cases h1
  · cases h1
def xNames (cs : List (Str × Option Str)) : List Str := cs.map (·.1) ++ [("TasteError" : Str), ("ValueError" : Str)]
theorem xNames_of {cs : List (Str × Option Str)} {t : Str} (h : xsT cs t) : t ∈ xNames cs := by
  unfold xNames
  rcases h with h | h | h
  · exact List.mem_append_left _ h
  · rw [h]; simp
  · rw [h]; simp
def xokB (K : PySem.W.Frag) (cs : List (Str × Option Str)) (p : Str × Option Str) : Bool :=
  He.eqO (PySem.W.nsIn K mainGlobals p.1) (some (some (.ref (He.ga K p.1)))) && (PySem.W.keepIn K (.ref (He.ga K p.1)) && (decide (PySem.W.subIn K (.ref (He.ga K p.1)) (.type "BaseException") = some true) && (decide (PySem.W.typeIn K (.ref (He.ga K p.1)) = some (.type "type")) &&
  ((xNames cs).all (fun t => decide (PySem.W.exmOne K (.ref (He.ga K p.1)) (clV K t) = some (subX p.1 t)) && decide (PySem.W.kitOne K (.ref (He.ga K p.1)) (clV K t) = some (subX p.1 t))) &&
  (He.eqO (PySem.W.findIn K (.ref (He.ga K p.1)) "__getattribute__") (some (some (.builtin "BaseException.__getattribute__"))) && (He.eqO (PySem.W.findIn K (.ref (He.ga K p.1)) "__getattr__") (some none) && (PySem.W.hasDictIn K (He.ga K p.1) && ((PySem.W.clsIn K (He.ga K p.1)).isSome &&
  (He.eqO (PySem.W.findIn K (.ref (He.ga K p.1)) "__class__") (some (some (.builtin "object.__class__"))) && (He.eqO (PySem.W.specialIn K (.builtin "object.__class__") "__get__") (some (some (.builtin "getset_descriptor.__get__"))) && (decide (PySem.W.takesIn K (.builtin "object.__class__") = some true) && (decide (PySem.W.mroIn K (He.ga K p.1) (.type "object") = some true) &&
  (match p.2 with
  | none => PySem.W.excIn K (He.ga K p.1) He.veBase "ValueError.__new__"
  | some f => oexB K (He.ga K p.1) && (He.eqO (PySem.W.findIn K (.ref (He.ga K p.1)) f) (some none) && (He.eqO (PySem.W.findIn K (.ref (He.ga K p.1)) "__init__") (some (some (.ref (He.ma K (He.ga K p.1) "__init__")))) && decide (PySem.W.typeIn K (.ref (He.ma K (He.ga K p.1) "__init__")) = some (.type "function")))))))))))))))))
def xallB (cs : List (Str × Option Str)) (K : PySem.W.Frag) : Bool := cs.all (xokB K cs) && (cs.isEmpty || He.eqO (PySem.W.nsIn K mainGlobals "TasteError") (some (some (.ref (He.ga K "TasteError")))))
theorem xok_of {K : PySem.W.Frag} {h : Heap} {mg : Str → Option Value} (X : K.In h) (G : h.Ns mainGlobals mg) {cs : List (Str × Option Str)} {p : Str × Option Str} (h : xokB K cs p = true) : XOK K cs mg p ∧ ∀ f, p.2 = some f → PySem.W.findIn K (.ref (He.ga K p.1)) "__init__" = some (some (.ref (He.ma K (He.ga K p.1) "__init__"))) ∧ PySem.W.typeIn K (.ref (He.ma K (He.ga K p.1) "__init__")) = some (.type "function") := by
  unfold xokB at h
  replace h := ba h; obtain ⟨h1, h⟩ := h
  replace h := ba h; obtain ⟨h2, h⟩ := h
  replace h := da h; obtain ⟨h3, h⟩ := h
  replace h := da h; obtain ⟨h4, h⟩ := h
  replace h := ba h; obtain ⟨h5, h⟩ := h
  replace h := ba h; obtain ⟨h6, h⟩ := h
  replace h := ba h; obtain ⟨h7, h⟩ := h
  replace h := ba h; obtain ⟨h8, h⟩ := h
  replace h := ba h; obtain ⟨h9, h⟩ := h
  replace h := ba h; obtain ⟨h10, h⟩ := h
  replace h := ba h; obtain ⟨h11, h⟩ := h
  replace h := da h; obtain ⟨h12, h⟩ := h
  replace h := da h; obtain ⟨h13, h⟩ := h
  have h5' := fun t ht => List.all_eq_true.mp h5 t (xNames_of ht)
  refine ⟨⟨PySem.W.mg_of X G (He.eqO_ok h1), h2, h3, h4, fun t ht => of_decide_eq_true (ba (h5' t ht)).1, fun t ht => of_decide_eq_true (ba (h5' t ht)).2, He.eqO_ok h6, He.eqO_ok h7, h8, h9, He.eqO_ok h10, He.eqO_ok h11, h12, h13, fun e => ?_, fun f e => ?_⟩, fun f e => ?_⟩
  · rw [e] at h; exact h
  · rw [e] at h
    replace h := ba h; obtain ⟨q1, h⟩ := h
    replace h := ba h; obtain ⟨q2, h⟩ := h
    exact ⟨oexB_ok q1, He.eqO_ok q2⟩
  · rw [e] at h
    replace h := ba h; obtain ⟨q1, h⟩ := h
    replace h := ba h; obtain ⟨q2, h⟩ := h
    replace h := ba h; obtain ⟨q3, h⟩ := h
    exact ⟨He.eqO_ok q3, of_decide_eq_true h⟩
def initB (f : Str) (scope : Scope) (body : List Stmt) : Bool := match body with
  | [.Assign [.Attribute (.Name s _) g _] (.Name v _) _] => decide (s = "self") && (decide (g = f) && (decide (v = f) && (!(f == ("__debug__" : Str)) && (!(f == ("__classdict__" : Str)) && (lkB scope "self" && lkB scope f)))))
  | _ => false
theorem init_ok {P : Program} {w : World} {K : PySem.W.Frag} {mg : Str → Option Value} {base : Heap} {fd : FuncData} {a C : Addr} {f qual : Str} {params : Arguments} {body : List Stmt} {scope : Scope} (F : FunD K "__init__" qual params body scope [] [] a fd) (S : FnScope ["self", f] ["self", f] scope) (hb : initB f scope body = true) (hO : OexC K C) (hno : PySem.W.findIn K (.ref C) f = some none) :
    FnOk P w K mg base (L2N.CX P w) 1 a fd ["self", f] (spI C f) := by
  refine F.ok (k := 0) (N := ["self", f]) S (fun vs H Q E ⟨a, y, e, _⟩ => by rw [e]; rfl) fun cdv A outer s H vs Q E hr ⟨a_1, y, e, ha, q⟩ => ?_
  unfold initB at hb
  split at hb
  case h_2 => exact absurd hb Bool.false_ne_true
  rename_i s' p1 g p2 v p3 p4
  replace hb := da hb; obtain ⟨h1, hb⟩ := hb
  replace hb := da hb; obtain ⟨h2, hb⟩ := hb
  replace hb := da hb; obtain ⟨h3, hb⟩ := hb
  replace hb := ba hb; obtain ⟨h4, hb⟩ := hb
  replace hb := ba hb; obtain ⟨h5, hb⟩ := hb
  replace hb := ba hb; obtain ⟨h6, h7⟩ := hb
  subst h1 h2 h3
  refine ⟨_, pss_cons (ps_ost (pe_var (i := 0) rfl (.inl (of_decide_eq_true h6)) (by decide) (by decide)) (pe_var (i := 1) rfl (.inl (of_decide_eq_true h7)) (na h4) (na h5))) pss_nil, ?_⟩
  have e0 : (L2.start ["self", v] vs)[0]? = some (some (.ref a_1)) := by rw [e]; rfl
  have e1 : (L2.start ["self", v] vs)[1]? = some (some y) := by rw [e]; rfl
  exact ⟨y, e1, .ref a_1, e0, a_1, C, rfl, hO, hno, .inl ⟨ha, q⟩⟩
/-- a class's i-th statement -/
def clsStmt (i : Nat) : Stmt → Stmt
  | .ClassDef _ _ _ b _ _ _ _ _ _ _ => b.getD i (.Pass ⟨0, 0, 0, 0⟩)
  | s => s
def obsX (fa : List He.Fa) (fn : List He.DefD) (cs : List (Str × Option Str)) (K : PySem.W.Frag) : Bool × He.AlD := (xallB cs K, He.obsD fa fn K)
def SaysX (fa : List He.Fa) (fn : List He.DefD) (cs : List (Str × Option Str)) (K : PySem.W.Frag) : Prop := obsX fa fn cs K = (true, He.valD fn)
theorem SaysX.d {fa : List He.Fa} {fn : List He.DefD} {cs : List (Str × Option Str)} {K : PySem.W.Frag} (h : SaysX fa fn cs K) : He.SaysD fa fn K := congrArg (fun z : Bool × He.AlD => z.2) h
theorem SaysX.x {fa : List He.Fa} {fn : List He.DefD} {cs : List (Str × Option Str)} {K : PySem.W.Frag} (h : SaysX fa fn cs K) : xallB cs K = true := congrArg (fun z : Bool × He.AlD => z.1) h
def obsXG (n : Nat) (fa : List He.Fa) (fn : List He.DefD) (cs : List (Str × Option Str)) (g : Addr → Option Obj) : Bool × He.AlD := obsX fa fn cs (He.frG g (He.asD g n))
def hookX (n : Nat) (fa : List He.Fa) (fn : List He.DefD) (cs : List (Str × Option Str)) : PySem.W.Hook where
  α := Bool × He.AlD
  obs := fun s => obsXG n fa fn cs s.heap.get?
  val := fun _ => (true, He.valD fn)
  says := fun _ h => ∃ K : PySem.W.Frag, K.In h ∧ SaysX fa fn cs K
  of := fun _ _ e => ⟨_, He.frG_in, e⟩
  keeps := fun _ _ _ ⟨K, hK, c⟩ k => ⟨K, PySem.W.Frag.In.keeps hK k, c⟩
theorem obsXG_eq {n : Nat} {fa : List He.Fa} {fn : List He.DefD} {cs : List (Str × Option Str)} {g : Addr → Option Obj} {s : Shared} (h : ∀ a, g a = s.heap.get? a) : obsXG n fa fn cs g = (hookX n fa fn cs).obs s := by
  have e : g = s.heap.get? := funext h
  rw [e] <;> rfl
structure DefOK (PF : Nat → Option Fn) (tb : Tb) (K : PySem.W.Frag) (mg : Str → Option Value) (i : Nat) (x : Str) : Prop where
  ex : ∃ (f : Addr) (fd : FuncData) (N ps : List Str) (fn : Fn) (nm qual : Str) (params : Arguments) (body : List Stmt) (scope : Scope),
    mg x = some (.ref f) ∧ FunD K nm qual params body scope [] [] f fd ∧ Binds K fd ps [] ∧ FnScope N ps scope ∧ PF i = some fn ∧ fn.np = ps.length ∧ fn.ns = N.length ∧ ckB tb N scope fn.body body = true
theorem fg_zero {PF : Nat → Option Fn} {G : Nat → Option D} {P : Program} {w : World} {K : PySem.W.Frag} {mg : Str → Option Value} {base : Heap} {ex : Option (Addr × Xc)} {cs : List (Str × Option Str)} {f : Addr} {fd : FuncData} {ps : List Str} {i : Nat} : FG P w K mg base 0 ex f fd ps (spD K cs PF G 0 ex i) :=
  ⟨fun oe vs H Q E ⟨F, M, Z, ds, Q', R, sr, ra, _, h, _⟩ => by simp only [callX] at h, fun _ A outer s H args us vs Q E oe hr hgd e0 hb r ⟨F, M, Z, ds, Q', R, sr, ra, _, h, _⟩ => by simp only [callX] at h⟩
/-- what stands beside the defs -/
structure Rest (G : Nat → Option D) (tb : Tb) (P : Program) (w : World) (K : PySem.W.Frag) (mg : Str → Option Value) (base : Heap) : Prop where
  glob : ∀ k x d, tb.gnm k = some x → G k = some d → ∃ u v, mg x = some u ∧ RelV v u ∧ ∀ F, Rep K F v d
  blt : ∀ x ∈ bltNames, mg x = none
  xc : ∀ p ∈ tb.cs, XOK K tb.cs mg p
  xt : tb.cs ≠ [] → mg "TasteError" = some (.ref (He.ga K "TasteError"))
  xi : ∀ c f, (c, some f) ∈ tb.cs → ∃ fI fd ps, PySem.W.findIn K (.ref (He.ga K c)) "__init__" = some (some (.ref fI)) ∧ PySem.W.typeIn K (.ref fI) = some (.type "function") ∧ Binds K fd ps [] ∧ FnOk P w K mg base (L2N.CX P w) 1 fI fd ps (spI (He.ga K c) f)
  szk : tb.sz = true → SzOK K w mg
theorem ground_of {PF : Nat → Option Fn} {G : Nat → Option D} {tb : Tb} {P : Program} {w : World} {K : PySem.W.Frag} {mg : Str → Option Value} {base : Heap} (ht : tb.hot = false) (hd : ∀ i x, tb.fnm i = some x → DefOK PF tb K mg i x) (hh : ∀ i x, tb.hfn i = some x → DefOK PF tb.toHot K mg i x)
    (r : Rest G tb P w K mg base) : ∀ n, Ground PF G tb P w K mg base n
  | 0 => ⟨fun i x h => by
      obtain ⟨f, fd, N, ps, fn, nm, qual, params, body, scope, h1, h2, h3, _⟩ := (hd i x h).ex
      exact ⟨f, fd, ps, h1, h2.kp, h3, fg_zero⟩, fun p i x h => by
      obtain ⟨f, fd, N, ps, fn, nm, qual, params, body, scope, h1, h2, h3, _⟩ := (hh i x h).ex
      exact ⟨f, fd, ps, h1, h2.kp, h3, fg_zero⟩, r.glob, r.blt, r.xc, r.xt, r.xi, r.szk⟩
  | n + 1 => ⟨fun i x h => by
      obtain ⟨f, fd, N, ps, fn, nm, qual, params, body, scope, h1, h2, h3, h4, h5, h6, h7, h8⟩ := (hd i x h).ex
      refine ⟨f, fd, ps, h1, h2.kp, h3, ?_⟩
      obtain ⟨oc, od, dV, kV, doc, pm, an, cdv, ct, osl, rfl, lk, hcd, _, _⟩ := h2.ex
      exact fg_step (ground_of ht hd hh r n) ht lk hcd h4 h5 h6 h7 h8, fun p i x h => by
      obtain ⟨f, fd, N, ps, fn, nm, qual, params, body, scope, h1, h2, h3, h4, h5, h6, h7, h8⟩ := (hh i x h).ex
      refine ⟨f, fd, ps, h1, h2.kp, h3, ?_⟩
      obtain ⟨oc, od, dV, kV, doc, pm, an, cdv, ct, osl, rfl, lk, hcd, _, _⟩ := h2.ex
      exact fg_step (ground_of ht hd hh r n) ht lk hcd h4 h5 h6 h7 h8, r.glob, r.blt, r.xc, r.xt, r.xi, r.szk⟩
/-- the law's promise by its plain law -/
theorem sp_law {K : PySem.W.Frag} {PF : Nat → Option Fn} {G : Nat → Option D} {cs : List (Str × Option Str)} {k i : Nat} {H : Hp} {a : Addr} {ns : List Int} {oe : Obj} (h : callN PF G k i [.scr ns] (fun _ => none) (fun d _ => d = .bl true) (fun _ _ => False)) (hS : SqL K H a (ns.map V.int)) :
    spD K cs PF G k none i oe [.ref a] H (fun v _ => v = .bl true) fun _ _ _ => False := by
  rw [callN_X] at h
  refine ⟨H, (fun _ => none : MH), (fun _ => none : Hp), _, _, _, ⟨fun _ _ e => e, fun _ _ e => (nomatch e), fun _ _ _ => rfl, fun _ _ e => (nomatch e)⟩, .cons (.scr hS) .nil, (fun p e => nomatch e), h, fun v H' ⟨F', M', d, _, _, r, e⟩ => ?_, fun cls d H' ⟨_, _, _, _, _, _, z⟩ => z⟩
  subst e
  cases r
  rfl
end T
set_option Elab.async false
set_option linter.all false
set_option maxRecDepth 100000
set_option maxHeartbeats 1000000
namespace T
open PySem PySem.Spec PyProof.Rows L2 HT
def bDeck : Ss := (.cons (.asg (.nm 1) (.lc false (.bi false .abs (.cons (.var 2) .nil)) (.nm 2) (.ex (.var 0)) .non))
    (.cons (.ret (.lst true (.cons (.lc true (.var 2) (.nm 2) (.ex (.var 1)) (.som (.cmp .ge (.var 2) (.bin .pow (.int 10) (.int 18))))) (.cons (.bin .add (.var 1) (.lst false (.cons (.bin .add (.bi false .len (.cons (.var 1) .nil)) (.int 5)) .nil))) (.cons (.int 0) .nil)))))
    .nil))
def bNext : Ss := (.cons (.whl (.cmp .ne (.idx (.var 0) (.int 0)) (.lst false .nil)) (.cons (.asg (.nm 4) (.idx (.idx (.var 0) (.int 0)) (.int 0)))
    (.cons (.iff (.cmp .gt (.var 4) (.int 0)) (.cons (.sto (.idx (.var 0) (.int 0)) (.int 0) (.bin .fdiv (.var 4) (.var 1)))
    (.cons (.ret (.bin .mod (.var 4) (.var 1)))
    .nil)) .nil)
    (.cons (.exp (.mth .pop (.idx (.var 0) (.int 0)) (.cons (.int 0) .nil)))
    .nil))))
    (.cons (.sto (.var 0) (.int 2) (.bin .add (.idx (.var 0) (.int 2)) (.int 1)))
    (.cons (.asg (.nm 2) (.bin .mod (.idx (.idx (.var 0) (.int 1)) (.bin .mod (.idx (.var 0) (.int 2)) (.bi false .len (.cons (.idx (.var 0) (.int 1)) .nil)))) (.int 2147483647)))
    (.cons (.asg (.nm 3) (.bin .add (.bin .add (.bin .mul (.var 2) (.bin .add (.int 69621) (.bin .mul (.int 48271) (.idx (.var 0) (.int 2))))) (.bin .mul (.bin .mul (.int 30011) (.idx (.var 0) (.int 2))) (.idx (.var 0) (.int 2)))) (.int 47)))
    (.cons (.asg (.nm 3) (.bin .mod (.var 3) (.int 2147483629)))
    (.cons (.ret (.bin .mod (.bin .fdiv (.bin .mod (.bin .mul (.var 3) (.var 3)) (.int 2147483587)) (.int 16)) (.var 1)))
    .nil))))))
def bOne (iN : Nat) : Ss := (.cons (.ret (.idx (.var 1) (.call iN (.cons (.var 0) (.cons (.bi false .len (.cons (.var 1) .nil)) .nil)))))
    .nil)
def bSame (iS : Nat) : Ss := (.cons (.iff (.isi (.var 1) [.tuple, .list]) (.cons (.iff (.cmp .ne (.isi (.var 0) [.tuple]) (.isi (.var 1) [.tuple])) (.cons (.ret (.bl false))
    .nil) .nil)
    (.cons (.iff (.cmp .ne (.isi (.var 0) [.list]) (.isi (.var 1) [.list])) (.cons (.ret (.bl false))
    .nil) .nil)
    (.cons (.iff (.cmp .ne (.bi false .len (.cons (.var 0) .nil)) (.bi false .len (.cons (.var 1) .nil))) (.cons (.ret (.bl false))
    .nil) .nil)
    (.cons (.ret (.cmp .eq (.lc false (.var 2) (.nm 2) (.rng (.bi false .len (.cons (.var 1) .nil))) (.som (.not (.call iS (.cons (.idx (.var 0) (.var 2)) (.cons (.idx (.var 1) (.var 2)) .nil)))))) (.lst false .nil)))
    .nil)))) .nil)
    (.cons (.iff (.isi (.var 1) [.dict]) (.cons (.ret (.and (.isi (.var 0) [.dict]) (.cmp .eq (.var 0) (.var 1))))
    .nil) .nil)
    (.cons (.iff (.cmp .is (.var 1) .non) (.cons (.ret (.cmp .is (.var 0) .non))
    .nil) .nil)
    (.cons (.iff (.isi (.var 1) [.str]) (.cons (.ret (.and (.isi (.var 0) [.str]) (.cmp .eq (.var 0) (.var 1))))
    .nil) .nil)
    (.cons (.ret (.and (.isi (.var 0) [.int]) (.and (.cmp .eq (.isi (.var 0) [.bool]) (.isi (.var 1) [.bool])) (.cmp .eq (.var 0) (.var 1)))))
    .nil)))))
def bList (iN : Nat) : Ss := (.cons (.par2 2 3 (.bi true .listrange (.cons (.var 1) .nil)) (.lst true .nil))
    (.cons (.whl (.cmp .ne (.var 2) (.lst false .nil)) (.cons (.exp (.mth .append (.var 3) (.cons (.mth .pop (.var 2) (.cons (.call iN (.cons (.var 0) (.cons (.bi false .len (.cons (.var 2) .nil)) .nil))) .nil)) .nil)))
    .nil))
    (.cons (.ret (.bi false .tuple (.cons (.var 3) .nil)))
    .nil)))
mutual
def D.intd : D → Bool
  | .int _ => true
  | .lst xs | .tup xs => intds xs
  | _ => false
def intds : List D → Bool
  | [] => true
  | x :: r => x.intd && intds r
end
mutual
theorem intd_pure : ∀ d : D, d.intd = true → d.pure = true
  | .int _, _ => rfl
  | .lst xs, h => intds_pures xs h
  | .tup xs, h => intds_pures xs h
theorem intds_pures : ∀ ds : List D, intds ds = true → pures ds = true
  | [], _ => rfl
  | d :: r, h => by
    obtain ⟨h1, h2⟩ := ba (show (d.intd && intds r) = true from h)
    show (d.pure && pures r) = true
    rw [intd_pure d h1, intds_pures r h2]; rfl
end
mutual
theorem eqv_iff : ∀ d e : D, d.intd = true → e.intd = true → (D.eqv d e = true ↔ d = e)
  | .int i, .int j, _, _ => by simp [D.eqv, D.toP, PyData.eqv]
  | .int i, .lst ys, _, _ => by simp [D.eqv, D.toP, PyData.eqv]
  | .int i, .tup ys, _, _ => by simp [D.eqv, D.toP, PyData.eqv]
  | .lst xs, .int j, _, _ => by simp [D.eqv, D.toP, PyData.eqv]
  | .tup xs, .int j, _, _ => by simp [D.eqv, D.toP, PyData.eqv]
  | .lst xs, .tup ys, _, _ => by simp [D.eqv, D.toP, PyData.eqv]
  | .tup xs, .lst ys, _, _ => by simp [D.eqv, D.toP, PyData.eqv]
  | .lst xs, .lst ys, h1, h2 => by
    have := eqvs_iff xs ys h1 h2
    simp only [D.eqv, D.toP, PyData.eqv]
    rw [this]; simp
  | .tup xs, .tup ys, h1, h2 => by
    have := eqvs_iff xs ys h1 h2
    simp only [D.eqv, D.toP, PyData.eqv]
    rw [this]; simp
theorem eqvs_iff : ∀ ds es : List D, intds ds = true → intds es = true → (PyData.eqvAll (toPs ds) (toPs es) = true ↔ ds = es)
  | [], [], _, _ => by simp [toPs, PyData.eqvAll]
  | [], _ :: _, _, _ => by simp [toPs, PyData.eqvAll]
  | _ :: _, [], _, _ => by simp [toPs, PyData.eqvAll]
  | d :: ds, e :: es, h1, h2 => by
    obtain ⟨a1, a2⟩ := ba (show (d.intd && intds ds) = true from h1)
    obtain ⟨b1, b2⟩ := ba (show (e.intd && intds es) = true from h2)
    have i1 := eqv_iff d e a1 b1
    have i2 := eqvs_iff ds es a2 b2
    simp only [D.eqv] at i1
    simp only [toPs, PyData.eqvAll, Bool.and_eq_true, i1, i2, List.cons.injEq]
end
theorem intds_ints : ∀ ns : List Int, intds (ns.map .int) = true
  | [] => rfl
  | n :: r => intds_ints r
theorem depths_ints : ∀ ns : List Int, depths (ns.map .int) = 0
  | [] => rfl
  | n :: r => by show max 0 (depths (r.map .int)) = 0; rw [depths_ints r]; rfl
theorem cmpble_lints (ns : List Int) : cmpble (.lst (ns.map .int)) := ⟨intds_pures _ (intds_ints ns), by show depths (ns.map .int) + 1 ≤ 60; rw [depths_ints]; omega⟩
theorem cmpble_tints (ns : List Int) : cmpble (.tup (ns.map .int)) := ⟨intds_pures _ (intds_ints ns), by show depths (ns.map .int) + 1 ≤ 60; rw [depths_ints]; omega⟩
theorem cmpble_int (n : Int) : cmpble (.int n) := ⟨rfl, by show 0 ≤ 60; omega⟩
theorem cmpble_nil : cmpble (.lst []) := cmpble_lints []
theorem map_int_inj {xs ys : List Int} : xs.map D.int = ys.map D.int ↔ xs = ys := by
  refine ⟨fun h => ?_, fun h => by rw [h]⟩
  induction xs generalizing ys with
  | nil => cases ys; rfl; cases h
  | cons x r ih =>
    cases ys with
    | nil => cases h
    | cons y s =>
      rw [List.map_cons, List.map_cons, List.cons.injEq, D.int.injEq] at h
      rw [h.1, ih h.2]
theorem eqv_lints (xs ys : List Int) : D.eqv (.lst (xs.map .int)) (.lst (ys.map .int)) = decide (xs = ys) := by
  rw [Bool.eq_iff_iff, eqv_iff (.lst (xs.map .int)) (.lst (ys.map .int)) (intds_ints xs) (intds_ints ys)]
  simp [map_int_inj]
theorem eqv_int (x y : Int) : D.eqv (.int x) (.int y) = decide (x = y) := by
  rw [Bool.eq_iff_iff, eqv_iff _ _ rfl rfl]
  simp
theorem ne_nil (bs : List Int) (k : Bool → Prop) (h : k (!bs.isEmpty)) : cmpD .ne (.lst (bs.map .int)) (.lst []) k := by
  refine ⟨⟨cmpble_lints bs, cmpble_nil⟩, ?_⟩
  have := eqv_lints bs []
  rw [List.map_nil] at this
  rw [this]
  cases bs <;> exact h
theorem ixN_nat {n i : Nat} (h : i < n) : ixN n (i : Int) = some i := by
  unfold ixN
  rw [if_pos (by omega), if_pos (by omega)]
  simp
theorem ix_l {xs : List D} {i : Nat} {d : D} {k : D → Prop} (h : xs[i]? = some d) (q : k d) : ixD (.lst xs) (.int (i : Int)) k := by
  have hi := (List.getElem?_eq_some_iff.mp h).1
  simp only [ixD, ixN_nat hi, h]
  exact q
theorem ix_t {xs : List D} {i : Nat} {d : D} {k : D → Prop} (h : xs[i]? = some d) (q : k d) : ixD (.tup xs) (.int (i : Int)) k := by
  have hi := (List.getElem?_eq_some_iff.mp h).1
  simp only [ixD, ixN_nat hi, h]
  exact q
theorem fin_keep {d : D} {M : MH} {Q : D → MH → Prop} (h : Q d M) : Fin d M Q := ⟨fun _ => False, M, d, .keep d, fun a c e => ⟨e, id⟩, h⟩
theorem fin_less {d : D} {M M' : MH} {Q : D → MH → Prop} (l : MH.Le M' M) (h : Q d M') : Fin d M Q := ⟨fun _ => False, M', d, .keep d, fun a c e => ⟨l a c e, id⟩, h⟩
theorem MH.set_same {M : MH} {a : Addr} {c : Ce} : (M.set a c) a = some c := by unfold MH.set; rw [if_pos rfl]
theorem MH.set_ne {M : MH} {a b : Addr} {c : Ce} (h : b ≠ a) : (M.set a c) b = M b := by unfold MH.set; rw [if_neg h]
structure Deck (M : MH) (a b : Addr) (cs : List Int) (k : Nat) : Prop where
  ne : a ≠ b
  cs0 : cs ≠ []
  csz : cs.length < 2 ^ 20
  at_ : ∃ (j : Int) (bs : List Int), 0 ≤ j ∧ j ≤ k ∧ M a = some (.lst [.ref b, .lst (cs.map .int), .int j]) ∧ M b = some (.lst (bs.map .int))
theorem Deck.mono {M : MH} {a b : Addr} {cs : List Int} {k k' : Nat} (d : Deck M a b cs k) (h : k ≤ k') : Deck M a b cs k' := by
  obtain ⟨h1, h2, h3, j, bs, h4, h5, h6⟩ := d
  exact ⟨h1, h2, h3, j, bs, h4, by omega, h6⟩
/-- nothing but the deck has changed -/
def Fr (a b : Addr) (M M' : MH) : Prop := ∀ x, x ≠ a → x ≠ b → M' x = M x
end T
set_option Elab.async false
set_option linter.all false
set_option maxRecDepth 100000
set_option maxHeartbeats 1000000
namespace T
open PySem PySem.Spec PyProof.Rows L2 HT
section
variable {M : MH} {x y : Int} {k : D → Prop} {kb : Bool → Prop} {d e f : D} {ds : List D}
theorem vw_l {a : Addr} {xs : List D} (h : M a = some (.lst xs)) : vw M (.ref a) = .lst xs := by simp only [vw, h]
theorem vw_int' : vw M (.int x) = .int x := rfl
theorem vw_bl' {b : Bool} : vw M (.bl b) = .bl b := rfl
theorem vw_lst' : vw M (.lst ds) = .lst ds := rfl
theorem vw_tup' : vw M (.tup ds) = .tup ds := rfl
theorem vw_non' : vw M .non = .non := rfl
theorem vw_str' {z : Str} : vw M (.str z) = .str z := rfl
theorem ix0 : ixD (.lst (d :: ds)) (.int 0) k = k d := by simp [ixD, ixN]
theorem ix1 : ixD (.lst (d :: e :: ds)) (.int 1) k = k e := by
  have : (1 : Int) < (ds.length : Int) + 1 + 1 := by omega
  simp [ixD, ixN, this]
theorem ix2 : ixD (.lst (d :: e :: f :: ds)) (.int 2) k = k f := by
  have : (2 : Int) < (ds.length : Int) + 1 + 1 + 1 := by omega
  simp [ixD, ixN, this]
theorem e_add : opD .add (.int x) (.int y) k = k (.int (x + y)) := rfl
theorem e_sub : opD .sub (.int x) (.int y) k = k (.int (x - y)) := rfl
theorem e_mul : opD .mul (.int x) (.int y) k = (MulOk x y ∧ k (.int (x * y))) := rfl
theorem e_fdiv : opD .fdiv (.int x) (.int y) k = ((0 < y ∧ y < 2 ^ 64) ∧ k (.int (x / y))) := rfl
theorem e_mod : opD .mod (.int x) (.int y) k = (0 < y ∧ k (.int (x % y))) := rfl
theorem e_pow : opD .pow (.int x) (.int y) k = (CPow x y ∧ k (.int (x ^ y.toNat))) := rfl
theorem e_lt : cmpD .lt (.int x) (.int y) kb = kb (decide (x < y)) := rfl
theorem e_le : cmpD .le (.int x) (.int y) kb = kb (decide (x ≤ y)) := rfl
theorem e_gt : cmpD .gt (.int x) (.int y) kb = kb (decide (y < x)) := rfl
theorem e_ge : cmpD .ge (.int x) (.int y) kb = kb (decide (y ≤ x)) := rfl
theorem e_isB {b : Bool} : isB (.bl b) kb = kb b := rfl
theorem mkL_f {Q : D → MH → Prop} : mkL false ds M Q = Q (.lst ds) M := rfl
theorem mkL_t {Q : D → MH → Prop} : mkL true ds M Q = ∀ a, M a = none → Q (.ref a) (M.set a (.lst ds)) := rfl
end
theorem len_l {M : MH} {x : D} {xs : List D} {m : Bool} {k : D → MH → Prop} (h : vw M x = .lst xs) (q : k (.int (xs.length : Nat)) M) : biD m .len [x] M k := by
  simp only [biD, h]; exact q
theorem len_t {M : MH} {x : D} {xs : List D} {m : Bool} {k : D → MH → Prop} (h : vw M x = .tup xs) (q : k (.int (xs.length : Nat)) M) : biD m .len [x] M k := by
  simp only [biD, h]; exact q
theorem st_l {M : MH} {a : Addr} {xs : List D} {i : Nat} {d : D} {k : MH → Prop} (h : M a = some (.lst xs)) (hi : i < xs.length) (q : k (M.set a (.lst (xs.set i d)))) : stD (.ref a) (.int (i : Int)) d M k := by
  simp only [stD, h, ixN_nat hi]; exact q
theorem pop_at {M : MH} {a : Addr} {xs : List D} {i : Nat} {d : D} {k : D → MH → Prop} (h : M a = some (.lst xs)) (hi : xs[i]? = some d) (hz : i < 2 ^ 62) (q : k d (M.set a (.lst (xs.eraseIdx i)))) : tyM .pop (.ref a) M ∧ mtD .pop (.ref a) [.int (i : Int)] M k := by
  refine ⟨by simp only [tyM, h], ?_⟩
  simp only [mtD, h, Int.toNat_natCast, hi]
  exact ⟨⟨by omega, by omega⟩, q⟩
theorem env5 {α : Type} {ρ : List α} {x y : α} (h0 : ρ[0]? = some x) (h1 : ρ[1]? = some y) (hl : ρ.length = 5) : ∃ a b c, ρ = [x, y, a, b, c] := by
  match ρ, hl with
  | [p, q, a, b, c], _ =>
    simp at h0 h1
    subst h0 h1
    exact ⟨a, b, c, rfl⟩
theorem next_spec {P : Nat → Option Fn} {G : Nat → Option D} {n i : Nat} {M : MH} {a b : Addr} {cs : List Int} {k : Nat} {m : Int} {Q : D → MH → Prop} {R : Xc → MH → Prop} (hP : P i = some ⟨2, 5, bNext⟩) (dk : Deck M a b cs k) (hk : k < 2 ^ 40) (hm : 0 < m ∧ m < 2 ^ 60)
    (h : ∀ r M', 0 ≤ r → r < m → Deck M' a b cs (k + 1) → Fr a b M M' → Q (.int r) M') : callN P G (n + 1) i [.ref a, .int m] M Q R := by
  obtain ⟨ne, c0, cz, j, bs, hj0, hjk, hA, hB⟩ := dk
  simp only [callN, hP, bNext, wpB, wpS, wpE, wpEs, wpO, wpT, wpI, rd, optI, List.map, List.replicate, List.cons_append, List.nil_append, List.append_eq, List.length_cons, List.length_nil, Tg.put, Tgs.put, Tg.own, Tgs.own, wipeE, true_and, Bool.false_eq_true, if_false, if_true, vw_int', vw_bl', vw_lst', vw_tup', vw_non', vw_str', ix0, ix1, ix2, e_add, e_sub, e_mul, e_fdiv, e_mod, e_pow, e_lt, e_le, e_gt, e_ge, e_isB, mkL_f, mkL_t, List.getElem?_cons_zero, List.getElem?_cons_succ, List.set_cons_zero, List.set_cons_succ]
  refine ⟨bs.length + 1, ?_⟩
  generalize hρ : [some (D.ref a), some (D.int m), none, none, none] = ρ
  have h0 : ρ[0]? = some (some (D.ref a)) := by rw [← hρ]; rfl
  have h1 : ρ[1]? = some (some (D.int m)) := by rw [← hρ]; rfl
  have hl : ρ.length = 5 := by rw [← hρ]; rfl
  clear hρ
  obtain ⟨M0, hM0⟩ : ∃ M0, M0 = M := ⟨M, rfl⟩
  have hfr : Fr a b M0 M := by rw [hM0]; exact fun _ _ _ => rfl
  rw [← hM0] at h
  clear hM0
  have hsz := sizeLine_eq
  induction bs generalizing M ρ with
  | nil =>
    obtain ⟨x2, x3, x4, rfl⟩ := env5 h0 h1 hl
    have vB := vw_l hB
    have vA := vw_l hA
    simp only [wpW, wpB, wpS, wpE, wpEs, wpO, wpT, wpI, rd, optI, List.map, List.replicate, List.cons_append, List.nil_append, List.append_eq, List.length_cons, List.length_nil, Tg.put, Tgs.put, Tg.own, Tgs.own, wipeE, true_and, Bool.false_eq_true, if_false, if_true, vw_int', vw_bl', vw_lst', vw_tup', vw_non', vw_str', ix0, ix1, ix2, e_add, e_sub, e_mul, e_fdiv, e_mod, e_pow, e_lt, e_le, e_gt, e_ge, e_isB, mkL_f, mkL_t, List.getElem?_cons_zero, List.getElem?_cons_succ, List.set_cons_zero, List.set_cons_succ, vA, vB]
    refine ⟨by omega, ne_nil [] _ ?_⟩
    simp only [List.isEmpty_nil, Bool.not_true, wpB, wpS, wpE, wpEs, wpO, wpT, wpI, rd, optI, List.map, List.replicate, List.cons_append, List.nil_append, List.append_eq, List.length_cons, List.length_nil, Tg.put, Tgs.put, Tg.own, Tgs.own, wipeE, true_and, Bool.false_eq_true, if_false, if_true, vw_int', vw_bl', vw_lst', vw_tup', vw_non', vw_str', ix0, ix1, ix2, e_add, e_sub, e_mul, e_fdiv, e_mod, e_pow, e_lt, e_le, e_gt, e_ge, e_isB, mkL_f, mkL_t, List.getElem?_cons_zero, List.getElem?_cons_succ, List.set_cons_zero, List.set_cons_succ, vA]
    refine st_l (i := 2) hA (by simp) ?_
    simp only [wpB, wpS, wpE, wpEs, wpO, wpT, wpI, rd, optI, List.map, List.replicate, List.cons_append, List.nil_append, List.append_eq, List.length_cons, List.length_nil, Tg.put, Tgs.put, Tg.own, Tgs.own, wipeE, true_and, Bool.false_eq_true, if_false, if_true, vw_int', vw_bl', vw_lst', vw_tup', vw_non', vw_str', ix0, ix1, ix2, e_add, e_sub, e_mul, e_fdiv, e_mod, e_pow, e_lt, e_le, e_gt, e_ge, e_isB, mkL_f, mkL_t, List.getElem?_cons_zero, List.getElem?_cons_succ, List.set_cons_zero, List.set_cons_succ, vw_l MH.set_same]
    generalize hM4 : M.set a (.lst [D.ref b, D.lst (cs.map D.int), D.int (j + 1)]) = M4
    have hA4 : M4 a = some (.lst [D.ref b, D.lst (cs.map D.int), D.int (j + 1)]) := by rw [← hM4]; exact MH.set_same
    have hB4 : M4 b = some (.lst []) := by rw [← hM4, MH.set_ne (Ne.symm ne)]; exact hB
    have hF4 : Fr a b M0 M4 := fun x h1 h2 => by rw [← hM4, MH.set_ne h1]; exact hfr x h1 h2
    have vA4 := vw_l hA4
    refine len_l rfl ?_
    have hlen : 0 < cs.length := List.length_pos_iff.mpr c0
    obtain ⟨t, ht, htl⟩ : ∃ t : Nat, (j + 1) % ((cs.map D.int).length : Nat) = (t : Int) ∧ t < cs.length := by
      rw [List.length_map]
      have h2 := Int.emod_nonneg (j + 1) (b := (cs.length : Int)) (by omega)
      have h3 := Int.emod_lt_of_pos (j + 1) (b := (cs.length : Int)) (by omega)
      exact ⟨((j + 1) % (cs.length : Int)).toNat, by omega, by omega⟩
    simp only [wpB, wpS, wpE, wpEs, wpO, wpT, wpI, rd, optI, List.map, List.replicate, List.cons_append, List.nil_append, List.append_eq, List.length_cons, List.length_nil, Tg.put, Tgs.put, Tg.own, Tgs.own, wipeE, true_and, Bool.false_eq_true, if_false, if_true, vw_int', vw_bl', vw_lst', vw_tup', vw_non', vw_str', ix0, ix1, ix2, e_add, e_sub, e_mul, e_fdiv, e_mod, e_pow, e_lt, e_le, e_gt, e_ge, e_isB, mkL_f, mkL_t, List.getElem?_cons_zero, List.getElem?_cons_succ, List.set_cons_zero, List.set_cons_succ, ht]
    refine ⟨by simp; omega, ix_l (d := .int cs[t]) (by simp [htl]) ?_⟩
    simp only [wpB, wpS, wpE, wpEs, wpO, wpT, wpI, rd, optI, List.map, List.replicate, List.cons_append, List.nil_append, List.append_eq, List.length_cons, List.length_nil, Tg.put, Tgs.put, Tg.own, Tgs.own, wipeE, true_and, Bool.false_eq_true, if_false, if_true, vw_int', vw_bl', vw_lst', vw_tup', vw_non', vw_str', ix0, ix1, ix2, e_add, e_sub, e_mul, e_fdiv, e_mod, e_pow, e_lt, e_le, e_gt, e_ge, e_isB, mkL_f, mkL_t, List.getElem?_cons_zero, List.getElem?_cons_succ, List.set_cons_zero, List.set_cons_succ, vA4]
    generalize hc : cs[t] % 2147483647 = c
    have hc0 : 0 ≤ c := by rw [← hc]; exact Int.emod_nonneg _ (by decide)
    have hc1 : c < 2147483647 := by rw [← hc]; exact Int.emod_lt_of_pos _ (by decide)
    generalize hv : (c * (69621 + 48271 * (j + 1)) + 30011 * (j + 1) * (j + 1) + 47) % 2147483629 = v
    have hv0 : 0 ≤ v := by rw [← hv]; exact Int.emod_nonneg _ (by decide)
    have hv1 : v < 2147483629 := by rw [← hv]; exact Int.emod_lt_of_pos _ (by decide)
    refine ⟨by decide, .inl (by omega), .inl (by omega), .inl (by omega), .inr (by omega), by decide, .inl (by omega), by decide, by decide, hm.1, fin_keep (h _ _ (Int.emod_nonneg _ (by omega)) (Int.emod_lt_of_pos _ hm.1) ⟨ne, c0, cz, j + 1, [], by omega, by omega, hA4, hB4⟩ hF4)⟩
  | cons x bs ih =>
    obtain ⟨x2, x3, x4, rfl⟩ := env5 h0 h1 hl
    have vB := vw_l hB
    have vA := vw_l hA
    simp only [wpW, wpB, wpS, wpE, wpEs, wpO, wpT, wpI, rd, optI, List.map, List.replicate, List.cons_append, List.nil_append, List.append_eq, List.length_cons, List.length_nil, Tg.put, Tgs.put, Tg.own, Tgs.own, wipeE, true_and, Bool.false_eq_true, if_false, if_true, vw_int', vw_bl', vw_lst', vw_tup', vw_non', vw_str', ix0, ix1, ix2, e_add, e_sub, e_mul, e_fdiv, e_mod, e_pow, e_lt, e_le, e_gt, e_ge, e_isB, mkL_f, mkL_t, List.getElem?_cons_zero, List.getElem?_cons_succ, List.set_cons_zero, List.set_cons_succ, vA, vB]
    refine ⟨by omega, ne_nil (x :: bs) _ ?_⟩
    simp only [List.isEmpty_cons, Bool.not_false, wpB, wpS, wpE, wpEs, wpO, wpT, wpI, rd, optI, List.map, List.replicate, List.cons_append, List.nil_append, List.append_eq, List.length_cons, List.length_nil, Tg.put, Tgs.put, Tg.own, Tgs.own, wipeE, true_and, Bool.false_eq_true, if_false, if_true, vw_int', vw_bl', vw_lst', vw_tup', vw_non', vw_str', ix0, ix1, ix2, e_add, e_sub, e_mul, e_fdiv, e_mod, e_pow, e_lt, e_le, e_gt, e_ge, e_isB, mkL_f, mkL_t, List.getElem?_cons_zero, List.getElem?_cons_succ, List.set_cons_zero, List.set_cons_succ, vA, vB]
    by_cases hx : 0 < x
    · simp only [hx, decide_true, if_true]
      refine ⟨⟨hm.1, by omega⟩, st_l (i := 0) hB (by simp) ?_⟩
      simp only [wpB, wpS, wpE, wpEs, wpO, wpT, wpI, rd, optI, List.map, List.replicate, List.cons_append, List.nil_append, List.append_eq, List.length_cons, List.length_nil, Tg.put, Tgs.put, Tg.own, Tgs.own, wipeE, true_and, Bool.false_eq_true, if_false, if_true, vw_int', vw_bl', vw_lst', vw_tup', vw_non', vw_str', ix0, ix1, ix2, e_add, e_sub, e_mul, e_fdiv, e_mod, e_pow, e_lt, e_le, e_gt, e_ge, e_isB, mkL_f, mkL_t, List.getElem?_cons_zero, List.getElem?_cons_succ, List.set_cons_zero, List.set_cons_succ]
      refine ⟨hm.1, fin_keep (h _ _ (Int.emod_nonneg _ (by omega)) (Int.emod_lt_of_pos _ hm.1) ⟨ne, c0, cz, j, x / m :: bs, by omega, by omega, ?_, MH.set_same⟩ fun y h1 h2 => ?_)⟩
      · rw [MH.set_ne ne]; exact hA
      · rw [MH.set_ne h2]; exact hfr y h1 h2
    · simp only [hx, decide_false, Bool.false_eq_true, if_false]
      refine pop_at (i := 0) hB rfl (by decide) ?_
      refine ih ?_ MH.set_same [some (D.ref a), some (D.int m), x2, x3, some (D.int x)] rfl rfl rfl fun y h1 h2 => ?_
      · rw [MH.set_ne ne]; exact hA
      · rw [MH.set_ne h2]; exact hfr y h1 h2
end T
set_option Elab.async false
set_option linter.all false
set_option maxRecDepth 100000
set_option maxHeartbeats 1000000
namespace T
open PySem PySem.Spec PyProof.Rows L2 HT
theorem wpC_map {G : MH → Prop} {body : List D → D → MH → (List D → MH → Prop) → Prop} {M : MH} {Q : List D → MH → Prop} (f : D → Option D) (hG : G M) : ∀ (items acc : List D), (∀ acc x k, x ∈ items → k (acc ++ (f x).toList) M → body acc x M k) → Q (acc ++ items.filterMap f) M → wpC G body items acc M Q
  | [], acc, _, q => by
    simp only [wpC]
    exact ⟨hG, by simpa using q⟩
  | x :: r, acc, hb, q => by
    simp only [wpC]
    refine ⟨hG, hb acc x _ List.mem_cons_self (wpC_map f hG r _ (fun a y k hy => hb a y k (List.mem_cons_of_mem _ hy)) ?_)⟩
    rw [List.append_assoc]
    cases e : f x with
    | none => simpa [e] using q
    | some y => simpa [e] using q
theorem wpF_inv {G : MH → Prop} {body : D → En → MH → (En → MH → Prop) → Prop} {N : En → MH → Prop} (I : Nat → En → MH → Prop) (items : List D) (hG : ∀ i ρ M, I i ρ M → G M)
    (hb : ∀ i d ρ M k, items[i]? = some d → I i ρ M → (∀ ρ' M', I (i + 1) ρ' M' → k ρ' M') → body d ρ M k) (hN : ∀ ρ M, I items.length ρ M → N ρ M) {ρ : En} {M : MH} (h : I 0 ρ M) : wpF G body items ρ M N := by
  have key : ∀ (r : List D) (i : Nat) ρ M, i ≤ items.length → items.drop i = r → I i ρ M → wpF G body r ρ M N := by
    intro r
    induction r with
    | nil =>
      intro i ρ M hle e hI
      simp only [wpF]
      have hi : items.length ≤ i := by simpa using e
      refine ⟨hG _ _ _ hI, ?_⟩
      have hlt : i = items.length := by omega
      subst hlt; exact hN _ _ hI
    | cons x r ih =>
      intro i ρ M hle e hI
      simp only [wpF]
      have hx : items[i]? = some x := by
        rw [← List.head?_drop, e]; rfl
      refine ⟨hG _ _ _ hI, hb i x ρ M _ hx hI fun ρ' M' hI' => ih (i + 1) ρ' M' ?_ ?_ hI'⟩
      · exact (List.getElem?_eq_some_iff.mp hx).1
      · rw [← List.tail_drop, e]; rfl
  exact key items 0 ρ M (Nat.zero_le _) (by simp) h
/-- old cells stand -/
def Fw (a b : Addr) (M M' : MH) : Prop := ∀ x c, x ≠ a → x ≠ b → M x = some c → M' x = some c
theorem Fw.refl (a b : Addr) (M : MH) : Fw a b M M := fun _ _ _ _ e => e
theorem Fw.trans {a b : Addr} {M M' M'' : MH} (h : Fw a b M M') (h' : Fw a b M' M'') : Fw a b M M'' := fun x c h1 h2 e => h' x c h1 h2 (h x c h1 h2 e)
theorem Fw.new {a b p : Addr} {M : MH} {c : Ce} (hp : M p = none) : Fw a b M (M.set p c) := fun x c' h1 h2 e => by
  by_cases hx : x = p
  · subst hx; rw [hp] at e; cases e
  · rw [MH.set_ne hx]; exact e
theorem Deck.new {M : MH} {a b p : Addr} {cs : List Int} {k : Nat} {c : Ce} (d : Deck M a b cs k) (hp : M p = none) : Deck (M.set p c) a b cs k := by
  obtain ⟨h1, h2, h3, j, bs, h4, h5, h6, h7⟩ := d
  refine ⟨h1, h2, h3, j, bs, h4, h5, ?_, ?_⟩
  · rw [MH.set_ne (fun z => by rw [z, hp] at h6; cases h6)]; exact h6
  · rw [MH.set_ne (fun z => by rw [z, hp] at h7; cases h7)]; exact h7
theorem Deck.put {M : MH} {a b p : Addr} {cs : List Int} {k : Nat} {c : Ce} (d : Deck M a b cs k) (h1 : p ≠ a) (h2 : p ≠ b) : Deck (M.set p c) a b cs k := by
  obtain ⟨h1', h2', h3, j, bs, h4, h5, h6, h7⟩ := d
  exact ⟨h1', h2', h3, j, bs, h4, h5, by rw [MH.set_ne (Ne.symm h1)]; exact h6, by rw [MH.set_ne (Ne.symm h2)]; exact h7⟩
theorem Deck.apart {M : MH} {a b p : Addr} {cs : List Int} {k : Nat} (d : Deck M a b cs k) (hp : M p = none) : p ≠ a ∧ p ≠ b := by
  obtain ⟨_, _, _, j, bs, _, _, h6, h7⟩ := d
  exact ⟨fun z => (by rw [← z, hp] at h6; cases h6), fun z => (by rw [← z, hp] at h7; cases h7)⟩
theorem abs_l {M : MH} {m : Bool} {i : Int} {Q : D → MH → Prop} (q : Q (.int (if i < 0 then -i else i)) M) : biD m .abs [.int i] M Q := q
theorem deck_spec {P : Nat → Option Fn} {G : Nat → Option D} {n i : Nat} {M : MH} {ns : List Int} {Q : D → MH → Prop} {R : Xc → MH → Prop} (hP : P i = some ⟨1, 3, bDeck⟩) (hn : ns.length ≤ 63)
    (h : ∀ a b cs M', Deck M' a b cs 0 → Q (.ref a) M') : callN P G (n + 1) i [.scr ns] M Q R := by
  have hsz := sizeLine_eq
  simp only [callN, hP, bDeck, wpB, wpS, wpE, wpEs, wpO, wpT, wpI, rd, optI, List.map, List.replicate, List.cons_append, List.nil_append, List.append_eq, List.length_cons, List.length_nil, Tg.put, Tgs.put, Tg.own, Tgs.own, wipeE, true_and, Bool.false_eq_true, if_false, if_true, vw_int', vw_bl', vw_lst', vw_tup', vw_non', vw_str', ix0, ix1, ix2, e_add, e_sub, e_mul, e_fdiv, e_mod, e_pow, e_lt, e_le, e_gt, e_ge, e_isB, mkL_f, mkL_t, List.getElem?_cons_zero, List.getElem?_cons_succ, List.set_cons_zero, List.set_cons_succ, itsD]
  refine wpC_map (fun d => match d with | .int i => some (.int (if i < 0 then -i else i)) | _ => none) trivial _ _ (fun acc x k hx q => ?_) ?_
  · obtain ⟨y, hy, rfl⟩ := List.mem_map.mp hx
    refine abs_l ?_
    exact q
  have e1 : (ns.map D.int).filterMap (fun d => match d with | .int i => some (.int (if i < 0 then -i else i)) | _ => none) = (ns.map fun i => if i < 0 then -i else i).map D.int := by
    rw [List.filterMap_map, List.map_map, ← List.filterMap_eq_map]; rfl
  rw [List.nil_append, e1]
  generalize hcs : (ns.map fun i : Int => if i < 0 then -i else i) = cs
  have hl : cs.length ≤ 63 := by rw [← hcs, List.length_map]; exact hn
  obtain ⟨B, hB⟩ : ∃ B : Int, B = 10 ^ (Int.toNat 18) := ⟨_, rfl⟩
  simp only [← hB]
  refine wpC_map (fun d => match d with | .int i => if B ≤ i then some (.int i) else none | _ => none) trivial _ _ (fun acc x k hx q => ?_) ?_
  · obtain ⟨y, hy, rfl⟩ := List.mem_map.mp hx
    refine ⟨⟨by decide, by decide, by decide⟩, ?_⟩
    simp only [wpB, wpS, wpE, wpEs, wpO, wpT, wpI, rd, optI, List.map, List.replicate, List.cons_append, List.nil_append, List.append_eq, List.length_cons, List.length_nil, Tg.put, Tgs.put, Tg.own, Tgs.own, wipeE, true_and, Bool.false_eq_true, if_false, if_true, vw_int', vw_bl', vw_lst', vw_tup', vw_non', vw_str', ix0, ix1, ix2, e_add, e_sub, e_mul, e_fdiv, e_mod, e_pow, e_lt, e_le, e_gt, e_ge, e_isB, mkL_f, mkL_t, List.getElem?_cons_zero, List.getElem?_cons_succ, List.set_cons_zero, List.set_cons_succ]
    by_cases hy : B ≤ y
    · rw [if_pos (decide_eq_true hy)]
      simpa [hy] using q
    · rw [if_neg (by simpa using hy)]
      simpa [hy] using q
  obtain ⟨bs, e3⟩ : ∃ bs : List Int, (cs.map D.int).filterMap (fun d => match d with | .int i => if B ≤ i then some (.int i) else none | _ => none) = bs.map D.int := by
    refine ⟨cs.filter fun i => decide (B ≤ i), ?_⟩
    clear hcs hl
    induction cs with
    | nil => rfl
    | cons c r ih =>
      by_cases hy : B ≤ c
      · rw [List.map_cons, List.filterMap_cons_some (b := D.int c) (by simp [hy]), ih, List.filter_cons_of_pos (by simpa using hy)]; rfl
      · rw [List.map_cons, List.filterMap_cons_none (by simp [hy]), ih, List.filter_cons_of_neg (by simpa using hy)]
  rw [List.nil_append, e3]
  intro b hb
  refine len_l rfl ?_
  simp only [wpB, wpS, wpE, wpEs, wpO, wpT, wpI, rd, optI, List.map, List.replicate, List.cons_append, List.nil_append, List.append_eq, List.length_cons, List.length_nil, Tg.put, Tgs.put, Tg.own, Tgs.own, wipeE, true_and, Bool.false_eq_true, if_false, if_true, vw_int', vw_bl', vw_lst', vw_tup', vw_non', vw_str', ix0, ix1, ix2, e_add, e_sub, e_mul, e_fdiv, e_mod, e_pow, e_lt, e_le, e_gt, e_ge, e_isB, mkL_f, mkL_t, List.getElem?_cons_zero, List.getElem?_cons_succ, List.set_cons_zero, List.set_cons_succ]
  refine ⟨by omega, ⟨by simp; omega, by omega, fun a ha => fin_keep (h a b (cs ++ [(cs.length : Int) + 5]) _ ⟨?_, by simp, by simp; omega, 0, bs, by omega, by omega, ?_, ?_⟩)⟩⟩
  · intro z; rw [z, MH.set_same] at ha; cases ha
  · rw [MH.set_same]; simp
  · rw [MH.set_ne (fun z => by rw [← z, MH.set_same] at ha; cases ha)]; exact MH.set_same
end T
set_option Elab.async false
set_option linter.all false
set_option maxRecDepth 100000
set_option maxHeartbeats 1000000
namespace T
open PySem PySem.Spec PyProof.Rows L2 HT
/-- whole numbers from 0 on -/
def nD (p : List Nat) : List D := (p.map fun i : Nat => (i : Int)).map D.int
theorem nD_len (p : List Nat) : (nD p).length = p.length := by simp [nD]
theorem nD_get {p : List Nat} {i x : Nat} (h : p[i]? = some x) : (nD p)[i]? = some (.int (x : Int)) := by simp [nD, h]
theorem nD_range (n : Nat) : ((List.range n).map fun i : Nat => D.int (i : Int)) = nD (List.range n) := by simp [nD]
theorem nD_erase (p : List Nat) (i : Nat) : (nD p).eraseIdx i = nD (p.eraseIdx i) := by
  unfold nD
  induction p generalizing i with
  | nil => rfl
  | cons x r ih =>
    cases i with
    | zero => rfl
    | succ i =>
      simp only [List.map_cons, List.eraseIdx_cons_succ]
      rw [ih]
theorem ty_pop {M : MH} {a : Addr} {xs : List D} (h : M a = some (.lst xs)) : tyM .pop (.ref a) M := by simp only [tyM, h]
theorem ty_app {M : MH} {a : Addr} {xs : List D} (h : M a = some (.lst xs)) : tyM .append (.ref a) M := by simp only [tyM, h]
theorem ty_ext {M : MH} {a : Addr} {xs : List D} (h : M a = some (.lst xs)) : tyM .extend (.ref a) M := by simp only [tyM, h]
theorem mt_pop' {M : MH} {a : Addr} {xs : List D} {i : Nat} {d : D} {k : D → MH → Prop} (h : M a = some (.lst xs)) (hi : xs[i]? = some d) (hz : i < 2 ^ 62) (q : k d (M.set a (.lst (xs.eraseIdx i)))) : mtD .pop (.ref a) [.int (i : Int)] M k := (pop_at h hi hz q).2
theorem mt_app' {M : MH} {a : Addr} {xs : List D} {d : D} {k : D → MH → Prop} (h : M a = some (.lst xs)) (hz : xs.length < sizeLine) (q : k .non (M.set a (.lst (xs ++ [d])))) : mtD .append (.ref a) [d] M k := by
  simp only [mtD, h]; exact ⟨hz, q⟩
theorem mt_ext' {M : MH} {a : Addr} {xs ys : List D} {y : D} {k : D → MH → Prop} (h : M a = some (.lst xs)) (hy : vw M y = .lst ys) (hz : xs.length + ys.length ≤ sizeLine) (q : k .non (M.set a (.lst (xs ++ ys)))) : mtD .extend (.ref a) [y] M k := by
  simp only [mtD, h, hy]; exact ⟨hz, q⟩
theorem ne_nilN {p : List Nat} {k : Bool → Prop} (h : k (!p.isEmpty)) : cmpD .ne (.lst (nD p)) (.lst []) k := by
  refine ne_nil _ _ ?_
  cases p <;> exact h
theorem erase_perm {α : Type} {l : List α} {i : Nat} {x : α} (h : l[i]? = some x) : (x :: l.eraseIdx i).Perm l := by
  induction l generalizing i with
  | nil => simp at h
  | cons y r ih =>
    cases i with
    | zero => simp at h; subst h; exact .refl _
    | succ i =>
      have := ih (i := i) (by simpa using h)
      rw [List.eraseIdx_cons_succ]
      exact (List.Perm.swap y x _).trans (.cons _ this)
theorem wpW_inv {c : En → MH → (Bool → MH → Prop) → Prop} {body : En → MH → (En → MH → Prop) → Prop} {N : En → MH → Prop} (I : Nat → En → MH → Prop)
    (step : ∀ m ρ M k, I m ρ M → (∀ m' ρ' M', m' < m → I m' ρ' M' → k ρ' M') → c ρ M (fun b M' => if b = true then body ρ M' k else N ρ M')) (m : Nat) (ρ : En) (M : MH) (h : I m ρ M) : ∃ n, wpW c body n ρ M N := by
  have key : ∀ n ρ M m, m < n → I m ρ M → wpW c body n ρ M N := by
    intro n
    induction n with
    | zero => intro _ _ _ h; omega
    | succ n ih =>
      intro ρ M m hm hI
      simp only [wpW]
      exact step m ρ M _ hI fun m' ρ' M' hm' hI' => ih ρ' M' m' (by omega) hI'
  exact ⟨m + 1, key _ _ _ _ (Nat.lt_succ_self m) h⟩
theorem list_spec {P : Nat → Option Fn} {G : Nat → Option D} {n i iN : Nat} {M : MH} {a b : Addr} {cs : List Int} {k d : Nat} {Q : D → MH → Prop} {R : Xc → MH → Prop} (hP : P i = some ⟨2, 4, bList iN⟩) (hN : P iN = some ⟨2, 5, bNext⟩) (dk : Deck M a b cs k) (hk : k + d < 2 ^ 40) (hd : d ≤ 1000)
    (h : ∀ (p : List Nat) M', p.Perm (List.range d) → Deck M' a b cs (k + d) → Fw a b M M' → Q (.tup (nD p)) M') : callN P G (n + 2) i [.ref a, .int (d : Int)] M Q R := by
  have hsz := sizeLine_eq
  rw [callN]
  simp only [hP, bList, wpB, wpS, wpE, wpEs, wpO, wpT, wpI, rd, optI, List.map, List.replicate, List.cons_append, List.nil_append, List.append_eq, List.length_cons, List.length_nil, Tg.put, Tgs.put, Tg.own, Tgs.own, wipeE, true_and, Bool.false_eq_true, if_false, if_true, vw_int', vw_bl', vw_lst', vw_tup', vw_non', vw_str', ix0, ix1, ix2, e_add, e_sub, e_mul, e_fdiv, e_mod, e_pow, e_lt, e_le, e_gt, e_ge, e_isB, mkL_f, mkL_t, List.getElem?_cons_zero, List.getElem?_cons_succ, List.set_cons_zero, List.set_cons_succ]
  simp only [biD, mkL_t, Int.toNat_natCast, nD_range]
  refine ⟨⟨by omega, by omega⟩, fun l hl => ⟨by omega, fun f hf => ?_⟩⟩
  obtain ⟨la, lb⟩ := dk.apart hl
  have dk1 := dk.new (c := .lst (nD (List.range d))) hl
  have fw1 := Fw.new (a := a) (b := b) (c := .lst (nD (List.range d))) hl
  have hfM : ∀ c, M f = some c → False := fun c e => (by
    by_cases z : f = l
    · rw [z, MH.set_same] at hf; cases hf
    · rw [MH.set_ne z] at hf; rw [hf] at e; cases e)
  have hlf : l ≠ f := fun z => by rw [← z, MH.set_same] at hf; cases hf
  have hL1 : (M.set l (.lst (nD (List.range d)))) l = some (.lst (nD (List.range d))) := MH.set_same
  generalize M.set l (.lst (nD (List.range d))) = M1 at hf dk1 fw1 hL1
  obtain ⟨fa, fb⟩ := dk1.apart hf
  have dk2 := dk1.new (c := .lst []) hf
  have fw2 := fw1.trans (Fw.new (a := a) (b := b) (c := .lst []) hf)
  have hF2 : (M1.set f (.lst [])) f = some (.lst (nD [])) := MH.set_same
  have hL2 : (M1.set f (.lst [])) l = some (.lst (nD (List.range d))) := by rw [MH.set_ne hlf]; exact hL1
  generalize M1.set f (.lst []) = M2 at dk2 fw2 hF2 hL2
  refine wpW_inv (fun m ρ M' => ρ = [some (.ref a), some (.int (d : Int)), some (.ref l), some (.ref f)] ∧ ∃ ls fs : List Nat, m = ls.length ∧ M' l = some (.lst (nD ls)) ∧ M' f = some (.lst (nD fs)) ∧ (fs ++ ls).Perm (List.range d) ∧ Deck M' a b cs (k + fs.length) ∧ Fw a b M M') ?_ (List.range d).length _ _ ⟨rfl, List.range d, [], rfl, hL2, hF2, .refl _, dk2, ?_⟩
  · rintro m ρ M3 kk ⟨rfl, ls, fs, rfl, hL, hF, pm, dk3, fw3⟩ next
    have hlen : fs.length + ls.length = d := by have := pm.length_eq; simpa using this
    simp only [wpB, wpS, wpE, wpEs, wpO, wpT, wpI, rd, optI, List.map, List.replicate, List.cons_append, List.nil_append, List.append_eq, List.length_cons, List.length_nil, Tg.put, Tgs.put, Tg.own, Tgs.own, wipeE, true_and, Bool.false_eq_true, if_false, if_true, vw_int', vw_bl', vw_lst', vw_tup', vw_non', vw_str', ix0, ix1, ix2, e_add, e_sub, e_mul, e_fdiv, e_mod, e_pow, e_lt, e_le, e_gt, e_ge, e_isB, mkL_f, mkL_t, List.getElem?_cons_zero, List.getElem?_cons_succ, List.set_cons_zero, List.set_cons_succ, vw_l hL]
    refine ⟨by omega, ne_nilN ?_⟩
    cases ls with
    | nil =>
      simp only [List.isEmpty_nil, Bool.not_true, wpB, wpS, wpE, wpEs, wpO, wpT, wpI, rd, optI, List.map, List.replicate, List.cons_append, List.nil_append, List.append_eq, List.length_cons, List.length_nil, Tg.put, Tgs.put, Tg.own, Tgs.own, wipeE, true_and, Bool.false_eq_true, if_false, if_true, vw_int', vw_bl', vw_lst', vw_tup', vw_non', vw_str', ix0, ix1, ix2, e_add, e_sub, e_mul, e_fdiv, e_mod, e_pow, e_lt, e_le, e_gt, e_ge, e_isB, mkL_f, mkL_t, List.getElem?_cons_zero, List.getElem?_cons_succ, List.set_cons_zero, List.set_cons_succ]
      simp only [biD, seqD, vw_l hF]
      refine fin_keep (h fs M3 (by simpa using pm) (dk3.mono (by omega)) fw3)
    | cons x ls =>
      simp only [List.isEmpty_cons, Bool.not_false, wpB, wpS, wpE, wpEs, wpO, wpT, wpI, rd, optI, List.map, List.replicate, List.cons_append, List.nil_append, List.append_eq, List.length_cons, List.length_nil, Tg.put, Tgs.put, Tg.own, Tgs.own, wipeE, true_and, Bool.false_eq_true, if_false, if_true, vw_int', vw_bl', vw_lst', vw_tup', vw_non', vw_str', ix0, ix1, ix2, e_add, e_sub, e_mul, e_fdiv, e_mod, e_pow, e_lt, e_le, e_gt, e_ge, e_isB, mkL_f, mkL_t, List.getElem?_cons_zero, List.getElem?_cons_succ, List.set_cons_zero, List.set_cons_succ]
      simp only [List.length_cons] at hlen
      refine ⟨ty_app hF, ty_pop hL, ?_⟩
      rw [nD_len]
      refine next_spec hN dk3 (by omega) ⟨by simp only [List.length_cons]; omega, by simp only [List.length_cons]; omega⟩ fun r M4 r0 r1 dk4 fr4 => ?_
      have hL4 : M4 l = some (.lst (nD (x :: ls))) := by rw [fr4 l la lb]; exact hL
      have hF4 : M4 f = some (.lst (nD fs)) := by rw [fr4 f fa fb]; exact hF
      obtain ⟨t, rfl, ht⟩ : ∃ t : Nat, r = (t : Int) ∧ t < (x :: ls).length := ⟨r.toNat, by omega, by omega⟩
      have hy : (x :: ls)[t]? = some (x :: ls)[t] := List.getElem?_eq_getElem ht
      generalize (x :: ls)[t] = y at hy
      simp only [List.length_cons] at ht
      refine mt_pop' hL4 (nD_get hy) (by omega) ?_
      have hF5 : (M4.set l (.lst ((nD (x :: ls)).eraseIdx t))) f = some (.lst (nD fs)) := by rw [MH.set_ne (Ne.symm hlf)]; exact hF4
      refine mt_app' hF5 (by rw [nD_len]; omega) ?_
      have hlen' : ((x :: ls).eraseIdx t).length = ls.length := by rw [List.length_eraseIdx_of_lt (by simpa using ht)]; rfl
      refine next ls.length _ _ (by simp) ⟨rfl, (x :: ls).eraseIdx t, fs ++ [y], hlen'.symm, ?_, ?_, ?_, ?_, ?_⟩
      · rw [MH.set_ne hlf, MH.set_same, nD_erase]
      · rw [MH.set_same]
        have : nD fs ++ [D.int (y : Int)] = nD (fs ++ [y]) := by simp [nD]
        rw [this]
      · rw [List.append_assoc]
        refine (List.Perm.append_left fs ?_).trans pm
        exact erase_perm hy
      · have := (dk4.put (c := .lst ((nD (x :: ls)).eraseIdx t)) la lb).put (c := .lst (nD fs ++ [D.int (y : Int)])) fa fb
        rw [List.length_append]
        exact this.mono (by simp; omega)
      · intro z c h1 h2 hz
        have h3 := fw3 z c h1 h2 hz
        have zl : z ≠ l := fun q => by rw [q, hl] at hz; cases hz
        have zf : z ≠ f := fun q => by rw [q] at hz; exact absurd (hfM c hz) id
        rw [MH.set_ne zf, MH.set_ne zl, fr4 z h1 h2]
        exact h3
  · exact fw2
end T
set_option Elab.async false
set_option linter.all false
set_option maxRecDepth 100000
set_option maxHeartbeats 1000000
namespace T
open PySem PySem.Spec PyProof.Rows L2 HT
def exch (p : List Nat) (k : Nat) : List Nat := p.take k ++ ([p.getD (k + 1) 0, p.getD k 0] ++ p.drop (k + 2))
theorem cut_from {α : Type} (xs : List α) (lo : Nat) (h : lo ≤ xs.length) : cut xs (some (lo : Int)) none = xs.drop lo := by
  unfold cut
  rw [HT.sIx_nat, HT.sIx_none, Nat.min_eq_left h]
  rw [List.take_of_length_le]
  rw [List.length_drop]; omega
theorem e_addT {xs ys : List D} {k : D → Prop} : opD .add (.tup xs) (.tup ys) k = (xs.length + ys.length ≤ sizeLine ∧ k (.tup (xs ++ ys))) := rfl
theorem e_addL {xs ys : List D} {k : D → Prop} : opD .add (.lst xs) (.lst ys) k = (xs.length + ys.length ≤ sizeLine ∧ k (.lst (xs ++ ys))) := rfl
mutual
def D.okd : D → Bool
  | .bl _ | .int _ | .non | .str _ => true
  | .lst xs | .tup xs => okds xs && decide (xs.length ≤ 16777215)
  | _ => false
def okds : List D → Bool
  | [] => true
  | x :: r => x.okd && okds r
end
theorem okds_mem : ∀ {xs : List D} {d : D}, okds xs = true → d ∈ xs → d.okd = true
  | x :: r, d, h, hd => by
    obtain ⟨h1, h2⟩ := ba (show (x.okd && okds r) = true from h)
    rcases List.mem_cons.mp hd with e | e
    · rw [e]; exact h1
    · exact okds_mem h2 e
theorem depths_mem : ∀ {xs : List D} {d : D}, d ∈ xs → d.depth ≤ depths xs
  | x :: r, d, hd => by
    have : depths (x :: r) = max x.depth (depths r) := rfl
    rcases List.mem_cons.mp hd with e | e
    · rw [e]; omega
    · have := depths_mem (xs := r) e
      omega
theorem cmp_blb {x : Bool} {y : Bool} {k : Bool → Prop} (h : k (x == y)) : cmpD .eq (.bl x) (.bl y) k := ⟨⟨⟨rfl, by show 0 ≤ 60; omega⟩, ⟨rfl, by show 0 ≤ 60; omega⟩⟩, by
  have : D.eqv (.bl x) (.bl y) = (x == y) := by simp [D.eqv, D.toP, PyData.eqv]
  rw [this]; exact h⟩
theorem cmpne_blb {x : Bool} {y : Bool} {k : Bool → Prop} (h : k (x != y)) : cmpD .ne (.bl x) (.bl y) k := ⟨⟨⟨rfl, by show 0 ≤ 60; omega⟩, ⟨rfl, by show 0 ≤ 60; omega⟩⟩, by
  have : D.eqv (.bl x) (.bl y) = (x == y) := by simp [D.eqv, D.toP, PyData.eqv]
  rw [this]; exact h⟩
theorem cmp_int {x y : Int} {k : Bool → Prop} (h : k (decide (x = y))) : cmpD .eq (.int x) (.int y) k := ⟨⟨cmpble_int x, cmpble_int y⟩, by rw [eqv_int]; exact h⟩
theorem cmpne_int {x y : Int} {k : Bool → Prop} (h : k (!decide (x = y))) : cmpD .ne (.int x) (.int y) k := ⟨⟨cmpble_int x, cmpble_int y⟩, by rw [eqv_int]; exact h⟩
theorem cmpeq_nil {k : Bool → Prop} (h : k true) : cmpD .eq (.lst []) (.lst []) k := ⟨⟨cmpble_nil, cmpble_nil⟩, h⟩
theorem iteT {c : Bool} {A B : Prop} (h : c = true) (q : A) : if c = true then A else B := by rw [if_pos h]; exact q
theorem iteF {c : Bool} {A B : Prop} (h : c = false) (q : B) : if c = true then A else B := by rw [if_neg (by rw [h]; decide)]; exact q
theorem List.filterMap_none' {α β : Type} (l : List α) : ([] : List β) ++ l.filterMap (fun _ => none) = [] := by
  induction l with
  | nil => rfl
  | cons x r ih => simpa using ih
theorem isnon_int {x : Int} {k : Bool → Prop} (h : k false) : cmpD .is (.int x) .non k := h
theorem isnon_bl {x : Bool} {k : Bool → Prop} (h : k false) : cmpD .is (.bl x) .non k := h
theorem same_spec {P : Nat → Option Fn} {G : Nat → Option D} {i : Nat} (hP : P i = some ⟨2, 3, bSame i⟩) : ∀ (n : Nat) (d : D) (M : MH) (Q : D → MH → Prop) (R : Xc → MH → Prop), d.okd = true → d.depth < n → Q (.bl true) M → callN P G n i [d, d] M Q R
  | 0, _, _, _, _, _, h, _ => by omega
  | n + 1, d, M, Q, R, ok, hd, q => by
    have hsz := sizeLine_eq
    rw [callN]
    simp only [hP, bSame, wpB, wpS, wpE, wpEs, wpO, wpT, wpI, rd, optI, List.map, List.replicate, List.cons_append, List.nil_append, List.append_eq, List.length_cons, List.length_nil, Tg.put, Tgs.put, Tg.own, Tgs.own, wipeE, true_and, Bool.false_eq_true, if_false, if_true, vw_int', vw_bl', vw_lst', vw_tup', vw_non', vw_str', ix0, ix1, ix2, e_add, e_sub, e_mul, e_fdiv, e_mod, e_pow, e_lt, e_le, e_gt, e_ge, e_isB, mkL_f, mkL_t, List.getElem?_cons_zero, List.getElem?_cons_succ, List.set_cons_zero, List.set_cons_succ]
    cases d with
    | int x =>
      have o : ∀ ts : List Ty, ts.length ≤ 5 → isOk (.int x) ts := fun ts h => ⟨rfl, fun _ z => (nomatch z), by omega⟩
      simp only [vw_int', vw_bl', vw_lst', vw_tup', vw_non', vw_str', ix0, ix1, ix2, e_add, e_sub, e_mul, e_fdiv, e_mod, e_pow, e_lt, e_le, e_gt, e_ge, e_isB, mkL_f, mkL_t, List.getElem?_cons_zero, List.getElem?_cons_succ, List.set_cons_zero, List.set_cons_succ]
      exact ⟨o _ (by decide), iteF rfl ⟨o _ (by decide), iteF rfl (isnon_int (iteF rfl ⟨o _ (by decide), iteF rfl ⟨o _ (by decide), iteT rfl ⟨o _ (by decide), o _ (by decide), cmp_blb (iteT rfl (cmp_int (by simpa using fin_keep q)))⟩⟩⟩))⟩⟩
    | bl x =>
      have o : ∀ ts : List Ty, ts.length ≤ 5 → isOk (.bl x) ts := fun ts h => ⟨rfl, fun _ z => (nomatch z), by omega⟩
      simp only [vw_int', vw_bl', vw_lst', vw_tup', vw_non', vw_str', ix0, ix1, ix2, e_add, e_sub, e_mul, e_fdiv, e_mod, e_pow, e_lt, e_le, e_gt, e_ge, e_isB, mkL_f, mkL_t, List.getElem?_cons_zero, List.getElem?_cons_succ, List.set_cons_zero, List.set_cons_succ]
      exact ⟨o _ (by decide), iteF rfl ⟨o _ (by decide), iteF rfl (isnon_bl (iteF rfl ⟨o _ (by decide), iteF rfl ⟨o _ (by decide), iteT rfl ⟨o _ (by decide), o _ (by decide), cmp_blb (iteT rfl (cmp_blb (by simpa using fin_keep q)))⟩⟩⟩))⟩⟩
    | non =>
      have o : ∀ ts : List Ty, ts.length ≤ 5 → isOk .non ts := fun ts h => ⟨rfl, fun _ z => (nomatch z), by omega⟩
      simp only [vw_int', vw_bl', vw_lst', vw_tup', vw_non', vw_str', ix0, ix1, ix2, e_add, e_sub, e_mul, e_fdiv, e_mod, e_pow, e_lt, e_le, e_gt, e_ge, e_isB, mkL_f, mkL_t, List.getElem?_cons_zero, List.getElem?_cons_succ, List.set_cons_zero, List.set_cons_succ]
      refine ⟨o _ (by decide), iteF rfl ⟨o _ (by decide), iteF rfl ?_⟩⟩
      simp only [cmpD, vw_int', vw_bl', vw_lst', vw_tup', vw_non', vw_str', ix0, ix1, ix2, e_add, e_sub, e_mul, e_fdiv, e_mod, e_pow, e_lt, e_le, e_gt, e_ge, e_isB, mkL_f, mkL_t, List.getElem?_cons_zero, List.getElem?_cons_succ, List.set_cons_zero, List.set_cons_succ, if_true]
      exact fin_keep q
    | str x =>
      have o : ∀ ts : List Ty, ts.length ≤ 5 → isOk (.str x) ts := fun ts h => ⟨rfl, fun _ z => (nomatch z), by omega⟩
      have es : ∀ {k : Bool → Prop}, k true → cmpD .eq (.str x) (.str x) k := fun {k} h => by
        show k (decide (x = x))
        rw [decide_eq_true rfl]; exact h
      simp only [vw_int', vw_bl', vw_lst', vw_tup', vw_non', vw_str', ix0, ix1, ix2, e_add, e_sub, e_mul, e_fdiv, e_mod, e_pow, e_lt, e_le, e_gt, e_ge, e_isB, mkL_f, mkL_t, List.getElem?_cons_zero, List.getElem?_cons_succ, List.set_cons_zero, List.set_cons_succ]
      refine ⟨o _ (by decide), iteF rfl ⟨o _ (by decide), iteF rfl ?_⟩⟩
      have en : ∀ {k : Bool → Prop}, k false → cmpD .is (.str x) .non k := fun {k} h => h
      refine en ?_
      simp only [Bool.false_eq_true, if_false]
      exact ⟨o _ (by decide), iteT rfl ⟨o _ (by decide), iteT rfl (es (by simpa using fin_keep q))⟩⟩
    | tup xs =>
      obtain ⟨ok1, ok2⟩ := ba (show (okds xs && decide (xs.length ≤ 16777215)) = true from ok)
      have hz := of_decide_eq_true ok2
      have hdx : depths xs + 1 < n + 1 := hd
      have o : ∀ ts : List Ty, ts.length ≤ 5 → isOk (.tup xs) ts := fun ts h => ⟨rfl, fun _ z => (nomatch z), by omega⟩
      simp only [vw_int', vw_bl', vw_lst', vw_tup', vw_non', vw_str', ix0, ix1, ix2, e_add, e_sub, e_mul, e_fdiv, e_mod, e_pow, e_lt, e_le, e_gt, e_ge, e_isB, mkL_f, mkL_t, List.getElem?_cons_zero, List.getElem?_cons_succ, List.set_cons_zero, List.set_cons_succ]
      refine ⟨o _ (by decide), iteT rfl ⟨o _ (by decide), o _ (by decide), cmpne_blb (iteF rfl ⟨o _ (by decide), o _ (by decide), cmpne_blb (iteF rfl (len_t rfl (len_t rfl (cmpne_int (iteF (by simp) (len_t rfl ⟨by omega, by omega, ?_⟩))))))⟩)⟩⟩
      refine wpC_map (fun _ => none) trivial _ _ (fun acc x k hx qk => ?_) ⟨by omega, ?_⟩
      · obtain ⟨j, hj, rfl⟩ := List.mem_map.mp hx
        have hj : j < xs.length := by simpa using hj
        have e : xs[j]? = some xs[j] := List.getElem?_eq_getElem hj
        rw [Int.zero_add]
        refine ix_t e (ix_t e (same_spec hP n _ M _ _ (okds_mem ok1 (List.getElem_mem hj)) ?_ ?_))
        · have := depths_mem (List.getElem_mem hj); omega
        · simpa [isB] using qk
      · rw [List.filterMap_none']
        exact cmpeq_nil (fin_keep q)
    | lst xs =>
      obtain ⟨ok1, ok2⟩ := ba (show (okds xs && decide (xs.length ≤ 16777215)) = true from ok)
      have hz := of_decide_eq_true ok2
      have hdx : depths xs + 1 < n + 1 := hd
      have o : ∀ ts : List Ty, ts.length ≤ 5 → isOk (.lst xs) ts := fun ts h => ⟨rfl, fun _ z => (nomatch z), by omega⟩
      simp only [vw_int', vw_bl', vw_lst', vw_tup', vw_non', vw_str', ix0, ix1, ix2, e_add, e_sub, e_mul, e_fdiv, e_mod, e_pow, e_lt, e_le, e_gt, e_ge, e_isB, mkL_f, mkL_t, List.getElem?_cons_zero, List.getElem?_cons_succ, List.set_cons_zero, List.set_cons_succ]
      refine ⟨o _ (by decide), iteT rfl ⟨o _ (by decide), o _ (by decide), cmpne_blb (iteF rfl ⟨o _ (by decide), o _ (by decide), cmpne_blb (iteF rfl (len_l rfl (len_l rfl (cmpne_int (iteF (by simp) (len_l rfl ⟨by omega, by omega, ?_⟩))))))⟩)⟩⟩
      refine wpC_map (fun _ => none) trivial _ _ (fun acc x k hx qk => ?_) ⟨by omega, ?_⟩
      · obtain ⟨j, hj, rfl⟩ := List.mem_map.mp hx
        have hj : j < xs.length := by simpa using hj
        have e : xs[j]? = some xs[j] := List.getElem?_eq_getElem hj
        rw [Int.zero_add]
        refine ix_l e (ix_l e (same_spec hP n _ M _ _ (okds_mem ok1 (List.getElem_mem hj)) ?_ ?_))
        · have := depths_mem (List.getElem_mem hj); omega
        · simpa [isB] using qk
      · rw [List.filterMap_none']
        exact cmpeq_nil (fin_keep q)
    | _ => cases ok
end T
set_option Elab.async false
set_option linter.all false
set_option maxRecDepth 100000
set_option maxHeartbeats 1000000
namespace T
open PySem PySem.Spec PyProof.Rows L2 HT
theorem fza_refl {M : MH} {S : Addr → Prop} : ∀ ds : List D, FzA M S ds ds
  | [] => .nil
  | d :: r => .cons (.keep d) (fza_refl r)
/-- nothing that stood is gone -/
def Ke (M M' : MH) : Prop := ∀ x c, M x = some c → M' x = some c
theorem Ke.refl (M : MH) : Ke M M := fun _ _ e => e
theorem Ke.trans {M M' M'' : MH} (h : Ke M M') (h' : Ke M' M'') : Ke M M'' := fun x c e => h' x c (h x c e)
theorem Ke.new {M : MH} {p : Addr} {c : Ce} (hp : M p = none) : Ke M (M.set p c) := fun x c' e => by
  by_cases hx : x = p
  · subst hx; rw [hp] at e; cases e
  · rw [MH.set_ne hx]; exact e
theorem Ke.put {M M' : MH} {p : Addr} {c : Ce} (h : Ke M M') (hp : M p = none) : Ke M (M'.set p c) := fun x c' e => by
  by_cases hx : x = p
  · subst hx; rw [hp] at e; cases e
  · rw [MH.set_ne hx]; exact h x c' e
theorem fin_frz {M M' : MH} {c : Addr} {xs : List D} {Q : D → MH → Prop} (hk : Ke M M') (hc : M c = none) (hM : M' c = some (.lst xs)) (q : Q (.lst xs) M) : Fin (.ref c) M' Q :=
  ⟨fun x => x = c, M, .lst xs, .ref hM rfl (fza_refl xs), fun a c' e => ⟨hk a c' e, fun z => (by rw [z, hc] at e; cases e)⟩, q⟩
theorem fin_old {d : D} {M M' : MH} {Q : D → MH → Prop} (hk : Ke M M') (q : Q d M) : Fin d M' Q := fin_less hk q
def pr (n : Nat) : List (Nat × Nat) := (List.range n).flatMap fun a => (List.range (n - (a + 1))).map fun t => (a, a + 1 + t)
theorem nD_mem {p : List Nat} {i : Nat} {d : D} (h : (nD p)[i]? = some d) : ∃ x, p[i]? = some x ∧ d = .int (x : Int) := by
  simp only [nD, List.getElem?_map] at h
  cases q : p[i]? with
  | none => rw [q] at h; simp at h
  | some x => rw [q] at h; simp at h; exact ⟨x, rfl, h.symm⟩
end T
set_option Elab.async false
set_option linter.all false
set_option maxRecDepth 100000
set_option maxHeartbeats 1000000
set_option Elab.async false
set_option linter.all false
set_option maxRecDepth 100000
set_option maxHeartbeats 1000000
set_option Elab.async false
set_option linter.all false
set_option maxRecDepth 100000
set_option maxHeartbeats 1000000
namespace T
open PySem PySem.Spec PyProof.Rows L2 HT
def tr (k j : Nat) : Nat := if j = k then k + 1 else if j = k + 1 then k else j
def useful (p t : List Nat) : List Nat := (List.range (p.length - 1)).filter fun k => decide (t.idxOf (p.getD (k + 1) 0) < t.idxOf (p.getD k 0))
/-- the way by the lowest useful swaps -/
def nextp (t p : List Nat) : List Nat := exch p ((useful p t).headD 0)
def wk : Nat → List Nat → List Nat → List (List Nat)
  | 0, _, p => [p]
  | n + 1, t, p => if p = t then [p] else p :: wk n t (nextp t p)
end T
set_option Elab.async false
set_option linter.all false
set_option maxRecDepth 100000
set_option maxHeartbeats 1000000
namespace T
open PySem PySem.Spec PyProof.Rows L2 HT
def rD (l : List (List Nat)) : List D := l.map fun p => D.tup (nD p)
theorem rD_app (l l' : List (List Nat)) : rD l ++ rD l' = rD (l ++ l') := by simp [rD]
theorem rD_len (l : List (List Nat)) : (rD l).length = l.length := by simp [rD]
end T
set_option Elab.async false
set_option linter.all false
set_option maxRecDepth 100000
set_option maxHeartbeats 1000000
namespace T
open PySem PySem.Spec PyProof.Rows L2 HT
theorem ints_map (q : List Int) : ints? (q.map D.int) = some q := by
  induction q with
  | nil => rfl
  | cons x r ih => simp only [List.map_cons, ints?, ih, Option.map_some]
def pp (z : D) : Prop := z.pure = true ∧ z.depth ≤ 2
end T
set_option Elab.async false
set_option linter.all false
set_option maxRecDepth 100000
set_option maxHeartbeats 1000000
set_option Elab.async false
set_option linter.all false
set_option maxRecDepth 100000
set_option maxHeartbeats 1000000
set_option Elab.async false
set_option linter.all false
set_option maxRecDepth 100000
set_option maxHeartbeats 1000000
set_option Elab.async false
set_option linter.all false
set_option maxRecDepth 100000
set_option maxHeartbeats 1000000
namespace T
open PySem PySem.Spec PyProof.Rows L2 HT
def bIntIn : Ss := (.cons (.ret (.and (.isi (.var 0) [.int]) (.and (.not (.isi (.var 0) [.bool])) (.cmp2 .le (.var 1) (.var 0) .le (.var 2)))))
    .nil)
theorem is_ok {x : D} (h1 : x.isRef = false) (h2 : ∀ ns, x ≠ .scr ns) {ts : List Ty} (h : ts.length ≤ 5) : isOk x ts := ⟨h1, h2, by have := sizeLine_eq; omega⟩
theorem any_nD {ms : List Nat} {x : Nat} : (nD ms).any (fun z => D.eqv z (.int (x : Int))) = decide (x ∈ ms) := by
  rw [Bool.eq_iff_iff, List.any_eq_true, decide_eq_true_iff]
  constructor
  · rintro ⟨y, hy, e⟩
    unfold nD at hy
    obtain ⟨u, hu, rfl⟩ := List.mem_map.mp hy
    obtain ⟨v, hv, rfl⟩ := List.mem_map.mp hu
    have e := (eqv_iff _ _ rfl rfl).mp e
    simp only [D.int.injEq] at e
    have : v = x := by omega
    rw [← this]; exact hv
  · intro hx
    exact ⟨.int (x : Int), by unfold nD; exact List.mem_map.mpr ⟨(x : Int), List.mem_map.mpr ⟨x, hx, rfl⟩, rfl⟩, (eqv_iff _ _ rfl rfl).mpr rfl⟩
theorem inn_t {x : Nat} {ms : List Nat} {k : Bool → Prop} (h : k (decide (x ∈ ms))) : cmpD .inn (.int (x : Int)) (.tup (nD ms)) k := by
  refine ⟨⟨cmpble_int _, cmpble_tints _⟩, ?_⟩
  have e : ((nD ms).any fun z => D.eqv z (.int (x : Int))) = decide (x ∈ ms) := any_nD
  rw [e]
  exact h
end T
set_option Elab.async false
set_option linter.all false
set_option maxRecDepth 100000
set_option maxHeartbeats 1000000
namespace T
open PySem PySem.Spec PyProof.Rows L2 HT
section
theorem sz0 : (0 ≤ sizeLine) = True := by rw [eq_iff_iff, iff_true, sizeLine_eq]; omega
theorem sz1 : (0 + 1 ≤ sizeLine) = True := by rw [eq_iff_iff, iff_true, sizeLine_eq]; omega
theorem sz2 : (0 + 1 + 1 ≤ sizeLine) = True := by rw [eq_iff_iff, iff_true, sizeLine_eq]; omega
theorem sz3 : (0 + 1 + 1 + 1 ≤ sizeLine) = True := by rw [eq_iff_iff, iff_true, sizeLine_eq]; omega
theorem sz4 : (0 + 1 + 1 + 1 + 1 ≤ sizeLine) = True := by rw [eq_iff_iff, iff_true, sizeLine_eq]; omega
theorem sz5 : (0 + 1 + 1 + 1 + 1 + 1 ≤ sizeLine) = True := by rw [eq_iff_iff, iff_true, sizeLine_eq]; omega
theorem sz6 : (0 + 1 + 1 + 1 + 1 + 1 + 1 ≤ sizeLine) = True := by rw [eq_iff_iff, iff_true, sizeLine_eq]; omega
theorem sz7 : (0 + 1 + 1 + 1 + 1 + 1 + 1 + 1 ≤ sizeLine) = True := by rw [eq_iff_iff, iff_true, sizeLine_eq]; omega
theorem sz8 : (0 + 1 + 1 + 1 + 1 + 1 + 1 + 1 + 1 ≤ sizeLine) = True := by rw [eq_iff_iff, iff_true, sizeLine_eq]; omega
theorem cp12 : CPow 10 12 = True := by simp only [eq_iff_iff, iff_true]; exact ⟨by decide, by decide, by decide⟩
theorem cp59 : CPow 10 59 = True := by simp only [eq_iff_iff, iff_true]; exact ⟨by decide, by decide, by decide⟩
end
mutual
def okv (n : Nat) : D → Bool
  | .non | .bl _ => true
  | .int i => decide (i.natAbs ≤ 10 ^ 59 + n)
  | .str x => PyData.strOk x && decide (x.length ≤ 70)
  | .lst xs | .tup xs => okvs n xs
  | .dct [] [] => true
  | .dct _ _ | .ref _ | .scr _ => false
def okvs (n : Nat) : List D → Bool
  | [] => true
  | x :: r => okv n x && okvs n r
end
mutual
/-- how many parts -/
def nod : D → Nat
  | .lst xs | .tup xs => nods xs + 1
  | _ => 1
def nods : List D → Nat
  | [] => 0
  | x :: r => nod x + nods r
end
structure Vl (n w k : Nat) (d : D) : Prop where
  ok : okv n d = true
  w : nod d ≤ w
  k : d.depth ≤ k
mutual
theorem okv_shw (n : Nat) : ∀ d : D, okv n d = true → d.shw = true
  | .non, _ => rfl
  | .bl _, _ => rfl
  | .int _, _ => rfl
  | .str x, h => (ba (show (PyData.strOk x && decide (x.length ≤ 70)) = true from h)).1
  | .lst xs, h => okvs_shw n xs h
  | .tup xs, h => okvs_shw n xs h
  | .dct ks vs, h => by cases ks <;> cases vs <;> first | rfl | cases h
  | .ref _, h => by cases h
  | .scr _, h => by cases h
theorem okvs_shw (n : Nat) : ∀ ds : List D, okvs n ds = true → shws ds = true
  | [], _ => rfl
  | d :: r, h => by
    obtain ⟨h1, h2⟩ := ba (show (okv n d && okvs n r) = true from h)
    show (d.shw && shws r) = true
    rw [okv_shw n d h1, okvs_shw n r h2]; rfl
end
theorem nat_log_lt {m b : Nat} (hb : 0 < b) (h : m < 2 ^ b) : m.log2 < b := by
  by_cases hm : m = 0
  · subst hm; simpa using hb
  · exact (Nat.log2_lt hm).mpr h
theorem big59 {n m : Nat} (hn : n ≤ 1000) (h : m ≤ 10 ^ 59 + n) : m < 10 ^ 60 := by
  have : (10 : Nat) ^ 60 = 10 ^ 59 * 10 := by rw [Nat.pow_succ]
  have h2 : 1000 < (10 : Nat) ^ 59 := by decide
  omega
theorem big_log {n m : Nat} (hn : n ≤ 1000) (h : m ≤ 10 ^ 59 + n) : m.log2 < 1920 := by
  refine Nat.lt_trans (nat_log_lt (b := 200) (by decide) (Nat.lt_of_lt_of_le (big59 hn h) ?_)) (by decide)
  decide
mutual
theorem okv_show (n : Nat) (hn : n ≤ 1000) : ∀ d : D, okv n d = true → d.toP.showable = true
  | .non, _ => by simp [D.toP, PyData.showable]
  | .bl _, _ => by simp [D.toP, PyData.showable]
  | .int i, h => by simp only [D.toP, PyData.showable]; exact decide_eq_true (big_log hn (of_decide_eq_true h))
  | .str x, h => by simp [D.toP, PyData.showable]
  | .lst xs, h => by simp only [D.toP, PyData.showable]; exact okvs_show n hn xs h
  | .tup xs, h => by simp only [D.toP, PyData.showable]; exact okvs_show n hn xs h
  | .dct ks vs, h => by
    cases ks <;> cases vs <;> first
      | (cases h; done)
      | simp [D.toP, PyData.showable, PyData.showableKv]
  | .ref _, h => by cases h
  | .scr _, h => by cases h
theorem okvs_show (n : Nat) (hn : n ≤ 1000) : ∀ ds : List D, okvs n ds = true → PyData.showableAll (toPs ds) = true
  | [], _ => by simp [toPs, PyData.showableAll]
  | d :: r, h => by
    obtain ⟨h1, h2⟩ := ba (show (okv n d && okvs n r) = true from h)
    simp only [toPs, PyData.showableAll, okv_show n hn d h1, okvs_show n hn r h2, Bool.and_self]
end
theorem nod_pos : ∀ d : D, 1 ≤ nod d
  | .non | .bl _ | .int _ | .str _ | .dct _ _ | .ref _ | .scr _ => Nat.le_refl _
  | .lst xs | .tup xs => by show 1 ≤ nods xs + 1; omega
theorem nods_len : ∀ ds : List D, ds.length ≤ nods ds
  | [] => Nat.le_refl _
  | d :: r => by
    have := nod_pos d
    have := nods_len r
    show r.length + 1 ≤ nod d + nods r
    omega
theorem toPs_length : ∀ ds : List D, (toPs ds).length = ds.length
  | [] => by simp [toPs]
  | d :: r => by simp [toPs, toPs_length r]
theorem sa_len : ∀ ps : List PyData, (PyData.shownAll ps).length = ps.length
  | [] => by simp [PyData.shownAll]
  | p :: r => by simp [PyData.shownAll, sa_len r]
mutual
theorem shown_nod (n : Nat) (hn : n ≤ 1000) : ∀ d : D, okv n d = true → d.toP.shown.length + 2 ≤ 710 * nod d
  | .non, _ => by simp only [D.toP, PyData.shown, nod]; show (4 : Nat) + 2 ≤ 710; omega
  | .bl b, _ => by
    simp only [D.toP, PyData.shown, nod]
    cases b
    · show (5 : Nat) + 2 ≤ 710; omega
    · show (4 : Nat) + 2 ≤ 710; omega
  | .int i, h => by
    simp only [D.toP, PyData.shown, nod]
    have e := int_text_length_le10 (k := 60) (a := i) (by decide) (big59 hn (of_decide_eq_true h))
    show (Str.ofString (toString i)).length + 2 ≤ _
    rw [PySem.ofString_length]; omega
  | .str x, h => by
    simp only [D.toP, PyData.shown, nod]
    obtain ⟨h1, h2⟩ := ba (show (PyData.strOk x && decide (x.length ≤ 70)) = true from h)
    have h2 := of_decide_eq_true h2
    have := StrLaws.reprText_len x (fun c hc => by
      have := Array.all_eq_true'.mp h1 c (by simpa using hc)
      have := of_decide_eq_true this
      exact Nat.lt_of_lt_of_le this (by decide))
    omega
  | .lst xs, h => by
    simp only [D.toP, PyData.shown, nod]
    have h1 := shown_nods n hn xs h
    have h2 := listText_len_le (PyData.shownAll (toPs xs))
    rw [sa_len, toPs_length] at h2
    omega
  | .tup xs, h => by
    simp only [D.toP, PyData.shown, nod]
    have h1 := shown_nods n hn xs h
    have h2 := tupleText_len_le (PyData.shownAll (toPs xs))
    rw [sa_len, toPs_length] at h2
    omega
  | .dct ks vs, h => by
    cases ks <;> cases vs <;> first
      | (cases h; done)
      | (simp only [D.toP, PyData.shown, nod, PyData.shownKv]; show (2 : Nat) + 2 ≤ 710; omega)
  | .ref _, h => by cases h
  | .scr _, h => by cases h
theorem shown_nods (n : Nat) (hn : n ≤ 1000) : ∀ ds : List D, okvs n ds = true → ((PyData.shownAll (toPs ds)).map (·.length)).sum + 2 * ds.length ≤ 710 * nods ds
  | [], _ => by simp [toPs, PyData.shownAll, nods]
  | d :: r, h => by
    obtain ⟨h1, h2⟩ := ba (show (okv n d && okvs n r) = true from h)
    have a1 := shown_nod n hn d h1
    have a2 := shown_nods n hn r h2
    simp only [toPs, PyData.shownAll, nods, List.map_cons, List.sum_cons, List.length_cons]
    omega
end
theorem Vl.repr {n w k : Nat} {d : D} (v : Vl n w k d) (hn : n ≤ 1000) (hw : w ≤ 23000) (hk : k ≤ 60) : reprOk d := by
  have h1 := shown_nod n hn d v.ok
  have h2 := v.w
  have h3 := sizeLine_eq
  have h4 := depth_pure d
  have h5 := v.k
  exact ⟨okv_shw n d v.ok, okv_show n hn d v.ok, by omega, by omega⟩
theorem okvs_mem {n : Nat} : ∀ {ds : List D}, okvs n ds = true ↔ ∀ d ∈ ds, okv n d = true
  | [] => by simp [okvs]
  | d :: r => by
    have := okvs_mem (n := n) (ds := r)
    simp only [okvs, Bool.and_eq_true, List.mem_cons, this]
    exact ⟨fun ⟨a, b⟩ x hx => by rcases hx with rfl | hx; exact a; exact b x hx, fun h => ⟨h d (.inl rfl), fun x hx => h x (.inr hx)⟩⟩
theorem depths_le {ds : List D} {k : Nat} : depths ds ≤ k ↔ ∀ d ∈ ds, d.depth ≤ k := by
  induction ds with
  | nil => simp [depths]
  | cons x r ih =>
    have e : depths (x :: r) = max x.depth (depths r) := rfl
    rw [e, Nat.max_le, ih]
    exact ⟨fun ⟨a, b⟩ y hy => by rcases List.mem_cons.mp hy with rfl | hy; exact a; exact b y hy, fun h => ⟨h x List.mem_cons_self, fun y hy => h y (List.mem_cons_of_mem _ hy)⟩⟩
theorem nods_mem {ds : List D} {d : D} (h : d ∈ ds) : nod d ≤ nods ds := by
  induction ds with
  | nil => cases h
  | cons x r ih =>
    show nod d ≤ nod x + nods r
    rcases List.mem_cons.mp h with rfl | h
    · omega
    · have := ih h; omega
theorem nods_sub {xs ys : List D} (h : xs.Sublist ys) : nods xs ≤ nods ys := by
  induction h with
  | slnil => exact Nat.le_refl _
  | cons a _ ih => show _ ≤ nod a + _; omega
  | cons_cons a _ ih => show nod a + _ ≤ nod a + _; omega
theorem Vl.mono {n w k n' w' k' : Nat} {d : D} (v : Vl n w k d) (hn : n ≤ n') (hw : w ≤ w') (hk : k ≤ k') : Vl n' w' k' d := by
  refine ⟨?_, Nat.le_trans v.w hw, Nat.le_trans v.k hk⟩
  have key : ∀ d : D, okv n d = true → okv n' d = true := by
    intro d
    induction d using D.rec (motive_2 := fun ds => okvs n ds = true → okvs n' ds = true) with
    | int i => intro h; exact decide_eq_true (Nat.le_trans (of_decide_eq_true h) (by omega))
    | lst xs ih => exact ih
    | tup xs ih => exact ih
    | nil => rfl
    | cons x r i1 i2 =>
      rename_i h
      obtain ⟨h1, h2⟩ := ba (show (okv n x && okvs n r) = true from h)
      show (okv n' x && okvs n' r) = true
      rw [i1 h1, i2 h2]; rfl
    | non => exact id
    | bl => exact id
    | str => exact id
    | dct ks vs _ => cases ks <;> cases vs <;> exact id
    | ref => exact id
    | scr => exact id
  exact key d v.ok
theorem Vl.tup {n w k : Nat} {xs : List D} (h : okvs n xs = true) (hw : nods xs + 1 ≤ w) (hk : depths xs + 1 ≤ k) : Vl n w k (.tup xs) := ⟨h, hw, hk⟩
theorem Vl.lst {n w k : Nat} {xs : List D} (h : okvs n xs = true) (hw : nods xs + 1 ≤ w) (hk : depths xs + 1 ≤ k) : Vl n w k (.lst xs) := ⟨h, hw, hk⟩
theorem Vl.sub {n w k : Nat} {xs ys : List D} (v : Vl n w k (.tup ys)) (h : xs.Sublist ys) : Vl n w k (.tup xs) := by
  refine .tup (okvs_mem.mpr fun d hd => okvs_mem.mp v.ok d (h.subset hd)) ?_ ?_
  · have := nods_sub h
    have : nods ys + 1 ≤ w := v.w
    omega
  · have h2 : depths ys + 1 ≤ k := v.k
    have : depths xs ≤ depths ys := depths_le.mpr fun d hd => depths_le.mp (Nat.le_refl _) d (h.subset hd)
    omega
theorem Vl.mem {n w k : Nat} {xs : List D} {d : D} (v : Vl n w k (.tup xs)) (h : d ∈ xs) : Vl n w k d := by
  refine ⟨okvs_mem.mp v.ok d h, ?_, ?_⟩
  · have := nods_mem h
    have : nods xs + 1 ≤ w := v.w
    omega
  · have h2 : depths xs + 1 ≤ k := v.k
    have := depths_le.mp (Nat.le_refl (depths xs)) d h
    omega
theorem Vl.nref {n w k : Nat} {d : D} (v : Vl n w k d) : d.isRef = false := by
  have := v.ok
  cases d <;> first
    | rfl
    | cases this
theorem Vl.nscr {n w k : Nat} {d : D} (v : Vl n w k d) : ∀ ns, d ≠ .scr ns := by
  have := v.ok
  intro ns e
  subst e; cases this
theorem Vl.vw {n w k : Nat} {d : D} (v : Vl n w k d) (M : MH) : vw M d = d := by
  have := v.ok
  cases d <;> first
    | rfl
    | cases this
theorem Vl.is {n w k : Nat} {d : D} (v : Vl n w k d) {ts : List Ty} (h : ts.length ≤ 5) : isOk d ts := is_ok v.nref v.nscr h
theorem Vl.len {n w k : Nat} {xs : List D} (v : Vl n w k (.tup xs)) : xs.length < w := by
  have := nods_len xs
  have : nods xs + 1 ≤ w := v.w
  omega
end T
set_option Elab.async false
set_option linter.all false
set_option maxRecDepth 100000
set_option maxHeartbeats 1000000
namespace T
open PySem PySem.Spec PyProof.Rows L2 HT
def bOdd (iN : Nat) : Ss := (.cons (.asg (.nm 1) (.lst false (.cons .non (.cons (.bl true) (.cons (.bl false) (.cons (.int 0) (.cons (.int 1) (.cons (.neg (.int 1)) (.cons (.int 2) (.cons (.int 8) (.cons (.int 16) (.cons (.bin .pow (.int 10) (.int 12)) (.cons (.bin .add (.bin .pow (.int 10) (.int 12)) (.int 1)) (.cons (.bin .pow (.int 10) (.int 59)) (.cons (.str "") (.cons (.str "0") (.cons (.str "triple") (.cons (.tup .nil) (.cons (.tup (.cons (.int 0) .nil)) .nil)))))))))))))))))))
    (.cons (.ret (.idx (.bin .add (.var 1) (.lst false (.cons (.tup (.cons (.int 0) (.cons (.int 1) .nil))) (.cons (.lst false .nil) (.cons (.px false (.dct0 false) .nil) (.cons (.lst false (.cons (.int 0) .nil)) (.cons (.tup (.cons (.bl true) .nil)) (.cons (.tup (.cons (.tup .nil) .nil)) .nil)))))))) (.call iN (.cons (.var 0) (.cons (.int 23) .nil)))))
    .nil))
def bWhole : Ss := (.cons (.ret (.and (.isi (.var 0) [.int]) (.not (.isi (.var 0) [.bool]))))
    .nil)
theorem odd_spec {P : Nat → Option Fn} {G : Nat → Option D} {n i iN : Nat} {M : MH} {a b : Addr} {cs : List Int} {k : Nat} {Q : D → MH → Prop} {R : Xc → MH → Prop} (hP : P i = some ⟨1, 2, bOdd iN⟩) (hN : P iN = some ⟨2, 5, bNext⟩) (dk : Deck M a b cs k) (hk : k < 2 ^ 40)
    (h : ∀ d M', Vl 0 4 2 d → Deck M' a b cs (k + 1) → Fr a b M M' → Q d M') : callN P G (n + 2) i [.ref a] M Q R := by
  have hsz := sizeLine_eq
  rw [callN]
  simp only [hP, bOdd, wpB, wpS, wpE, wpEs, wpO, wpT, wpI, rd, optI, List.map, List.replicate, List.cons_append, List.nil_append, List.append_eq, List.length_cons, List.length_nil, Tg.put, Tgs.put, Tg.own, Tgs.own, wipeE, true_and, Bool.false_eq_true, if_false, if_true, vw_int', vw_bl', vw_lst', vw_tup', vw_non', vw_str', ix0, ix1, ix2, e_add, e_sub, e_mul, e_fdiv, e_mod, e_pow, e_lt, e_le, e_gt, e_ge, e_isB, mkL_f, mkL_t, List.getElem?_cons_zero, List.getElem?_cons_succ, List.set_cons_zero, List.set_cons_succ, pxD]
  have c12 : CPow 10 12 := ⟨by decide, by decide, by decide⟩
  have c59 : CPow 10 59 := ⟨by decide, by decide, by decide⟩
  refine ⟨c12, c12, c59, by omega, by omega, by omega, by omega, by omega, by omega, by omega, by omega, by omega, by omega, ?_⟩
  rw [e_addL]
  refine ⟨by simp only [List.length_cons, List.length_nil]; omega, ?_⟩
  simp only [List.cons_append, List.nil_append]
  generalize hL : (D.non :: _ : List D) = L
  have hall : ∀ d ∈ L, Vl 0 4 2 d := by
    rw [← hL]
    intro d hd
    simp only [List.mem_cons, List.not_mem_nil, or_false] at hd
    rcases hd with rfl | rfl | rfl | rfl | rfl | rfl | rfl | rfl | rfl | rfl | rfl | rfl | rfl | rfl | rfl | rfl | rfl | rfl | rfl | rfl | rfl | rfl | rfl <;> exact ⟨by decide +kernel, by decide +kernel, by decide +kernel⟩
  have hlen : L.length = 23 := by rw [← hL]; rfl
  clear hL
  refine next_spec hN dk hk ⟨by omega, by omega⟩ fun r M' r0 r1 dk' fr => ?_
  obtain ⟨t, rfl, ht⟩ : ∃ t : Nat, r = (t : Int) ∧ t < 23 := ⟨r.toNat, by omega, by omega⟩
  exact ix_l (List.getElem?_eq_getElem (by omega)) (fin_keep (h _ M' (hall _ (List.getElem_mem (by omega))) dk' fr))
theorem Fr.refl (a b : Addr) (M : MH) : Fr a b M M := fun _ _ _ => rfl
theorem Fr.trans {a b : Addr} {M M' M'' : MH} (h : Fr a b M M') (h' : Fr a b M' M'') : Fr a b M M'' := fun x h1 h2 => (h' x h1 h2).trans (h x h1 h2)
theorem okv_int {n : Nat} {i : Int} (h : i.natAbs ≤ 10 ^ 59 + n) : okv n (.int i) = true := decide_eq_true h
end T
set_option Elab.async false
set_option linter.all false
set_option maxRecDepth 100000
set_option maxHeartbeats 1000000
namespace T
open PySem PySem.Spec PyProof.Rows L2 HT
open Classical
/-- a whole number, not a truth value -/
def D.wh : D → Bool
  | .int _ => true
  | _ => false
def inR (lo hi : Int) : D → Bool
  | .int i => decide (lo ≤ i) && decide (i ≤ hi)
  | _ => false
theorem whole_spec {P : Nat → Option Fn} {G : Nat → Option D} {n i : Nat} {M : MH} {d : D} {nn w k : Nat} {Q : D → MH → Prop} {R : Xc → MH → Prop} (hP : P i = some ⟨1, 1, bWhole⟩) (v : Vl nn w k d) (h : Q (.bl d.wh) M) : callN P G (n + 1) i [d] M Q R := by
  rw [callN]
  simp only [hP, bWhole, wpB, wpS, wpE, wpEs, wpO, wpT, wpI, rd, optI, List.map, List.replicate, List.cons_append, List.nil_append, List.append_eq, List.length_cons, List.length_nil, Tg.put, Tgs.put, Tg.own, Tgs.own, wipeE, true_and, Bool.false_eq_true, if_false, if_true, vw_int', vw_bl', vw_lst', vw_tup', vw_non', vw_str', ix0, ix1, ix2, e_add, e_sub, e_mul, e_fdiv, e_mod, e_pow, e_lt, e_le, e_gt, e_ge, e_isB, mkL_f, mkL_t, List.getElem?_cons_zero, List.getElem?_cons_succ, List.set_cons_zero, List.set_cons_succ, v.vw]
  refine ⟨v.is (by decide), ?_⟩
  have ok := v.ok
  cases d <;> first
    | (cases ok; done)
    | exact iteF rfl (fin_keep h)
    | exact iteT rfl ⟨v.is (by decide), fin_keep h⟩
theorem intin_any {P : Nat → Option Fn} {G : Nat → Option D} {n i : Nat} {M : MH} {d : D} {lo hi : Int} {nn w k : Nat} {Q : D → MH → Prop} {R : Xc → MH → Prop} (hP : P i = some ⟨3, 3, bIntIn⟩) (v : Vl nn w k d) (h : Q (.bl (inR lo hi d)) M) : callN P G (n + 1) i [d, .int lo, .int hi] M Q R := by
  rw [callN]
  simp only [hP, bIntIn, wpB, wpS, wpE, wpEs, wpO, wpT, wpI, rd, optI, List.map, List.replicate, List.cons_append, List.nil_append, List.append_eq, List.length_cons, List.length_nil, Tg.put, Tgs.put, Tg.own, Tgs.own, wipeE, true_and, Bool.false_eq_true, if_false, if_true, vw_int', vw_bl', vw_lst', vw_tup', vw_non', vw_str', ix0, ix1, ix2, e_add, e_sub, e_mul, e_fdiv, e_mod, e_pow, e_lt, e_le, e_gt, e_ge, e_isB, mkL_f, mkL_t, List.getElem?_cons_zero, List.getElem?_cons_succ, List.set_cons_zero, List.set_cons_succ, v.vw]
  refine ⟨v.is (by decide), ?_⟩
  have ok := v.ok
  cases d <;> first
    | (cases ok; done)
    | exact iteF rfl (fin_keep h)
    | skip
  · exact iteT rfl ⟨v.is (by decide), iteF rfl (fin_keep h)⟩
  · rename_i x
    refine iteT rfl ⟨v.is (by decide), iteT rfl ?_⟩
    simp only [vw_int', vw_bl', vw_lst', vw_tup', vw_non', vw_str', ix0, ix1, ix2, e_add, e_sub, e_mul, e_fdiv, e_mod, e_pow, e_lt, e_le, e_gt, e_ge, e_isB, mkL_f, mkL_t, List.getElem?_cons_zero, List.getElem?_cons_succ, List.set_cons_zero, List.set_cons_succ]
    by_cases h1 : lo ≤ x
    · refine iteT (decide_eq_true h1) (fin_keep ?_)
      simpa [inR, h1] using h
    · refine iteF (decide_eq_false h1) (fin_keep ?_)
      simpa [inR, h1] using h
end T
set_option Elab.async false
set_option linter.all false
set_option maxRecDepth 100000
set_option maxHeartbeats 1000000
set_option Elab.async false
set_option linter.all false
set_option maxRecDepth 100000
set_option maxHeartbeats 1000000
namespace T
open PySem PySem.Spec PyProof.Rows L2 HT
/-- .. that keeps some -/
theorem wpC_fil {α : Type} {G : MH → Prop} {body : List D → D → MH → (List D → MH → Prop) → Prop} {M : MH} {Q : List D → MH → Prop} (c g : α → D) (f : α → Bool) (hG : G M) : ∀ (l : List α) (acc : List D), (∀ acc x k, x ∈ l → k (if f x = true then acc ++ [g x] else acc) M → body acc (c x) M k) → Q (acc ++ (l.filter f).map g) M → wpC G body (l.map c) acc M Q
  | [], acc, _, q => by
    simp only [List.map_nil, wpC]
    exact ⟨hG, by simpa using q⟩
  | x :: r, acc, hb, q => by
    simp only [List.map_cons, wpC]
    refine ⟨hG, hb acc x _ List.mem_cons_self (wpC_fil c g f hG r _ (fun a y k hy => hb a y k (List.mem_cons_of_mem _ hy)) ?_)⟩
    by_cases hf : f x = true
    · rw [List.filter_cons_of_pos hf] at q
      rw [if_pos hf, List.append_assoc]
      exact q
    · rw [List.filter_cons_of_neg hf] at q
      rw [if_neg hf]
      exact q
end T
set_option Elab.async false
set_option linter.all false
set_option maxRecDepth 100000
set_option maxHeartbeats 1000000
set_option Elab.async false
set_option linter.all false
set_option maxRecDepth 100000
set_option maxHeartbeats 1000000
set_option Elab.async false
set_option linter.all false
set_option maxRecDepth 100000
set_option maxHeartbeats 1000000
set_option Elab.async false
set_option linter.all false
set_option maxRecDepth 100000
set_option maxHeartbeats 1000000
set_option Elab.async false
set_option linter.all false
set_option maxRecDepth 100000
set_option maxHeartbeats 1000000
set_option Elab.async false
set_option linter.all false
set_option maxRecDepth 100000
set_option maxHeartbeats 1000000
set_option Elab.async false
set_option linter.all false
set_option maxRecDepth 100000
set_option maxHeartbeats 1000000
set_option Elab.async false
set_option linter.all false
set_option maxRecDepth 100000
set_option maxHeartbeats 1000000
set_option Elab.async false
set_option linter.all false
set_option maxRecDepth 100000
set_option maxHeartbeats 1000000
set_option Elab.async false
set_option linter.all false
set_option maxRecDepth 100000
set_option maxHeartbeats 1000000
set_option Elab.async false
set_option linter.all false
set_option maxRecDepth 100000
set_option maxHeartbeats 1000000
set_option Elab.async false
set_option linter.all false
set_option maxRecDepth 100000
set_option maxHeartbeats 1000000
set_option Elab.async false
set_option linter.all false
set_option maxRecDepth 100000
set_option maxHeartbeats 1000000
namespace T
open PySem PySem.Spec PyProof.Rows L2 HT
open Classical
theorem pw_pick {R : Nat → Nat → Prop} {B : List Nat} (h : B.Pairwise R) {x y : Nat} (hx : x ∈ B) (hy : y ∈ B) : x = y ∨ R x y ∨ R y x := by
  rcases List.mem_iff_getElem?.mp hx with ⟨i, hi⟩
  rcases List.mem_iff_getElem?.mp hy with ⟨j, hj⟩
  obtain ⟨l1, q1⟩ := List.getElem?_eq_some_iff.mp hi
  obtain ⟨l2, q2⟩ := List.getElem?_eq_some_iff.mp hj
  rcases Nat.lt_trichotomy i j with hlt | heq | hgt
  · have := List.pairwise_iff_getElem.mp h i j l1 l2 hlt
    rw [q1, q2] at this
    exact .inr (.inl this)
  · subst heq
    rw [q1] at q2; exact .inl q2
  · have := List.pairwise_iff_getElem.mp h j i l2 l1 hgt
    rw [q1, q2] at this
    exact .inr (.inr this)
end T
set_option Elab.async false
set_option linter.all false
set_option maxRecDepth 100000
set_option maxHeartbeats 1000000
set_option Elab.async false
set_option linter.all false
set_option maxRecDepth 100000
set_option maxHeartbeats 1000000
namespace T
open PySem PySem.Spec PyProof.Rows L2 HT
open Classical
def lexP (f : Nat → Int) (a b : Nat) : Prop := f a < f b ∨ (f a = f b ∧ a < b)
theorem lex_trans {f g : Nat → Int} {o x : List Nat} (hf : o.Pairwise fun a b => f a ≤ f b) (hg : o.Pairwise fun a b => g a ≤ g b) (hfg : ∀ a ∈ o, ∀ b ∈ o, (f a = f b ↔ g a = g b)) (hx : ∀ a ∈ x, a ∈ o) (h : x.Pairwise (lexP f)) : x.Pairwise (lexP g) := by
  refine h.imp_of_mem fun {a b} ha hb h => ?_
  have i := hfg a (hx a ha) b (hx b hb)
  rcases h with h | ⟨h1, h2⟩
  · refine .inl ?_
    rcases pw_pick (hf.and hg) (hx a ha) (hx b hb) with e | r | r
    · subst e; omega
    · have : g a ≠ g b := fun z => by have := i.mpr z; omega
      omega
    · omega
  · exact .inr ⟨i.mp h1, h2⟩
end T
set_option Elab.async false
set_option linter.all false
set_option maxRecDepth 100000
set_option maxHeartbeats 1000000
namespace T
open PySem PySem.Spec PyProof.Rows L2 HT
open Classical
/-- three tasters with three pairs -/
def Alone (S : List (List Bool)) (t a b : Nat) : Prop := ∃ s ∈ S, s.getD t false ≠ s.getD a false ∧ s.getD t false ≠ s.getD b false
theorem Alone.sw {S : List (List Bool)} {t a b : Nat} (h : Alone S t a b) : Alone S t b a := by
  obtain ⟨s, hs, h1, h2⟩ := h
  exact ⟨s, hs, h2, h1⟩
def NoTri (m : Nat) (S : List (List Bool)) : Prop := ∀ a b c, a < b → b < c → c < m → Alone S a b c → Alone S b a c → Alone S c a b → False
theorem NoTri.any {m : Nat} {S : List (List Bool)} (h : NoTri m S) {a b c : Nat} (ha : a < m) (hb : b < m) (hc : c < m) (ab : a ≠ b) (ac : a ≠ c) (bc : b ≠ c) (h1 : Alone S a b c) (h2 : Alone S b a c) (h3 : Alone S c a b) : False := by
  rcases Nat.lt_or_gt_of_ne ab with p | p <;> rcases Nat.lt_or_gt_of_ne ac with q | q <;> rcases Nat.lt_or_gt_of_ne bc with r | r
  · exact h a b c p r hc h1 h2 h3
  · exact h a c b q r hb h1.sw h3 h2
  · omega
  · exact h c a b q p hb h3 h1.sw h2.sw
  · exact h b a c p q hc h2 h1 h3.sw
  · omega
  · exact h b c a r q ha h2.sw h3.sw h1
  · exact h c b a r p ha h3.sw h2.sw h1.sw
end T
set_option Elab.async false
set_option linter.all false
set_option maxRecDepth 100000
set_option maxHeartbeats 1000000
set_option Elab.async false
set_option linter.all false
set_option maxRecDepth 100000
set_option maxHeartbeats 1000000
namespace T
open PySem PySem.Spec PyProof.Rows L2 HT
theorem excAt_hot {C : SC} {a : Addr} {x : Xc} {k : Xc → Prop} : excAt (C.hotC (a, x)) (.ref a) k = k x := by simp [excAt, SC.hotC]
theorem subTE {c : Str} : subX c "TasteError" = true := by simp [subX]
/-- ['word', a value] -/
theorem vl_word {s : String} {d : D} {nn w k : Nat} (h : okv nn (.str (Str.ofString s)) = true) (v : Vl nn w k d) : Vl nn (w + 2) (k + 1) (.lst [.str (Str.ofString s), d]) := by
  refine .lst ?_ ?_ ?_
  · show (okv nn (.str (Str.ofString s)) && (okv nn d && true)) = true
    rw [h, v.ok]; rfl
  · have := v.w
    show 1 + (nod d + 0) + 1 ≤ w + 2
    omega
  · have := v.k
    show max 0 (max d.depth 0) + 1 ≤ k + 1
    omega
theorem reprT {M : MH} {d : D} {m : Bool} {nn w k : Nat} {Q : D → MH → Prop} (v : Vl nn w k d) (h1 : nn ≤ 1000) (h2 : w ≤ 23000) (h3 : k ≤ 60) (q : Q (.str d.toP.shown) M) : biD m .repr [d] M Q := by
  simp only [biD, v.vw]
  exact ⟨v.repr h1 h2 h3, q⟩
theorem neStrs' {x y : Str} {k : Bool → Prop} (h : k (!decide (x = y))) : cmpD .ne (.str x) (.str y) k := h
end T
set_option Elab.async false
set_option linter.all false
set_option maxRecDepth 100000
set_option maxHeartbeats 1000000
namespace T
open PySem PySem.Spec PyProof.Rows L2 HT
open Classical
theorem wh_int {x : D} (h : x.wh = true) : ∃ i, x = .int i := by
  cases x <;> first
    | exact ⟨_, rfl⟩
    | cases h
end T
set_option Elab.async false
set_option linter.all false
set_option maxRecDepth 100000
set_option maxHeartbeats 1000000
namespace T
open PySem PySem.Spec PyProof.Rows L2 HT
open Classical
theorem vl_small {i : Int} (h : i.natAbs ≤ 10 ^ 15) : Vl 0 1 0 (.int i) := ⟨okv_int (Nat.le_trans h (Nat.le_trans (show 10 ^ 15 ≤ 10 ^ 59 by decide) (Nat.le_add_right _ _))), Nat.le_refl _, Nat.le_refl _⟩
end T
set_option Elab.async false
set_option linter.all false
set_option maxRecDepth 100000
set_option maxHeartbeats 1000000
namespace T
open PySem PySem.Spec PyProof.Rows L2 HT
open Classical
def frm (m : List Nat) : Nat := match m.getLast? with
  | none => 0
  | some x => x + 1
end T
set_option Elab.async false
set_option linter.all false
set_option maxRecDepth 100000
set_option maxHeartbeats 1000000
namespace T
open PySem PySem.Spec PyProof.Rows L2 HT
open Classical
abbrev Ln := List (Int × Int)
def hgt (l : Ln) (k : Nat) : Int := (l.getD k (0, 0)).1
def slp (l : Ln) (k : Nat) : Int := (l.getD k (0, 0)).2
end T
set_option Elab.async false
set_option linter.all false
set_option maxRecDepth 100000
set_option maxHeartbeats 1000000
namespace T
open PySem PySem.Spec PyProof.Rows L2 HT
open Classical
def gap (l : Ln) (z : Nat × Nat) : Int := hgt l z.1 - hgt l z.2
def sdf (l : Ln) (z : Nat × Nat) : Int := slp l z.1 - slp l z.2
def chgO (l : Ln) (z : Nat × Nat) : Option Int :=
  if 0 ≤ gap l z then (if sdf l z < 0 then some (gap l z / (0 - sdf l z) + 1) else none)
  else if 0 < sdf l z then some ((sdf l z - 1 - gap l z) / sdf l z) else none
/-- within low and high the pair changes once, at c -/
def inSp (low high : Int) (c : Int) : Bool := decide (low < c) && decide (c ≤ high)
def chgA (l : Ln) (low high : Int) (z : Nat × Nat) : Option (Int × (Nat × Nat)) := match chgO l z with
  | some c => if inSp low high c = true then some (c, z) else none
  | none => none
def chgs (l : Ln) (low high : Int) : List (Int × (Nat × Nat)) := (pr l.length).filterMap (chgA l low high)
end T
set_option Elab.async false
set_option linter.all false
set_option maxRecDepth 100000
set_option maxHeartbeats 1000000
set_option Elab.async false
set_option linter.all false
set_option maxRecDepth 100000
set_option maxHeartbeats 1000000
namespace T
open PySem PySem.Spec PyProof.Rows L2 HT
open Classical
theorem inR_any {lo hi : Int} {d : D} (h : inR lo hi d = true) : ∃ i, d = .int i ∧ lo ≤ i ∧ i ≤ hi := by
  cases d <;> first
    | (rename_i i; refine ⟨i, rfl, ?_⟩; simpa [inR] using h)
    | cases h
end T
set_option Elab.async false
set_option linter.all false
set_option maxRecDepth 100000
set_option maxHeartbeats 1000000
set_option Elab.async false
set_option linter.all false
set_option maxRecDepth 100000
set_option maxHeartbeats 1000000
set_option Elab.async false
set_option linter.all false
set_option maxRecDepth 100000
set_option maxHeartbeats 1000000
namespace T
open PySem PySem.Spec PyProof.Rows L2 HT
open Classical
theorem okds_of : ∀ {xs : List D}, (∀ d ∈ xs, d.okd = true) → okds xs = true
  | [], _ => rfl
  | x :: r, h => by
    show (x.okd && okds r) = true
    rw [h x List.mem_cons_self, okds_of fun d hd => h d (List.mem_cons_of_mem _ hd)]; rfl
end T
set_option Elab.async false
set_option linter.all false
set_option maxRecDepth 100000
set_option maxHeartbeats 1000000
namespace T
open PySem PySem.Spec PyProof.Rows L2 HT
open Classical
theorem pr28 : ∀ n, n ≤ 8 → (pr n).length ≤ 28 := by decide +kernel
theorem chgs_28 {l : Ln} {lo hi : Int} (h : l.length ≤ 8) : (chgs l lo hi).length ≤ 28 := by
  unfold chgs
  exact Nat.le_trans (List.length_filterMap_le _ _) (pr28 _ h)
structure Cuts (l : Ln) (lo hi : Int) (cs : List Int) : Prop where
  up : cs.Pairwise (· < ·)
  mem : ∀ c, c ∈ cs ↔ ∃ z, (c, z) ∈ chgs l lo hi
theorem up_eq : ∀ {l m : List Int}, l.Pairwise (· < ·) → m.Pairwise (· < ·) → (∀ y, y ∈ l ↔ y ∈ m) → l = m
  | [], [], _, _, _ => rfl
  | [], y :: m, _, _, h => absurd ((h y).mpr List.mem_cons_self) (by simp)
  | x :: l, [], _, _, h => absurd ((h x).mp List.mem_cons_self) (by simp)
  | x :: l, y :: m, h1, h2, h => by
    obtain ⟨a1, a2⟩ := List.pairwise_cons.mp h1
    obtain ⟨b1, b2⟩ := List.pairwise_cons.mp h2
    have e : x = y := by
      rcases List.mem_cons.mp ((h x).mp List.mem_cons_self) with e | e
      · exact e
      · rcases List.mem_cons.mp ((h y).mpr List.mem_cons_self) with f | f
        · exact f.symm
        · have := a1 y f
          have := b1 x e
          omega
    subst e
    rw [up_eq a2 b2 fun z => ?_]
    constructor
    · intro hz
      rcases List.mem_cons.mp ((h z).mp (List.mem_cons_of_mem _ hz)) with e | e
      · have := a1 z hz; omega
      · exact e
    · intro hz
      rcases List.mem_cons.mp ((h z).mpr (List.mem_cons_of_mem _ hz)) with e | e
      · have := b1 z hz; omega
      · exact e
theorem Cuts.uniq {l : Ln} {lo hi : Int} {cs cs' : List Int} (h : Cuts l lo hi cs) (h' : Cuts l lo hi cs') : cs = cs' := up_eq h.up h'.up fun y => by rw [h.mem, h'.mem]
theorem up_len : ∀ {cs L : List Int}, cs.Pairwise (· < ·) → (∀ c ∈ cs, c ∈ L) → cs.length ≤ L.length
  | [], L, _, _ => Nat.zero_le _
  | x :: cs, L, h1, h2 => by
    obtain ⟨a1, a2⟩ := List.pairwise_cons.mp h1
    have hx := h2 x List.mem_cons_self
    have : cs.length ≤ (L.erase x).length := up_len a2 fun c hc => by
      have hne : c ≠ x := fun e => by have := a1 c hc; omega
      exact (List.mem_erase_of_ne hne).mpr (h2 c (List.mem_cons_of_mem _ hc))
    rw [List.length_erase_of_mem hx] at this
    have := List.length_pos_of_mem hx
    simp only [List.length_cons]
    omega
theorem Cuts.len {l : Ln} {lo hi : Int} {cs : List Int} (h : Cuts l lo hi cs) (h8 : l.length ≤ 8) : cs.length ≤ 28 := by
  refine Nat.le_trans (up_len h.up (L := (chgs l lo hi).map (·.1)) fun c hc => ?_) (by rw [List.length_map]; exact chgs_28 h8)
  obtain ⟨z, hz⟩ := (h.mem c).mp hc
  exact List.mem_map.mpr ⟨_, hz, rfl⟩
end T
set_option Elab.async false
set_option linter.all false
set_option maxRecDepth 100000
set_option maxHeartbeats 1000000
set_option Elab.async false
set_option linter.all false
set_option maxRecDepth 100000
set_option maxHeartbeats 1000000
set_option Elab.async false
set_option linter.all false
set_option maxRecDepth 100000
set_option maxHeartbeats 1000000
set_option Elab.async false
set_option linter.all false
set_option maxRecDepth 100000
set_option maxHeartbeats 1000000
namespace T
open PySem PySem.Spec PyProof.Rows L2 HT
open Classical
def sumT (F : Int → Int) (lo : Int) : Nat → Int
  | 0 => 0
  | n + 1 => sumT F lo n + F (lo + n)
end T
set_option Elab.async false
set_option linter.all false
set_option maxRecDepth 100000
set_option maxHeartbeats 1000000
set_option Elab.async false
set_option linter.all false
set_option maxRecDepth 100000
set_option maxHeartbeats 1000000
set_option Elab.async false
set_option linter.all false
set_option maxRecDepth 100000
set_option maxHeartbeats 1000000
set_option Elab.async false
set_option linter.all false
set_option maxRecDepth 100000
set_option maxHeartbeats 1000000
set_option Elab.async false
set_option linter.all false
set_option maxRecDepth 100000
set_option maxHeartbeats 1000000
namespace T
open PySem PySem.Spec PyProof.Rows L2 HT
open Classical
theorem nD_snoc (r : List Nat) (t : Nat) : nD r ++ [D.int (t : Int)] = nD (r ++ [t]) := by simp [nD]
end T
set_option Elab.async false
set_option linter.all false
set_option maxRecDepth 100000
set_option maxHeartbeats 1000000
set_option Elab.async false
set_option linter.all false
set_option maxRecDepth 100000
set_option maxHeartbeats 1000000
set_option Elab.async false
set_option linter.all false
set_option maxRecDepth 100000
set_option maxHeartbeats 1000000
set_option Elab.async false
set_option linter.all false
set_option maxRecDepth 100000
set_option maxHeartbeats 1000000
namespace T
open PySem PySem.Spec PyProof.Rows L2 HT
open Classical
theorem nin_t {x : Nat} {ms : List Nat} {k : Bool → Prop} (h : k (!decide (x ∈ ms))) : cmpD .nin (.int (x : Int)) (.tup (nD ms)) k := by
  have key : cmpD .inn (.int (x : Int)) (.tup (nD ms)) (fun b => k (!b)) := inn_t (k := fun b => k (!b)) h
  exact key
end T
set_option Elab.async false
set_option linter.all false
set_option maxRecDepth 100000
set_option maxHeartbeats 1000000
set_option Elab.async false
set_option linter.all false
set_option maxRecDepth 100000
set_option maxHeartbeats 1000000
set_option Elab.async false
set_option linter.all false
set_option maxRecDepth 100000
set_option maxHeartbeats 1000000
set_option Elab.async false
set_option linter.all false
set_option maxRecDepth 100000
set_option maxHeartbeats 1000000
set_option Elab.async false
set_option linter.all false
set_option maxRecDepth 100000
set_option maxHeartbeats 1000000
namespace T
open PySem PySem.Spec PyProof.Rows L2 HT
def facN : Nat → Nat
  | 0 => 1
  | n + 1 => (n + 1) * facN n
theorem facN_pos : ∀ n, 0 < facN n
  | 0 => by decide
  | n + 1 => Nat.mul_pos (Nat.succ_pos n) (facN_pos n)
theorem facN_le : ∀ {m n : Nat}, m ≤ n → facN m ≤ facN n := by
  intro m n h
  induction n with
  | zero => have : m = 0 := by omega
            subst this; exact Nat.le_refl _
  | succ n ih =>
    by_cases e : m = n + 1
    · subst e; exact Nat.le_refl _
    · refine Nat.le_trans (ih (by omega)) ?_
      show facN n ≤ (n + 1) * facN n
      exact Nat.le_mul_of_pos_left _ (Nat.succ_pos n)
/-- how many of l are smaller than x -/
def cnt (x : Nat) (l : List Nat) : Nat := (l.filter fun y => decide (y < x)).length
theorem cnt_le (x : Nat) (l : List Nat) : cnt x l ≤ l.length := List.length_filter_le _ _
/-- order_index -/
def idxN : List Nat → Nat
  | [] => 0
  | x :: r => cnt x r * facN r.length + idxN r
theorem idxN_lt : ∀ l : List Nat, idxN l < facN l.length
  | [] => by decide
  | x :: r => by
    have h := idxN_lt r
    have h2 : cnt x r * facN r.length ≤ r.length * facN r.length := Nat.mul_le_mul_right _ (cnt_le x r)
    show cnt x r * facN r.length + idxN r < (r.length + 1) * facN r.length
    rw [Nat.add_mul]
    omega
/-- order_at -/
def atF : Nat → List Nat → Nat → List Nat
  | 0, _, _ => []
  | k + 1, L, n => L.getD (n / facN k) 0 :: atF k (L.eraseIdx (n / facN k)) (n % facN k)
theorem cnt_perm {x : Nat} {p q : List Nat} (h : p.Perm q) : cnt x p = cnt x q := (h.filter _).length_eq
theorem cnt_self {x : Nat} {r : List Nat} : cnt x (x :: r) = cnt x r := by
  unfold cnt
  rw [List.filter_cons]
  simp
theorem cnt_split {A B : List Nat} {x : Nat} (h : (A ++ x :: B).Pairwise (· < ·)) : cnt x (A ++ x :: B) = A.length := by
  unfold cnt
  have h1 := List.pairwise_append.mp h
  have h2 := List.pairwise_cons.mp h1.2.1
  rw [List.filter_append, List.filter_cons]
  have e1 : A.filter (fun y => decide (y < x)) = A := List.filter_eq_self.mpr fun a ha => by simpa using h1.2.2 a ha x List.mem_cons_self
  have e2 : B.filter (fun y => decide (y < x)) = [] := List.filter_eq_nil_iff.mpr fun a ha => by have := h2.1 a ha; simp; omega
  rw [e1, e2]
  simp
theorem split_mem {L : List Nat} {x : Nat} (h : x ∈ L) : ∃ A B, L = A ++ x :: B := List.append_of_mem h
theorem erase_app (A B : List Nat) (x : Nat) : (A ++ x :: B).eraseIdx A.length = A ++ B := by
  induction A with
  | nil => rfl
  | cons a A ih => simp only [List.cons_append, List.length_cons, List.eraseIdx_cons_succ, ih]
theorem at_idx : ∀ (p L : List Nat), L.Pairwise (· < ·) → p.Perm L → atF p.length L (idxN p) = p
  | [], L, _, h => rfl
  | x :: r, L, hs, h => by
    obtain ⟨A, B, rfl⟩ := split_mem (h.mem_iff.mp List.mem_cons_self)
    have hc : cnt x r = A.length := by rw [← cnt_self, cnt_perm h, cnt_split hs]
    have hlt := idxN_lt r
    have hp := facN_pos r.length
    have hd : idxN (x :: r) / facN r.length = A.length := by
      show (cnt x r * facN r.length + idxN r) / facN r.length = _
      rw [Nat.add_comm, Nat.add_mul_div_right _ _ hp, Nat.div_eq_of_lt hlt, hc]; omega
    have hm : idxN (x :: r) % facN r.length = idxN r := by
      show (cnt x r * facN r.length + idxN r) % facN r.length = _
      rw [Nat.add_comm, Nat.add_mul_mod_self_right, Nat.mod_eq_of_lt hlt]
    show (A ++ x :: B).getD (idxN (x :: r) / facN r.length) 0 :: atF r.length ((A ++ x :: B).eraseIdx (idxN (x :: r) / facN r.length)) (idxN (x :: r) % facN r.length) = _
    rw [hd, hm, erase_app]
    have h3 : r.Perm (A ++ B) := by
      have h4 : (x :: r).Perm (x :: (A ++ B)) := h.trans List.perm_middle
      exact (List.perm_cons x).mp h4
    have h5 : (A ++ B).Pairwise (· < ·) := hs.sublist (List.Sublist.append (List.Sublist.refl A) (List.sublist_cons_self x B))
    rw [at_idx r (A ++ B) h5 h3]
    simp
/-- tuple order -/
def lexN : List Nat → List Nat → Bool
  | [], [] => false
  | [], _ :: _ => true
  | _ :: _, [] => false
  | x :: r, y :: s => decide (x < y) || (decide (x = y) && lexN r s)
theorem cnt_mono {x y : Nat} {L : List Nat} (hx : x ∈ L) (h : x < y) : cnt x L + 1 ≤ cnt y L := by
  obtain ⟨A, B, rfl⟩ := split_mem hx
  unfold cnt
  rw [List.filter_append, List.filter_append, List.filter_cons, List.filter_cons]
  simp only [Nat.lt_irrefl, decide_false, Bool.false_eq_true, if_false, h, decide_true, if_true, List.length_append, List.length_cons]
  have m : ∀ C : List Nat, (C.filter fun z => decide (z < x)).length ≤ (C.filter fun z => decide (z < y)).length := fun C => by
    induction C with
    | nil => exact Nat.le_refl _
    | cons c C ih =>
      rw [List.filter_cons, List.filter_cons]
      by_cases c1 : c < x
      · have c2 : c < y := by omega
        simp [c1, c2, ih]
      · by_cases c2 : c < y
        · simp [c1, c2]; omega
        · simp [c1, c2, ih]
  have := m A
  have := m B
  omega
theorem idx_lex : ∀ p q : List Nat, p.Perm q → decide (idxN p < idxN q) = lexN p q
  | [], [], _ => rfl
  | [], _ :: _, h => by have := h.length_eq; simp at this
  | _ :: _, [], h => by have := h.length_eq; simp at this
  | x :: r, y :: s, h => by
    have hl : r.length = s.length := by have := h.length_eq; simpa using this
    have key : ∀ {x y : Nat} {r s : List Nat}, (x :: r).Perm (y :: s) → r.length = s.length → x < y → idxN (x :: r) < idxN (y :: s) := by
      intro x y r s h hl hxy
      have c1 : cnt x r + 1 ≤ cnt y s := by
        have := cnt_mono (L := x :: r) List.mem_cons_self hxy
        rw [cnt_self, cnt_perm h, cnt_self] at this
        exact this
      have := idxN_lt r
      have h2 : (cnt x r + 1) * facN r.length ≤ cnt y s * facN r.length := Nat.mul_le_mul_right _ c1
      show cnt x r * facN r.length + idxN r < cnt y s * facN s.length + idxN s
      rw [← hl]
      rw [Nat.add_mul] at h2
      omega
    show _ = (decide (x < y) || (decide (x = y) && lexN r s))
    rcases Nat.lt_trichotomy x y with c | c | c
    · rw [decide_eq_true (key h hl c), decide_eq_true c]; rfl
    · subst c
      have h2 : r.Perm s := (List.perm_cons x).mp h
      have ih := idx_lex r s h2
      have e : decide (idxN (x :: r) < idxN (x :: s)) = decide (idxN r < idxN s) := by
        show decide (cnt x r * facN r.length + idxN r < cnt x s * facN s.length + idxN s) = _
        rw [cnt_perm h2, hl]
        simp
      rw [e, ih, decide_eq_false (Nat.lt_irrefl x), decide_eq_true (rfl : x = x)]
      simp
    · have := key h.symm hl.symm c
      rw [decide_eq_false (by omega), decide_eq_false (by omega), decide_eq_false (by omega : ¬ x = y)]
      rfl
/-- all rows of the dishes, in the order in which the law makes them -/
def allN (d : Nat) : Nat → List (List Nat)
  | 0 => [[]]
  | t + 1 => (allN d t).flatMap fun r => ((List.range d).filter fun x => !r.contains x).map fun x => r ++ [x]
def all_ok (d : Nat) : Bool := (allN d d).length == facN d && ((allN d d).zipIdx.all fun p => idxN p.1 == p.2 && (atF d (List.range d) p.2 == p.1 && p.1.length == d))
theorem all_ok5 : ∀ d, 1 ≤ d → d ≤ 5 → all_ok d = true := by
  intro d h1 h2
  have : d = 1 ∨ d = 2 ∨ d = 3 ∨ d = 4 ∨ d = 5 := by omega
  rcases this with rfl | rfl | rfl | rfl | rfl <;> decide +kernel
theorem lexN_int : ∀ p q : List Nat, lexN p q = decide ((p.map fun k : Nat => (k : Int)) < (q.map fun k : Nat => (k : Int)))
  | [], [] => by decide
  | [], y :: s => by simp [lexN]
  | x :: r, [] => by simp [lexN]
  | x :: r, y :: s => by
    show (decide (x < y) || (decide (x = y) && lexN r s)) = _
    rw [lexN_int r s, Bool.eq_iff_iff]
    simp only [List.map_cons, List.cons_lt_cons_iff, Bool.or_eq_true, Bool.and_eq_true, decide_eq_true_eq]
    constructor
    · rintro (h | ⟨h, h2⟩)
      · exact .inl (by omega)
      · exact .inr ⟨by omega, h2⟩
    · rintro (h | ⟨h, h2⟩)
      · exact .inl (by omega)
      · exact .inr ⟨by omega, h2⟩
theorem all_row {d t : Nat} {r : List Nat} (h : r ∈ allN d t) : r.length = t ∧ ∀ x ∈ r, x < d := by
  induction t generalizing r with
  | zero =>
    rw [List.mem_singleton.mp (show r ∈ [[]] from h)]
    exact ⟨rfl, fun x hx => by cases hx⟩
  | succ t ih =>
    obtain ⟨r0, h0, h1⟩ := List.mem_flatMap.mp (show r ∈ (allN d t).flatMap _ from h)
    obtain ⟨x, hx, rfl⟩ := List.mem_map.mp h1
    obtain ⟨i1, i2⟩ := ih h0
    have hxd : x < d := List.mem_range.mp (List.mem_filter.mp hx).1
    refine ⟨by simp [i1], fun y hy => ?_⟩
    rcases List.mem_append.mp hy with q | q
    · exact i2 y q
    · rw [List.mem_singleton.mp q]; exact hxd
theorem all_len : ∀ d, d < 6 → ∀ t, t < 6 → (allN d t).length ≤ 200 := by decide +kernel
def bFac : Ss := (.cons (.asg (.nm 1) (.int 1))
    (.cons (.for (.nm 2) (.rng2 (.int 2) (.bin .add (.var 0) (.int 1))) (.cons (.asg (.nm 1) (.bin .mul (.var 1) (.var 2)))
    .nil))
    (.cons (.ret (.var 1))
    .nil)))
theorem fac_spec {P : Nat → Option Fn} {G : Nat → Option D} {n i m : Nat} {M : MH} {Q : D → MH → Prop} {R : Xc → MH → Prop} (hP : P i = some ⟨1, 3, bFac⟩) (hm : m ≤ 100) (h : Q (.int (facN m : Nat)) M) : callN P G (n + 1) i [.int (m : Int)] M Q R := by
  have hsz := sizeLine_eq
  rw [callN]
  simp only [hP, bFac, wpB, wpS, wpE, wpEs, wpO, wpT, wpI, rd, optI, List.map, List.replicate, List.cons_append, List.nil_append, List.append_eq, List.length_cons, List.length_nil, Tg.put, Tgs.put, Tg.own, Tgs.own, wipeE, true_and, Bool.false_eq_true, if_false, if_true, vw_int', vw_bl', vw_lst', vw_tup', vw_non', vw_str', ix0, ix1, ix2, e_add, e_sub, e_mul, e_fdiv, e_mod, e_pow, e_lt, e_le, e_gt, e_ge, e_isB, mkL_f, mkL_t, List.getElem?_cons_zero, List.getElem?_cons_succ, List.set_cons_zero, List.set_cons_succ, sz0, sz1, sz2, sz3, sz4, sz5, sz6, sz7, sz8, cp12, cp59, true_and, and_true]
  refine ⟨⟨by omega, by omega, by omega, by omega, by omega⟩, ?_⟩
  refine wpF_inv (fun j ρ M' => M' = M ∧ ∃ x2, ρ = [some (.int (m : Int)), some (.int (facN (j + 1) : Nat)), x2]) _ (fun _ _ _ _ => trivial) ?_ ?_ ⟨rfl, none, rfl⟩
  · rintro j y ρ M1 kk hy ⟨rfl, x2, rfl⟩ next
    have hj := (List.getElem?_eq_some_iff.mp hy).1
    rw [List.length_map, List.length_range] at hj
    obtain rfl : y = .int (((j + 2 : Nat)) : Int) := by
      rw [List.getElem?_map, List.getElem?_range hj] at hy
      have := (Option.some.inj hy).symm
      rw [this]
      show D.int (2 + (j : Int)) = D.int (((j + 2 : Nat)) : Int)
      rw [show (2 : Int) + (j : Int) = ((j + 2 : Nat) : Int) by omega]
    try simp only [wpB, wpS, wpE, wpEs, wpO, wpT, wpI, rd, optI, List.map, List.replicate, List.cons_append, List.nil_append, List.append_eq, List.length_cons, List.length_nil, Tg.put, Tgs.put, Tg.own, Tgs.own, wipeE, true_and, Bool.false_eq_true, if_false, if_true, vw_int', vw_bl', vw_lst', vw_tup', vw_non', vw_str', ix0, ix1, ix2, e_add, e_sub, e_mul, e_fdiv, e_mod, e_pow, e_lt, e_le, e_gt, e_ge, e_isB, mkL_f, mkL_t, List.getElem?_cons_zero, List.getElem?_cons_succ, List.set_cons_zero, List.set_cons_succ]
    refine ⟨.inr ⟨by omega, by omega⟩, ?_⟩
    refine next _ _ ⟨rfl, some (.int (((j + 2 : Nat)) : Int)), ?_⟩
    have e : (facN (j + 1) : Int) * ((j + 2 : Nat) : Int) = ((facN (j + 1 + 1) : Nat) : Int) := by
      show _ = (((j + 1 + 1) * facN (j + 1) : Nat) : Int)
      rw [← Int.natCast_mul, Nat.mul_comm]
    rw [e]
  · rintro ρ M1 ⟨rfl, x2, rfl⟩
    rw [List.length_map, List.length_range]
    try simp only [wpB, wpS, wpE, wpEs, wpO, wpT, wpI, rd, optI, List.map, List.replicate, List.cons_append, List.nil_append, List.append_eq, List.length_cons, List.length_nil, Tg.put, Tgs.put, Tg.own, Tgs.own, wipeE, true_and, Bool.false_eq_true, if_false, if_true, vw_int', vw_bl', vw_lst', vw_tup', vw_non', vw_str', ix0, ix1, ix2, e_add, e_sub, e_mul, e_fdiv, e_mod, e_pow, e_lt, e_le, e_gt, e_ge, e_isB, mkL_f, mkL_t, List.getElem?_cons_zero, List.getElem?_cons_succ, List.set_cons_zero, List.set_cons_succ]
    have e : facN (((m : Int) + 1 - 2).toNat + 1) = facN m := by
      by_cases c : m = 0
      · subst c; rfl
      · congr 1; omega
    rw [e]
    exact fin_keep h
def bOrdI (iF : Nat) : Ss := (.cons (.asg (.nm 1) (.int 0))
    (.cons (.for (.tp (.cons (.nm 2) (.cons (.nm 3) .nil))) (.enu (.var 0)) (.cons (.asg (.nm 4) (.bi false .len (.cons (.lc false (.var 5) (.nm 5) (.ex (.sl (.var 0) (.som (.bin .add (.var 2) (.int 1))) .non)) (.som (.cmp .lt (.var 5) (.var 3)))) .nil)))
    (.cons (.asg (.nm 1) (.bin .add (.var 1) (.bin .mul (.var 4) (.call iF (.cons (.bin .sub (.bin .sub (.bi false .len (.cons (.var 0) .nil)) (.int 1)) (.var 2)) .nil)))))
    .nil)))
    (.cons (.ret (.var 1))
    .nil)))
theorem ordi_spec {P : Nat → Option Fn} {G : Nat → Option D} {n i iF : Nat} {x : D} {p : List Nat} {M : MH} {Q : D → MH → Prop} {R : Xc → MH → Prop} (hP : P i = some ⟨1, 6, bOrdI iF⟩) (hF : P iF = some ⟨1, 3, bFac⟩) (hx : x = .tup (nD p) ∨ x = .lst (nD p)) (hl : p.length ≤ 100) (h : Q (.int (idxN p : Nat)) M) : callN P G (n + 2) i [x] M Q R := by
  have hsz := sizeLine_eq
  have hvw : ∀ M' : MH, vw M' x = x := fun M' => by rcases hx with rfl | rfl <;> rfl
  have hits : ∀ {M' : MH} {k : List D → (MH → Prop) → Prop}, k (nD p) (fun _ => True) → itsD M' x k := fun q => by rcases hx with rfl | rfl <;> exact q
  rw [callN]
  simp only [hP, bOrdI, wpB, wpS, wpE, wpEs, wpO, wpT, wpI, rd, optI, List.map, List.replicate, List.cons_append, List.nil_append, List.append_eq, List.length_cons, List.length_nil, Tg.put, Tgs.put, Tg.own, Tgs.own, wipeE, true_and, Bool.false_eq_true, if_false, if_true, vw_int', vw_bl', vw_lst', vw_tup', vw_non', vw_str', ix0, ix1, ix2, e_add, e_sub, e_mul, e_fdiv, e_mod, e_pow, e_lt, e_le, e_gt, e_ge, e_isB, mkL_f, mkL_t, List.getElem?_cons_zero, List.getElem?_cons_succ, List.set_cons_zero, List.set_cons_succ]
  refine hits ?_
  refine ⟨by rw [nD_len]; omega, ?_⟩
  refine wpF_inv (fun j ρ M' => M' = M ∧ ∃ x2 x3 x4 x5, ∃ z : Nat, ρ = [some x, some (.int (z : Int)), x2, x3, x4, x5] ∧ z + idxN (p.drop j) = idxN p) _ (fun _ _ _ _ => trivial) ?_ ?_ ⟨rfl, none, none, none, none, 0, rfl, by simp⟩
  · rintro j y ρ M1 kk hy ⟨rfl, x2, x3, x4, x5, z, rfl, hz⟩ next
    obtain ⟨v, hv, rfl⟩ : ∃ v : Nat, p[j]? = some v ∧ y = .tup [.int (j : Int), .int (v : Int)] := by
      rw [List.getElem?_map, Option.map_eq_some_iff] at hy
      obtain ⟨q, h1, rfl⟩ := hy
      rw [List.getElem?_zipIdx, Option.map_eq_some_iff] at h1
      obtain ⟨w, h2, rfl⟩ := h1
      unfold nD at h2
      rw [List.getElem?_map, List.getElem?_map, Option.map_eq_some_iff] at h2
      obtain ⟨u, h3, rfl⟩ := h2
      rw [Option.map_eq_some_iff] at h3
      obtain ⟨t, h4, rfl⟩ := h3
      exact ⟨t, h4, by simp⟩
    have hj := (List.getElem?_eq_some_iff.mp hv).1
    have hd : p.drop j = v :: p.drop (j + 1) := by
      rw [List.drop_eq_getElem_cons hj]
      congr 1
      exact (List.getElem?_eq_some_iff.mp hv).2
    try simp only [wpB, wpS, wpE, wpEs, wpO, wpT, wpI, rd, optI, List.map, List.replicate, List.cons_append, List.nil_append, List.append_eq, List.length_cons, List.length_nil, Tg.put, Tgs.put, Tg.own, Tgs.own, wipeE, true_and, Bool.false_eq_true, if_false, if_true, vw_int', vw_bl', vw_lst', vw_tup', vw_non', vw_str', ix0, ix1, ix2, e_add, e_sub, e_mul, e_fdiv, e_mod, e_pow, e_lt, e_le, e_gt, e_ge, e_isB, mkL_f, mkL_t, List.getElem?_cons_zero, List.getElem?_cons_succ, List.set_cons_zero, List.set_cons_succ]
    have hsl : ∀ {k : D → Prop}, (∀ y, y = .tup (nD (p.drop (j + 1))) ∨ y = .lst (nD (p.drop (j + 1))) → k y) → slD x (some ((j : Int) + 1)) none k := fun {k} q => by
      have e : cut (nD p) (some ((j : Int) + 1)) none = nD (p.drop (j + 1)) := by
        have := cut_from (nD p) (j + 1) (by rw [nD_len]; omega)
        rw [show (((j + 1 : Nat)) : Int) = (j : Int) + 1 by omega] at this
        rw [this]; unfold nD; simp only [List.map_drop, List.map_map]
      rcases hx with rfl | rfl
      · show k (.tup (cut _ _ _))
        rw [e]; exact q _ (.inl rfl)
      · show k (.lst (cut _ _ _))
        rw [e]; exact q _ (.inr rfl)
    rw [hvw]
    refine hsl fun y hy => ?_
    have hits2 : ∀ {M' : MH} {k : List D → (MH → Prop) → Prop}, k (nD (p.drop (j + 1))) (fun _ => True) → itsD M' y k := fun q => by rcases hy with rfl | rfl <;> exact q
    refine hits2 ?_
    have e0 : nD (p.drop (j + 1)) = (p.drop (j + 1)).map fun k : Nat => D.int (k : Int) := by unfold nD; rw [List.map_map]; rfl
    rw [e0]
    refine wpC_fil (fun k : Nat => D.int (k : Int)) (fun k : Nat => D.int (k : Int)) (fun k => decide (k < v)) trivial _ _ (fun acc k k' hk q => ?_) ?_
    · try simp only [wpB, wpS, wpE, wpEs, wpO, wpT, wpI, rd, optI, List.map, List.replicate, List.cons_append, List.nil_append, List.append_eq, List.length_cons, List.length_nil, Tg.put, Tgs.put, Tg.own, Tgs.own, wipeE, true_and, Bool.false_eq_true, if_false, if_true, vw_int', vw_bl', vw_lst', vw_tup', vw_non', vw_str', ix0, ix1, ix2, e_add, e_sub, e_mul, e_fdiv, e_mod, e_pow, e_lt, e_le, e_gt, e_ge, e_isB, mkL_f, mkL_t, List.getElem?_cons_zero, List.getElem?_cons_succ, List.set_cons_zero, List.set_cons_succ]
      have e1 : decide (((k : Nat) : Int) < (v : Int)) = decide (k < v) := decide_eq_decide.mpr (by omega)
      rw [e1]
      by_cases c : k < v
      · rw [if_pos (by simp [c])] at q; exact iteT (by simp [c]) q
      · rw [if_neg (by simp [c])] at q; exact iteF (by simp [c]) q
    rw [List.nil_append]
    refine len_l rfl ?_
    rw [List.length_map]
    try simp only [wpB, wpS, wpE, wpEs, wpO, wpT, wpI, rd, optI, List.map, List.replicate, List.cons_append, List.nil_append, List.append_eq, List.length_cons, List.length_nil, Tg.put, Tgs.put, Tg.own, Tgs.own, wipeE, true_and, Bool.false_eq_true, if_false, if_true, vw_int', vw_bl', vw_lst', vw_tup', vw_non', vw_str', ix0, ix1, ix2, e_add, e_sub, e_mul, e_fdiv, e_mod, e_pow, e_lt, e_le, e_gt, e_ge, e_isB, mkL_f, mkL_t, List.getElem?_cons_zero, List.getElem?_cons_succ, List.set_cons_zero, List.set_cons_succ]
    have hln : ∀ {k : D → MH → Prop}, k (.int (p.length : Int)) M1 → biD false .len [x] M1 k := fun q => by
      rcases hx with rfl | rfl
      · exact len_t rfl (by rw [nD_len]; exact q)
      · exact len_l rfl (by rw [nD_len]; exact q)
    refine hln ?_
    try simp only [wpB, wpS, wpE, wpEs, wpO, wpT, wpI, rd, optI, List.map, List.replicate, List.cons_append, List.nil_append, List.append_eq, List.length_cons, List.length_nil, Tg.put, Tgs.put, Tg.own, Tgs.own, wipeE, true_and, Bool.false_eq_true, if_false, if_true, vw_int', vw_bl', vw_lst', vw_tup', vw_non', vw_str', ix0, ix1, ix2, e_add, e_sub, e_mul, e_fdiv, e_mod, e_pow, e_lt, e_le, e_gt, e_ge, e_isB, mkL_f, mkL_t, List.getElem?_cons_zero, List.getElem?_cons_succ, List.set_cons_zero, List.set_cons_succ]
    have e2 : (p.length : Int) - 1 - (j : Int) = ((p.length - 1 - j : Nat) : Int) := by omega
    rw [e2]
    refine fac_spec (n := n) hF (by omega) ?_
    try simp only [wpB, wpS, wpE, wpEs, wpO, wpT, wpI, rd, optI, List.map, List.replicate, List.cons_append, List.nil_append, List.append_eq, List.length_cons, List.length_nil, Tg.put, Tgs.put, Tg.own, Tgs.own, wipeE, true_and, Bool.false_eq_true, if_false, if_true, vw_int', vw_bl', vw_lst', vw_tup', vw_non', vw_str', ix0, ix1, ix2, e_add, e_sub, e_mul, e_fdiv, e_mod, e_pow, e_lt, e_le, e_gt, e_ge, e_isB, mkL_f, mkL_t, List.getElem?_cons_zero, List.getElem?_cons_succ, List.set_cons_zero, List.set_cons_succ]
    have hcl : (List.filter (fun k => decide (k < v)) (p.drop (j + 1))).length ≤ p.length := Nat.le_trans (List.length_filter_le _ _) (by rw [List.length_drop]; omega)
    refine ⟨.inl ⟨by omega, by omega⟩, ?_⟩
    have e3 : (z : Int) + ((List.filter (fun k => decide (k < v)) (p.drop (j + 1))).length : Int) * ((facN (p.length - 1 - j) : Nat) : Int) = ((z + cnt v (p.drop (j + 1)) * facN (p.length - 1 - j) : Nat) : Int) := by
      unfold cnt; rw [Int.natCast_add, Int.natCast_mul]
    rw [e3]
    refine next _ _ ⟨rfl, _, _, _, _, z + cnt v (p.drop (j + 1)) * facN (p.length - 1 - j), rfl, ?_⟩
    · rw [hd] at hz
      have e4 : (p.drop (j + 1)).length = p.length - 1 - j := by rw [List.length_drop]; omega
      have : idxN (v :: p.drop (j + 1)) = cnt v (p.drop (j + 1)) * facN (p.drop (j + 1)).length + idxN (p.drop (j + 1)) := rfl
      rw [this, e4] at hz
      omega
  · rintro ρ M1 ⟨rfl, x2, x3, x4, x5, z, rfl, hz⟩
    rw [List.length_map, List.length_zipIdx, nD_len, List.drop_length] at hz
    have : z = idxN p := by simpa [idxN] using hz
    subst this
    try simp only [wpB, wpS, wpE, wpEs, wpO, wpT, wpI, rd, optI, List.map, List.replicate, List.cons_append, List.nil_append, List.append_eq, List.length_cons, List.length_nil, Tg.put, Tgs.put, Tg.own, Tgs.own, wipeE, true_and, Bool.false_eq_true, if_false, if_true, vw_int', vw_bl', vw_lst', vw_tup', vw_non', vw_str', ix0, ix1, ix2, e_add, e_sub, e_mul, e_fdiv, e_mod, e_pow, e_lt, e_le, e_gt, e_ge, e_isB, mkL_f, mkL_t, List.getElem?_cons_zero, List.getElem?_cons_succ, List.set_cons_zero, List.set_cons_succ]
    exact fin_keep h
def bOrdA (iF : Nat) : Ss := (.cons (.par2 2 3 (.bi true .list (.cons (.var 0) .nil)) (.lst true .nil))
    (.cons (.whl (.cmp .ne (.var 2) (.lst false .nil)) (.cons (.asg (.tp (.cons (.nm 4) (.cons (.nm 1) .nil))) (.px false .dvm (.cons (.var 1) (.cons (.call iF (.cons (.bin .sub (.bi false .len (.cons (.var 2) .nil)) (.int 1)) .nil)) .nil))))
    (.cons (.exp (.mth .append (.var 3) (.cons (.mth .pop (.var 2) (.cons (.var 4) .nil)) .nil)))
    .nil)))
    (.cons (.ret (.bi false .tuple (.cons (.var 3) .nil)))
    .nil)))
theorem orda_spec {P : Nat → Option Fn} {G : Nat → Option D} {n i iF v : Nat} {L : List Nat} {M : MH} {Q : D → MH → Prop} {R : Xc → MH → Prop} (hP : P i = some ⟨2, 5, bOrdA iF⟩) (hF : P iF = some ⟨1, 3, bFac⟩) (hl : L.length ≤ 16) (hv : v < facN L.length) (h : Q (.tup (nD (atF L.length L v))) M) : callN P G (n + 2) i [.lst (nD L), .int (v : Int)] M Q R := by
  have hsz := sizeLine_eq
  have f16 : ∀ k, k ≤ 16 → facN k < 2 ^ 62 := fun k hk => Nat.lt_of_le_of_lt (facN_le hk) (by decide)
  rw [callN]
  simp only [hP, bOrdA, wpB, wpS, wpE, wpEs, wpO, wpT, wpI, rd, optI, List.map, List.replicate, List.cons_append, List.nil_append, List.append_eq, List.length_cons, List.length_nil, Tg.put, Tgs.put, Tg.own, Tgs.own, wipeE, true_and, Bool.false_eq_true, if_false, if_true, vw_int', vw_bl', vw_lst', vw_tup', vw_non', vw_str', ix0, ix1, ix2, e_add, e_sub, e_mul, e_fdiv, e_mod, e_pow, e_lt, e_le, e_gt, e_ge, e_isB, mkL_f, mkL_t, List.getElem?_cons_zero, List.getElem?_cons_succ, List.set_cons_zero, List.set_cons_succ]
  simp only [biD, seqD, vw_lst', mkL_t]
  refine fun l hl' => ⟨by omega, fun f hf => ?_⟩
  have hlf : l ≠ f := fun z => by rw [← z, MH.set_same] at hf; cases hf
  have hfM : M f = none := by rw [MH.set_ne (Ne.symm hlf)] at hf; exact hf
  refine wpW_inv (fun m ρ M' => ∃ ls fs : List Nat, ∃ u : Nat, ∃ x4, ρ = [some (.lst (nD L)), some (.int (u : Int)), some (.ref l), some (.ref f), x4] ∧ m = ls.length ∧ M' l = some (.lst (nD ls)) ∧ M' f = some (.lst (nD fs)) ∧ fs.length + ls.length = L.length ∧ u < facN ls.length ∧ fs ++ atF ls.length ls u = atF L.length L v ∧ Ke M M') ?_ L.length _ _ ⟨L, [], v, none, rfl, rfl, ?_, MH.set_same, by simp, hv, rfl, ?_⟩
  · rintro m ρ M3 kk ⟨ls, fs, u, x4, rfl, rfl, hL, hFf, hlen, hu, hat, ke⟩ next
    simp only [wpB, wpS, wpE, wpEs, wpO, wpT, wpI, rd, optI, List.map, List.replicate, List.cons_append, List.nil_append, List.append_eq, List.length_cons, List.length_nil, Tg.put, Tgs.put, Tg.own, Tgs.own, wipeE, true_and, Bool.false_eq_true, if_false, if_true, vw_int', vw_bl', vw_lst', vw_tup', vw_non', vw_str', ix0, ix1, ix2, e_add, e_sub, e_mul, e_fdiv, e_mod, e_pow, e_lt, e_le, e_gt, e_ge, e_isB, mkL_f, mkL_t, List.getElem?_cons_zero, List.getElem?_cons_succ, List.set_cons_zero, List.set_cons_succ, vw_l hL]
    refine ⟨by omega, ne_nilN ?_⟩
    cases ls with
    | nil =>
      simp only [List.isEmpty_nil, Bool.not_true, wpB, wpS, wpE, wpEs, wpO, wpT, wpI, rd, optI, List.map, List.replicate, List.cons_append, List.nil_append, List.append_eq, List.length_cons, List.length_nil, Tg.put, Tgs.put, Tg.own, Tgs.own, wipeE, true_and, Bool.false_eq_true, if_false, if_true, vw_int', vw_bl', vw_lst', vw_tup', vw_non', vw_str', ix0, ix1, ix2, e_add, e_sub, e_mul, e_fdiv, e_mod, e_pow, e_lt, e_le, e_gt, e_ge, e_isB, mkL_f, mkL_t, List.getElem?_cons_zero, List.getElem?_cons_succ, List.set_cons_zero, List.set_cons_succ]
      simp only [vw_l hFf]
      have e : fs = atF L.length L v := by rw [← hat]; simp [atF]
      rw [e]
      exact fin_old ke h
    | cons x ls =>
      simp only [List.isEmpty_cons, Bool.not_false, wpB, wpS, wpE, wpEs, wpO, wpT, wpI, rd, optI, List.map, List.replicate, List.cons_append, List.nil_append, List.append_eq, List.length_cons, List.length_nil, Tg.put, Tgs.put, Tg.own, Tgs.own, wipeE, true_and, Bool.false_eq_true, if_false, if_true, vw_int', vw_bl', vw_lst', vw_tup', vw_non', vw_str', ix0, ix1, ix2, e_add, e_sub, e_mul, e_fdiv, e_mod, e_pow, e_lt, e_le, e_gt, e_ge, e_isB, mkL_f, mkL_t, List.getElem?_cons_zero, List.getElem?_cons_succ, List.set_cons_zero, List.set_cons_succ]
      simp only [List.length_cons] at hlen hu
      rw [nD_len]
      have e1 : ((x :: ls).length : Int) - 1 = ((ls.length : Nat) : Int) := by simp only [List.length_cons]; omega
      rw [e1]
      refine fac_spec (n := n) hF (by omega) ?_
      have fp := facN_pos ls.length
      have f62 := f16 ls.length (by omega)
      simp only [pxD]
      refine ⟨⟨by omega, by omega⟩, ?_⟩
      try simp only [wpB, wpS, wpE, wpEs, wpO, wpT, wpI, rd, optI, List.map, List.replicate, List.cons_append, List.nil_append, List.append_eq, List.length_cons, List.length_nil, Tg.put, Tgs.put, Tg.own, Tgs.own, wipeE, true_and, Bool.false_eq_true, if_false, if_true, vw_int', vw_bl', vw_lst', vw_tup', vw_non', vw_str', ix0, ix1, ix2, e_add, e_sub, e_mul, e_fdiv, e_mod, e_pow, e_lt, e_le, e_gt, e_ge, e_isB, mkL_f, mkL_t, List.getElem?_cons_zero, List.getElem?_cons_succ, List.set_cons_zero, List.set_cons_succ]
      have d1 : ((u : Int) / ((facN ls.length : Nat) : Int)) = ((u / facN ls.length : Nat) : Int) := (Int.natCast_ediv _ _).symm
      have d2 : ((u : Int) % ((facN ls.length : Nat) : Int)) = ((u % facN ls.length : Nat) : Int) := (Int.natCast_emod _ _).symm
      rw [d1, d2]
      have ht : u / facN ls.length < (x :: ls).length := by
        rw [List.length_cons]
        exact (Nat.div_lt_iff_lt_mul fp).mpr hu
      generalize htt : u / facN ls.length = t at ht
      refine ⟨ty_app hFf, ty_pop hL, ?_⟩
      have hy : (x :: ls)[t]? = some (x :: ls)[t] := List.getElem?_eq_getElem ht
      generalize (x :: ls)[t] = y at hy
      refine mt_pop' hL (nD_get hy) (by simp only [List.length_cons] at ht; omega) ?_
      have hF5 : (M3.set l (.lst ((nD (x :: ls)).eraseIdx t))) f = some (.lst (nD fs)) := by rw [MH.set_ne (Ne.symm hlf)]; exact hFf
      refine mt_app' hF5 (by rw [nD_len]; omega) ?_
      have hlen' : ((x :: ls).eraseIdx t).length = ls.length := by rw [List.length_eraseIdx_of_lt (by simpa using ht)]; rfl
      refine next ls.length _ _ (by simp) ⟨(x :: ls).eraseIdx t, fs ++ [y], u % facN ls.length, _, rfl, hlen'.symm, ?_, ?_, ?_, ?_, ?_, (ke.put hl').put hfM⟩
      · rw [MH.set_ne hlf, MH.set_same, nD_erase]
      · rw [MH.set_same]
        have : nD fs ++ [D.int (y : Int)] = nD (fs ++ [y]) := by simp [nD]
        rw [this]
      · rw [hlen', List.length_append]; simp; omega
      · rw [hlen']; exact Nat.mod_lt _ fp
      · rw [hlen', ← hat]
        show _ = fs ++ ((x :: ls).getD (u / facN ls.length) 0 :: atF ls.length ((x :: ls).eraseIdx (u / facN ls.length)) (u % facN ls.length))
        rw [htt, List.getD_eq_getElem?_getD, hy]
        simp
  · rw [MH.set_ne hlf, MH.set_same]
  · exact ((Ke.refl M).put hl').put hfM
def bRkAt (iI iF iA : Nat) : Ss := (.cons (.iff (.not (.call iI (.cons (.var 1) (.cons (.int 0) (.cons (.bin .sub (.call iF (.cons (.var 0) .nil)) (.int 1)) .nil))))) (.cons (.rai "NoIndex" "index" (.var 1))
    .nil) .nil)
    (.cons (.ret (.call iA (.cons (.bi false .listrange (.cons (.var 0) .nil)) (.cons (.var 1) .nil))))
    .nil))
theorem rkat_spec {P : Nat → Option Fn} {G : Nat → Option D} {n i iI iF iA d : Nat} {x : D} {nn w k : Nat} {M : MH} {Q : D → MH → Prop} {R : Xc → MH → Prop} (hP : P i = some ⟨2, 2, bRkAt iI iF iA⟩) (hI : P iI = some ⟨3, 3, bIntIn⟩) (hF : P iF = some ⟨1, 3, bFac⟩) (hA : P iA = some ⟨2, 5, bOrdA iF⟩) (hd : d ≤ 16) (vx : Vl nn w k x)
    (h : ∀ v : Nat, x = .int (v : Int) → v < facN d → Q (.tup (nD (atF d (List.range d) v))) M) (h2 : inR 0 (((facN d : Nat) : Int) - 1) x = false → R ⟨"NoIndex", some ("index", x)⟩ M) : callN P G (n + 3) i [.int (d : Int), x] M Q R := by
  have hsz := sizeLine_eq
  rw [callN]
  simp only [hP, bRkAt, wpB, wpS, wpE, wpEs, wpO, wpT, wpI, rd, optI, List.map, List.replicate, List.cons_append, List.nil_append, List.append_eq, List.length_cons, List.length_nil, Tg.put, Tgs.put, Tg.own, Tgs.own, wipeE, true_and, Bool.false_eq_true, if_false, if_true, vw_int', vw_bl', vw_lst', vw_tup', vw_non', vw_str', ix0, ix1, ix2, e_add, e_sub, e_mul, e_fdiv, e_mod, e_pow, e_lt, e_le, e_gt, e_ge, e_isB, mkL_f, mkL_t, List.getElem?_cons_zero, List.getElem?_cons_succ, List.set_cons_zero, List.set_cons_succ]
  refine fac_spec (n := n + 1) hF (by omega) ?_
  try simp only [wpB, wpS, wpE, wpEs, wpO, wpT, wpI, rd, optI, List.map, List.replicate, List.cons_append, List.nil_append, List.append_eq, List.length_cons, List.length_nil, Tg.put, Tgs.put, Tg.own, Tgs.own, wipeE, true_and, Bool.false_eq_true, if_false, if_true, vw_int', vw_bl', vw_lst', vw_tup', vw_non', vw_str', ix0, ix1, ix2, e_add, e_sub, e_mul, e_fdiv, e_mod, e_pow, e_lt, e_le, e_gt, e_ge, e_isB, mkL_f, mkL_t, List.getElem?_cons_zero, List.getElem?_cons_succ, List.set_cons_zero, List.set_cons_succ]
  refine intin_any (n := n + 1) hI vx ?_
  simp only [vw_int', vw_bl', vw_lst', vw_tup', vw_non', vw_str', ix0, ix1, ix2, e_add, e_sub, e_mul, e_fdiv, e_mod, e_pow, e_lt, e_le, e_gt, e_ge, e_isB, mkL_f, mkL_t, List.getElem?_cons_zero, List.getElem?_cons_succ, List.set_cons_zero, List.set_cons_succ]
  by_cases c : inR 0 (((facN d : Nat) : Int) - 1) x = true
  case neg =>
    have c' : inR 0 (((facN d : Nat) : Int) - 1) x = false := by simpa using c
    rw [c']
    exact iteT rfl (h2 c')
  obtain ⟨t, rfl, t1, t2⟩ := inR_any c
  obtain ⟨v, rfl⟩ : ∃ v : Nat, t = (v : Int) := ⟨t.toNat, by omega⟩
  have hv : v < facN d := by omega
  rw [c]
  refine iteF rfl ?_
  simp only [biD, mkL_f, Int.toNat_natCast, nD_range]
  refine ⟨⟨by omega, by omega⟩, ?_⟩
  have hh : Q (.tup (nD (atF (List.range d).length (List.range d) v))) M := by rw [List.length_range]; exact h v rfl hv
  refine orda_spec (n := n) hA hF (by rw [List.length_range]; exact hd) (by rw [List.length_range]; exact hv) ?_
  exact fin_keep hh
def bRkIx (iO : Nat) : Ss := (.cons (.ret (.call iO (.cons (.var 0) .nil)))
    .nil)
theorem rkix_spec {P : Nat → Option Fn} {G : Nat → Option D} {n i iO iF : Nat} {p : List Nat} {M : MH} {Q : D → MH → Prop} {R : Xc → MH → Prop} (hP : P i = some ⟨1, 1, bRkIx iO⟩) (hO : P iO = some ⟨1, 6, bOrdI iF⟩) (hF : P iF = some ⟨1, 3, bFac⟩) (hl : p.length ≤ 100) (h : Q (.int (idxN p : Nat)) M) : callN P G (n + 3) i [.tup (nD p)] M Q R := by
  rw [callN]
  simp only [hP, bRkIx, wpB, wpS, wpE, wpEs, wpO, wpT, wpI, rd, optI, List.map, List.replicate, List.cons_append, List.nil_append, List.append_eq, List.length_cons, List.length_nil, Tg.put, Tgs.put, Tg.own, Tgs.own, wipeE, true_and, Bool.false_eq_true, if_false, if_true, vw_int', vw_bl', vw_lst', vw_tup', vw_non', vw_str', ix0, ix1, ix2, e_add, e_sub, e_mul, e_fdiv, e_mod, e_pow, e_lt, e_le, e_gt, e_ge, e_isB, mkL_f, mkL_t, List.getElem?_cons_zero, List.getElem?_cons_succ, List.set_cons_zero, List.set_cons_succ]
  exact ordi_spec (n := n) hO hF (.inl rfl) hl (fin_keep h)
def bAll3 : Ss := (.cons (.asg (.nm 1) (.lst false (.cons (.tup .nil) .nil)))
    (.cons (.for (.nm 2) (.rng (.var 0)) (.cons (.asg (.nm 3) (.lst true .nil))
    (.cons (.for (.nm 4) (.ex (.var 1)) (.cons (.exp (.mth .extend (.var 3) (.cons (.lc false (.bin .add (.var 4) (.tup (.cons (.var 5) .nil))) (.nm 5) (.rng (.var 0)) (.som (.cmp .nin (.var 5) (.var 4)))) .nil)))
    .nil))
    (.cons (.asg (.nm 1) (.var 3))
    .nil))))
    (.cons (.ret (.var 1))
    .nil)))
def nxtA (d : Nat) (r : List Nat) : List (List Nat) := ((List.range d).filter fun x => !r.contains x).map fun x => r ++ [x]
theorem all3_spec {P : Nat → Option Fn} {G : Nat → Option D} {n i d : Nat} {M : MH} {Q : D → MH → Prop} {R : Xc → MH → Prop} (hP : P i = some ⟨1, 6, bAll3⟩) (hd : d ≤ 5) (h : Q (.lst (rD (allN d d))) M) : callN P G (n + 1) i [.int (d : Int)] M Q R := by
  have hsz := sizeLine_eq
  rw [callN]
  simp only [hP, bAll3, wpB, wpS, wpE, wpEs, wpO, wpT, wpI, rd, optI, List.map, List.replicate, List.cons_append, List.nil_append, List.append_eq, List.length_cons, List.length_nil, Tg.put, Tgs.put, Tg.own, Tgs.own, wipeE, true_and, Bool.false_eq_true, if_false, if_true, vw_int', vw_bl', vw_lst', vw_tup', vw_non', vw_str', ix0, ix1, ix2, e_add, e_sub, e_mul, e_fdiv, e_mod, e_pow, e_lt, e_le, e_gt, e_ge, e_isB, mkL_f, mkL_t, List.getElem?_cons_zero, List.getElem?_cons_succ, List.set_cons_zero, List.set_cons_succ, sz0, sz1, sz2, sz3, sz4, sz5, sz6, sz7, sz8, cp12, cp59, true_and, and_true]
  refine ⟨by omega, by omega, ?_⟩
  have hml : ∀ j, j ≤ 5 → (allN d j).length ≤ 200 := fun j hj => all_len d (by omega) j (by omega)
  refine wpF_inv (fun j ρ M' => ∃ v2 x3 x4 x5 x6, ρ = [some (.int (d : Int)), some v2, x3, x4, x5, x6] ∧ (v2 = .lst (rD (allN d j)) ∨ ∃ c, v2 = .ref c ∧ M c = none ∧ M' c = some (.lst (rD (allN d j)))) ∧ Ke M M') _ (fun _ _ _ _ => trivial) ?_ ?_ ⟨_, _, _, _, _, rfl, .inl rfl, .refl M⟩
  · rintro j y ρ M1 kk hy ⟨v2, x3, x4, x5, x6, rfl, hv, ke⟩ next
    have hj : j < d := by
      have := (List.getElem?_eq_some_iff.mp hy).1
      rw [List.length_map, List.length_range] at this
      omega
    have hl1 := hml (j + 1) (by omega)
    try simp only [wpB, wpS, wpE, wpEs, wpO, wpT, wpI, rd, optI, List.map, List.replicate, List.cons_append, List.nil_append, List.append_eq, List.length_cons, List.length_nil, Tg.put, Tgs.put, Tg.own, Tgs.own, wipeE, true_and, Bool.false_eq_true, if_false, if_true, vw_int', vw_bl', vw_lst', vw_tup', vw_non', vw_str', ix0, ix1, ix2, e_add, e_sub, e_mul, e_fdiv, e_mod, e_pow, e_lt, e_le, e_gt, e_ge, e_isB, mkL_f, mkL_t, List.getElem?_cons_zero, List.getElem?_cons_succ, List.set_cons_zero, List.set_cons_succ]
    refine fun c hc => ?_
    have hcM : M c = none := by
      cases e : M c with
      | none => rfl
      | some w => rw [ke c w e] at hc; cases hc
    have its : ∀ {M' : MH} {k : List D → (MH → Prop) → Prop}, (∀ c', v2 = .ref c' → M' c' = M1 c') → (∀ Gd : MH → Prop, (Gd = (fun _ => True) ∨ ∃ c', v2 = .ref c' ∧ Gd = fun M'' => M'' c' = some (.lst (rD (allN d j)))) → k (rD (allN d j)) Gd) → itsD M' v2 k := fun {M' k} hh q => by
      rcases hv with rfl | ⟨c', rfl, _, e⟩
      · exact q _ (.inl rfl)
      · have := hh c' rfl
        simp only [itsD, this, e]
        exact q _ (.inr ⟨c', rfl, rfl⟩)
    have hne : ∀ c', v2 = .ref c' → c' ≠ c := fun c' e z => by
      rcases hv with h | ⟨c'', h, _, h2⟩
      · rw [h] at e; cases e
      · rw [h] at e; cases e; rw [z, hc] at h2; cases h2
    refine its (fun c' e => MH.set_ne (hne c' e)) fun Gd hGd => ?_
    have hG0 : ∀ (t : Nat) (ρ : En) (M' : MH), (∃ x5 x6, ρ = [some (.int (d : Int)), some v2, some y, some (.ref c), x5, x6] ∧ M' c = some (.lst (rD (((allN d j).take t).flatMap (nxtA d)))) ∧ (∀ c', v2 = .ref c' → M' c' = M1 c') ∧ Ke M M') → Gd M' := by
      rintro t ρ M' ⟨_, _, _, _, hh, _⟩
      rcases hGd with rfl | ⟨c', e, rfl⟩
      · trivial
      · show M' c' = _
        rw [hh c' e]
        rcases hv with h | ⟨c'', h, _, h2⟩
        · rw [h] at e; cases e
        · rw [h] at e; cases e; exact h2
    refine wpF_inv (fun t ρ M' => ∃ x5 x6, ρ = [some (.int (d : Int)), some v2, some y, some (.ref c), x5, x6] ∧ M' c = some (.lst (rD (((allN d j).take t).flatMap (nxtA d)))) ∧ (∀ c', v2 = .ref c' → M' c' = M1 c') ∧ Ke M M') _ hG0 ?_ ?_ ⟨_, _, rfl, MH.set_same, fun c' e => MH.set_ne (hne c' e), ke.put hcM⟩
    · rintro t z ρ M2 k' hz ⟨x5, x6, rfl, hM2, hh, ke2⟩ next2
      obtain ⟨ms, hms, rfl⟩ : ∃ ms, (allN d j)[t]? = some ms ∧ z = .tup (nD ms) := by
        unfold rD at hz
        rw [List.getElem?_map, Option.map_eq_some_iff] at hz
        obtain ⟨r, h1, h2⟩ := hz
        exact ⟨r, h1, h2.symm⟩
      obtain ⟨ml, md⟩ := all_row (List.mem_of_getElem? hms)
      have hall : ((((allN d j).take t).flatMap (nxtA d)) ++ nxtA d ms).length ≤ 200 := by
        have e : ((allN d j).take (t + 1)).flatMap (nxtA d) = ((allN d j).take t).flatMap (nxtA d) ++ nxtA d ms := by rw [List.take_succ, hms, List.flatMap_append]; simp
        rw [← e]
        have h1 : (((allN d j).take (t + 1)).flatMap (nxtA d)).length ≤ (allN d (j + 1)).length := by
          show _ ≤ ((allN d j).flatMap (nxtA d)).length
          conv => rhs; rw [← List.take_append_drop (t + 1) (allN d j), List.flatMap_append, List.length_append]
          omega
        omega
      rw [List.length_append] at hall
      try simp only [wpB, wpS, wpE, wpEs, wpO, wpT, wpI, rd, optI, List.map, List.replicate, List.cons_append, List.nil_append, List.append_eq, List.length_cons, List.length_nil, Tg.put, Tgs.put, Tg.own, Tgs.own, wipeE, true_and, Bool.false_eq_true, if_false, if_true, vw_int', vw_bl', vw_lst', vw_tup', vw_non', vw_str', ix0, ix1, ix2, e_add, e_sub, e_mul, e_fdiv, e_mod, e_pow, e_lt, e_le, e_gt, e_ge, e_isB, mkL_f, mkL_t, List.getElem?_cons_zero, List.getElem?_cons_succ, List.set_cons_zero, List.set_cons_succ]
      refine ⟨ty_ext hM2, by omega, by omega, ?_⟩
      have en : ((d : Int)).toNat = d := Int.toNat_natCast _
      try rw [en]
      refine wpC_fil (fun k : Nat => D.int (0 + (k : Int))) (fun k : Nat => D.tup (nD (ms ++ [k]))) (fun k => !ms.contains k) trivial _ _ (fun acc k k' hk q => ?_) ?_
      · try simp only [wpB, wpS, wpE, wpEs, wpO, wpT, wpI, rd, optI, List.map, List.replicate, List.cons_append, List.nil_append, List.append_eq, List.length_cons, List.length_nil, Tg.put, Tgs.put, Tg.own, Tgs.own, wipeE, true_and, Bool.false_eq_true, if_false, if_true, vw_int', vw_bl', vw_lst', vw_tup', vw_non', vw_str', ix0, ix1, ix2, e_add, e_sub, e_mul, e_fdiv, e_mod, e_pow, e_lt, e_le, e_gt, e_ge, e_isB, mkL_f, mkL_t, List.getElem?_cons_zero, List.getElem?_cons_succ, List.set_cons_zero, List.set_cons_succ, Int.zero_add]
        refine nin_t ?_
        by_cases c : k ∈ ms
        · rw [if_neg (by simp [c])] at q
          exact iteF (by simp [c]) q
        · rw [if_pos (by simp [c])] at q
          refine iteT (by simp [c]) ?_
          try simp only [wpB, wpS, wpE, wpEs, wpO, wpT, wpI, rd, optI, List.map, List.replicate, List.cons_append, List.nil_append, List.append_eq, List.length_cons, List.length_nil, Tg.put, Tgs.put, Tg.own, Tgs.own, wipeE, true_and, Bool.false_eq_true, if_false, if_true, vw_int', vw_bl', vw_lst', vw_tup', vw_non', vw_str', ix0, ix1, ix2, e_add, e_sub, e_mul, e_fdiv, e_mod, e_pow, e_lt, e_le, e_gt, e_ge, e_isB, mkL_f, mkL_t, List.getElem?_cons_zero, List.getElem?_cons_succ, List.set_cons_zero, List.set_cons_succ, sz0, sz1, sz2, sz3, sz4, sz5, sz6, sz7, sz8, cp12, cp59, true_and, and_true, e_addT, nD_snoc]
          exact ⟨by rw [nD_len]; simp; omega, q⟩
      rw [List.nil_append]
      have e : (((List.range d).filter fun k => !ms.contains k).map fun k : Nat => D.tup (nD (ms ++ [k]))) = rD (nxtA d ms) := by
        unfold nxtA rD
        rw [List.map_map]; rfl
      rw [e]
      refine mt_ext' hM2 rfl (by rw [rD_len, rD_len]; omega) (next2 _ _ ⟨_, _, rfl, ?_, fun c' e => ?_, ke2.put hcM⟩)
      · rw [MH.set_same, rD_app, List.take_succ, hms, List.flatMap_append]
        simp
      · rw [MH.set_ne (hne c' e)]; exact hh c' e
    · rintro ρ M2 ⟨x5, x6, rfl, hM2, hh, ke2⟩
      rw [rD_len, List.take_length] at hM2
      try simp only [wpB, wpS, wpE, wpEs, wpO, wpT, wpI, rd, optI, List.map, List.replicate, List.cons_append, List.nil_append, List.append_eq, List.length_cons, List.length_nil, Tg.put, Tgs.put, Tg.own, Tgs.own, wipeE, true_and, Bool.false_eq_true, if_false, if_true, vw_int', vw_bl', vw_lst', vw_tup', vw_non', vw_str', ix0, ix1, ix2, e_add, e_sub, e_mul, e_fdiv, e_mod, e_pow, e_lt, e_le, e_gt, e_ge, e_isB, mkL_f, mkL_t, List.getElem?_cons_zero, List.getElem?_cons_succ, List.set_cons_zero, List.set_cons_succ]
      exact next _ _ ⟨_, _, _, _, _, rfl, .inr ⟨c, rfl, hcM, hM2⟩, ke2⟩
  · rintro ρ M1 ⟨v2, x3, x4, x5, x6, rfl, hv, ke⟩
    rw [List.length_map, List.length_range, Int.toNat_natCast] at hv
    try simp only [wpB, wpS, wpE, wpEs, wpO, wpT, wpI, rd, optI, List.map, List.replicate, List.cons_append, List.nil_append, List.append_eq, List.length_cons, List.length_nil, Tg.put, Tgs.put, Tg.own, Tgs.own, wipeE, true_and, Bool.false_eq_true, if_false, if_true, vw_int', vw_bl', vw_lst', vw_tup', vw_non', vw_str', ix0, ix1, ix2, e_add, e_sub, e_mul, e_fdiv, e_mod, e_pow, e_lt, e_le, e_gt, e_ge, e_isB, mkL_f, mkL_t, List.getElem?_cons_zero, List.getElem?_cons_succ, List.set_cons_zero, List.set_cons_succ]
    rcases hv with rfl | ⟨c, rfl, hc, e⟩
    · exact fin_old ke h
    · exact fin_frz ke hc e h
end T
set_option Elab.async false
set_option linter.all false
set_option maxRecDepth 100000
set_option maxHeartbeats 4000000
namespace T
open PySem PySem.Spec PyProof.Rows L2 HT
namespace Lk03
def N0 : List Str := [("value" : Str), ("low" : Str), ("high" : Str)]
def ps0 : List Str := ["value", "low", "high"]
/-- is_integer_in -/
def b0 : Ss := (.cons (.ret (.and (.isi (.var 0) [.int]) (.and (.not (.isi (.var 0) [.bool])) (.cmp2 .le (.var 1) (.var 0) .le (.var 2)))))
    .nil)
def f0 : Fn := ⟨3, 3, b0⟩
def N1 : List Str := [("number" : Str), ("result" : Str), ("factor" : Str)]
def ps1 : List Str := ["number"]
/-- factorial -/
def b1 : Ss := (.cons (.asg (.nm 1) (.int 1))
    (.cons (.for (.nm 2) (.rng2 (.int 2) (.bin .add (.var 0) (.int 1))) (.cons (.asg (.nm 1) (.bin .mul (.var 1) (.var 2)))
    .nil))
    (.cons (.ret (.var 1))
    .nil)))
def f1 : Fn := ⟨1, 3, b1⟩
def N2 : List Str := [("items" : Str), ("result" : Str), ("at" : Str), ("item" : Str), ("smaller" : Str), ("other" : Str)]
def ps2 : List Str := ["items"]
/-- order_index -/
def b2 : Ss := (.cons (.asg (.nm 1) (.int 0))
    (.cons (.for (.tp (.cons (.nm 2) (.cons (.nm 3) .nil))) (.enu (.var 0)) (.cons (.asg (.nm 4) (.bi false .len (.cons (.lc false (.var 5) (.nm 5) (.ex (.sl (.var 0) (.som (.bin .add (.var 2) (.int 1))) .non)) (.som (.cmp .lt (.var 5) (.var 3)))) .nil)))
    (.cons (.asg (.nm 1) (.bin .add (.var 1) (.bin .mul (.var 4) (.call 1 (.cons (.bin .sub (.bin .sub (.bi false .len (.cons (.var 0) .nil)) (.int 1)) (.var 2)) .nil)))))
    .nil)))
    (.cons (.ret (.var 1))
    .nil)))
def f2 : Fn := ⟨1, 6, b2⟩
def N3 : List Str := [("items" : Str), ("number" : Str), ("left" : Str), ("result" : Str), ("at" : Str)]
def ps3 : List Str := ["items", "number"]
/-- order_at -/
def b3 : Ss := (.cons (.par2 2 3 (.bi true .list (.cons (.var 0) .nil)) (.lst true .nil))
    (.cons (.whl (.cmp .ne (.var 2) (.lst false .nil)) (.cons (.asg (.tp (.cons (.nm 4) (.cons (.nm 1) .nil))) (.px false .dvm (.cons (.var 1) (.cons (.call 1 (.cons (.bin .sub (.bi false .len (.cons (.var 2) .nil)) (.int 1)) .nil)) .nil))))
    (.cons (.exp (.mth .append (.var 3) (.cons (.mth .pop (.var 2) (.cons (.var 4) .nil)) .nil)))
    .nil)))
    (.cons (.ret (.bi false .tuple (.cons (.var 3) .nil)))
    .nil)))
def f3 : Fn := ⟨2, 5, b3⟩
def N4 : List Str := [("ranking" : Str)]
def ps4 : List Str := ["ranking"]
/-- ranking_index -/
def b4 : Ss := (.cons (.ret (.call 2 (.cons (.var 0) .nil)))
    .nil)
def f4 : Fn := ⟨1, 1, b4⟩
def N5 : List Str := [("dishes" : Str), ("index" : Str)]
def ps5 : List Str := ["dishes", "index"]
/-- ranking_at -/
def b5 : Ss := (.cons (.iff (.not (.call 0 (.cons (.var 1) (.cons (.int 0) (.cons (.bin .sub (.call 1 (.cons (.var 0) .nil)) (.int 1)) .nil))))) (.cons (.rai "NoIndex" "index" (.var 1))
    .nil) .nil)
    (.cons (.ret (.call 3 (.cons (.bi false .listrange (.cons (.var 0) .nil)) (.cons (.var 1) .nil))))
    .nil))
def f5 : Fn := ⟨2, 2, b5⟩
def N6 : List Str := [("_law_script" : Str), ("_law_cells" : Str), ("_law_cell" : Str)]
def ps6 : List Str := ["_law_script"]
/-- _law_deck -/
def b6 : Ss := (.cons (.asg (.nm 1) (.lc false (.bi false .abs (.cons (.var 2) .nil)) (.nm 2) (.ex (.var 0)) .non))
    (.cons (.ret (.lst true (.cons (.lc true (.var 2) (.nm 2) (.ex (.var 1)) (.som (.cmp .ge (.var 2) (.bin .pow (.int 10) (.int 18))))) (.cons (.bin .add (.var 1) (.lst false (.cons (.bin .add (.bi false .len (.cons (.var 1) .nil)) (.int 5)) .nil))) (.cons (.int 0) .nil)))))
    .nil))
def f6 : Fn := ⟨1, 3, b6⟩
def N7 : List Str := [("_law_deck_here" : Str), ("_law_many" : Str), ("_law_cell" : Str), ("_law_mixed" : Str), ("_law_rest" : Str)]
def ps7 : List Str := ["_law_deck_here", "_law_many"]
/-- _law_next -/
def b7 : Ss := (.cons (.whl (.cmp .ne (.idx (.var 0) (.int 0)) (.lst false .nil)) (.cons (.asg (.nm 4) (.idx (.idx (.var 0) (.int 0)) (.int 0)))
    (.cons (.iff (.cmp .gt (.var 4) (.int 0)) (.cons (.sto (.idx (.var 0) (.int 0)) (.int 0) (.bin .fdiv (.var 4) (.var 1)))
    (.cons (.ret (.bin .mod (.var 4) (.var 1)))
    .nil)) .nil)
    (.cons (.exp (.mth .pop (.idx (.var 0) (.int 0)) (.cons (.int 0) .nil)))
    .nil))))
    (.cons (.sto (.var 0) (.int 2) (.bin .add (.idx (.var 0) (.int 2)) (.int 1)))
    (.cons (.asg (.nm 2) (.bin .mod (.idx (.idx (.var 0) (.int 1)) (.bin .mod (.idx (.var 0) (.int 2)) (.bi false .len (.cons (.idx (.var 0) (.int 1)) .nil)))) (.int 2147483647)))
    (.cons (.asg (.nm 3) (.bin .add (.bin .add (.bin .mul (.var 2) (.bin .add (.int 69621) (.bin .mul (.int 48271) (.idx (.var 0) (.int 2))))) (.bin .mul (.bin .mul (.int 30011) (.idx (.var 0) (.int 2))) (.idx (.var 0) (.int 2)))) (.int 47)))
    (.cons (.asg (.nm 3) (.bin .mod (.var 3) (.int 2147483629)))
    (.cons (.ret (.bin .mod (.bin .fdiv (.bin .mod (.bin .mul (.var 3) (.var 3)) (.int 2147483587)) (.int 16)) (.var 1)))
    .nil))))))
def f7 : Fn := ⟨2, 5, b7⟩
def N8 : List Str := [("_law_deck_here" : Str), ("_law_some" : Str)]
def ps8 : List Str := ["_law_deck_here", "_law_some"]
/-- _law_one -/
def b8 : Ss := (.cons (.ret (.idx (.var 1) (.call 7 (.cons (.var 0) (.cons (.bi false .len (.cons (.var 1) .nil)) .nil)))))
    .nil)
def f8 : Fn := ⟨2, 2, b8⟩
def N9 : List Str := [("_law_found" : Str), ("_law_due" : Str), ("_law_k" : Str)]
def ps9 : List Str := ["_law_found", "_law_due"]
/-- _law_same -/
def b9 : Ss := (.cons (.iff (.isi (.var 1) [.tuple, .list]) (.cons (.iff (.cmp .ne (.isi (.var 0) [.tuple]) (.isi (.var 1) [.tuple])) (.cons (.ret (.bl false))
    .nil) .nil)
    (.cons (.iff (.cmp .ne (.isi (.var 0) [.list]) (.isi (.var 1) [.list])) (.cons (.ret (.bl false))
    .nil) .nil)
    (.cons (.iff (.cmp .ne (.bi false .len (.cons (.var 0) .nil)) (.bi false .len (.cons (.var 1) .nil))) (.cons (.ret (.bl false))
    .nil) .nil)
    (.cons (.ret (.cmp .eq (.lc false (.var 2) (.nm 2) (.rng (.bi false .len (.cons (.var 1) .nil))) (.som (.not (.call 9 (.cons (.idx (.var 0) (.var 2)) (.cons (.idx (.var 1) (.var 2)) .nil)))))) (.lst false .nil)))
    .nil)))) .nil)
    (.cons (.iff (.isi (.var 1) [.dict]) (.cons (.ret (.and (.isi (.var 0) [.dict]) (.cmp .eq (.var 0) (.var 1))))
    .nil) .nil)
    (.cons (.iff (.cmp .is (.var 1) .non) (.cons (.ret (.cmp .is (.var 0) .non))
    .nil) .nil)
    (.cons (.iff (.isi (.var 1) [.str]) (.cons (.ret (.and (.isi (.var 0) [.str]) (.cmp .eq (.var 0) (.var 1))))
    .nil) .nil)
    (.cons (.ret (.and (.isi (.var 0) [.int]) (.and (.cmp .eq (.isi (.var 0) [.bool]) (.isi (.var 1) [.bool])) (.cmp .eq (.var 0) (.var 1)))))
    .nil)))))
def f9 : Fn := ⟨2, 3, b9⟩
def N10 : List Str := [("_law_thing" : Str)]
def ps10 : List Str := ["_law_thing"]
/-- _law_whole -/
def b10 : Ss := (.cons (.ret (.and (.isi (.var 0) [.int]) (.not (.isi (.var 0) [.bool]))))
    .nil)
def f10 : Fn := ⟨1, 1, b10⟩
def N11 : List Str := [("_law_deck_here" : Str), ("_law_some" : Str)]
def ps11 : List Str := ["_law_deck_here"]
/-- _law_odd -/
def b11 : Ss := (.cons (.asg (.nm 1) (.lst false (.cons .non (.cons (.bl true) (.cons (.bl false) (.cons (.int 0) (.cons (.int 1) (.cons (.neg (.int 1)) (.cons (.int 2) (.cons (.int 8) (.cons (.int 16) (.cons (.bin .pow (.int 10) (.int 12)) (.cons (.bin .add (.bin .pow (.int 10) (.int 12)) (.int 1)) (.cons (.bin .pow (.int 10) (.int 59)) (.cons (.str "") (.cons (.str "0") (.cons (.str "triple") (.cons (.tup .nil) (.cons (.tup (.cons (.int 0) .nil)) .nil)))))))))))))))))))
    (.cons (.ret (.idx (.bin .add (.var 1) (.lst false (.cons (.tup (.cons (.int 0) (.cons (.int 1) .nil))) (.cons (.lst false .nil) (.cons (.px false (.dct0 false) .nil) (.cons (.lst false (.cons (.int 0) .nil)) (.cons (.tup (.cons (.bl true) .nil)) (.cons (.tup (.cons (.tup .nil) .nil)) .nil)))))))) (.call 7 (.cons (.var 0) (.cons (.int 23) .nil)))))
    .nil))
def f11 : Fn := ⟨1, 2, b11⟩
def N12 : List Str := [("_law_deck_here" : Str), ("_law_dishes" : Str), ("_law_left" : Str), ("_law_found" : Str)]
def ps12 : List Str := ["_law_deck_here", "_law_dishes"]
/-- _law_list -/
def b12 : Ss := (.cons (.par2 2 3 (.bi true .listrange (.cons (.var 1) .nil)) (.lst true .nil))
    (.cons (.whl (.cmp .ne (.var 2) (.lst false .nil)) (.cons (.exp (.mth .append (.var 3) (.cons (.mth .pop (.var 2) (.cons (.call 7 (.cons (.var 0) (.cons (.bi false .len (.cons (.var 2) .nil)) .nil))) .nil)) .nil)))
    .nil))
    (.cons (.ret (.bi false .tuple (.cons (.var 3) .nil)))
    .nil)))
def f12 : Fn := ⟨2, 4, b12⟩
def N13 : List Str := [("_law_dishes" : Str), ("_law_found" : Str), ("_law_turn" : Str), ("_law_longer" : Str), ("_law_row" : Str), ("_law_dish" : Str)]
def ps13 : List Str := ["_law_dishes"]
/-- _law_all -/
def b13 : Ss := (.cons (.asg (.nm 1) (.lst false (.cons (.tup .nil) .nil)))
    (.cons (.for (.nm 2) (.rng (.var 0)) (.cons (.asg (.nm 3) (.lst true .nil))
    (.cons (.for (.nm 4) (.ex (.var 1)) (.cons (.exp (.mth .extend (.var 3) (.cons (.lc false (.bin .add (.var 4) (.tup (.cons (.var 5) .nil))) (.nm 5) (.rng (.var 0)) (.som (.cmp .nin (.var 5) (.var 4)))) .nil)))
    .nil))
    (.cons (.asg (.nm 1) (.var 3))
    .nil))))
    (.cons (.ret (.var 1))
    .nil)))
def f13 : Fn := ⟨1, 6, b13⟩
def N14 : List Str := [("_law_dishes" : Str), ("_law_thing" : Str), ("_law_found" : Str), ("error" : Str)]
def ps14 : List Str := ["_law_dishes", "_law_thing"]
/-- _law_raised -/
def b14 : Ss := (.cons (.asg (.nm 2) .non)
    (.cons (.tryE (.cons (.asg (.nm 2) (.lst false (.cons (.str "ranking") (.cons (.call 5 (.cons (.var 0) (.cons (.var 1) .nil))) .nil))))
    .nil) "TasteError" 3 (.cons (.iff (.and (.isE (.var 3) false ["NoIndex"]) (.not (.isE (.var 3) true ["NoRanking", "NotSeatable"]))) (.cons (.asg (.nm 2) (.lst false (.cons (.str "index") (.cons (.fldE (.var 3) "index") .nil))))
    .nil) .nil)
    .nil))
    (.cons (.ret (.var 2))
    .nil)))
def f14 : Fn := ⟨2, 4, b14⟩
def N15 : List Str := [("_law_script" : Str), ("_law_deck_here" : Str), ("_law_dishes" : Str), ("_law_rows" : Str), ("_law_thing" : Str), ("_law_turn" : Str), ("_law_number" : Str), ("_law_row" : Str), ("_law_one_here" : Str), ("_law_other" : Str), ("_law_first" : Str), ("_law_second" : Str)]
def ps15 : List Str := ["_law_script"]
/-- law -/
def b15 : Ss := (.cons (.asg (.nm 1) (.call 6 (.cons (.var 0) .nil)))
    (.cons (.asg (.nm 2) (.bin .add (.int 1) (.call 7 (.cons (.var 1) (.cons (.int 5) .nil)))))
    (.cons (.asg (.nm 3) (.call 13 (.cons (.var 2) .nil)))
    (.cons (.for (.tp (.cons (.nm 6) (.cons (.nm 7) .nil))) (.enu (.var 3)) (.cons (.iff (.not (.call 9 (.cons (.lst false (.cons (.call 4 (.cons (.var 7) .nil)) (.cons (.call 5 (.cons (.var 2) (.cons (.var 6) .nil))) .nil))) (.cons (.lst false (.cons (.var 6) (.cons (.var 7) .nil))) .nil)))) (.cons (.ret (.bl false))
    .nil) .nil)
    .nil))
    (.cons (.for (.nm 4) (.ex (.lst false (.cons (.bi false .len (.cons (.var 3) .nil)) (.cons (.neg (.int 1)) (.cons (.call 11 (.cons (.var 1) .nil)) (.cons (.call 11 (.cons (.var 1) .nil)) (.cons (.bi false .str (.cons (.call 7 (.cons (.var 1) (.cons (.int 9) .nil))) .nil)) .nil))))))) (.cons (.iff (.or (.not (.call 10 (.cons (.var 4) .nil))) (.not (.cmp2 .le (.int 0) (.var 4) .lt (.bi false .len (.cons (.var 3) .nil))))) (.cons (.iff (.cmp .ne (.bi false .repr (.cons (.call 14 (.cons (.var 2) (.cons (.var 4) .nil))) .nil)) (.bi false .repr (.cons (.lst false (.cons (.str "index") (.cons (.var 4) .nil))) .nil))) (.cons (.ret (.bl false))
    .nil) .nil)
    .nil) .nil)
    .nil))
    (.cons (.for (.nm 5) (.rng (.int 12)) (.cons (.asg (.nm 2) (.bin .add (.int 1) (.call 7 (.cons (.var 1) (.cons (.int 8) .nil)))))
    (.cons (.par2 8 9 (.call 12 (.cons (.var 1) (.cons (.var 2) .nil))) (.call 12 (.cons (.var 1) (.cons (.var 2) .nil))))
    (.cons (.par2 10 11 (.call 4 (.cons (.var 8) .nil)) (.call 4 (.cons (.var 9) .nil)))
    (.cons (.iff (.not (.call 9 (.cons (.lst false (.cons (.call 5 (.cons (.var 2) (.cons (.var 10) .nil))) (.cons (.call 5 (.cons (.var 2) (.cons (.var 11) .nil))) .nil))) (.cons (.lst false (.cons (.var 8) (.cons (.var 9) .nil))) .nil)))) (.cons (.ret (.bl false))
    .nil) .nil)
    (.cons (.iff (.cmp .ne (.cmp .lt (.var 10) (.var 11)) (.px false .ltT (.cons (.var 8) (.cons (.var 9) .nil)))) (.cons (.ret (.bl false))
    .nil) .nil)
    .nil))))))
    (.cons (.ret (.bl true))
    .nil)))))))
def f15 : Fn := ⟨1, 12, b15⟩
def fns : List Fn := [f0, f1, f2, f3, f4, f5, f6, f7, f8, f9, f10, f11, f12, f13, f14, f15]
def nms : List (Option Str) := [some ("is_integer_in" : Str), some ("factorial" : Str), some ("order_index" : Str), some ("order_at" : Str), some ("ranking_index" : Str), some ("ranking_at" : Str), some ("_law_deck" : Str), some ("_law_next" : Str), some ("_law_one" : Str), some ("_law_same" : Str), some ("_law_whole" : Str), some ("_law_odd" : Str), some ("_law_list" : Str), some ("_law_all" : Str), some ("_law_raised" : Str), some ("law" : Str)]
def hms : List (Option Str) := [none, none, none, none, none, none, none, none, none, none, none, none, none, none, none, none]
def xcs : List (Str × Option Str) := [("NoRanking", some "ranking"), ("NoIndex", some "index"), ("NotSeatable", some "obstruction")]
def PF : Nat → Option Fn := fun i => fns[i]?
def gnm : List Str := []
def gvl : List D := []
def GF : Nat → Option D := fun i => gvl[i]?
def tb : Tb := ⟨fun i => (nms[i]?).join, fun i => gnm[i]?, xcs, false, fun i => (hms[i]?).join, false⟩
end Lk03
end T
set_option Elab.async false
set_option linter.all false
set_option maxRecDepth 100000
set_option maxHeartbeats 2000000
namespace T
open PySem PySem.Spec PyProof.Rows L2 HT
theorem str9 : ∀ t : Nat, t < 9 → okv 0 (.str (toString (t : Int))) = true := by decide +kernel
theorem str_i {m : Bool} {i : Int} {M : MH} {Q : D → MH → Prop} (h : i.natAbs.log2 < 1920) (q : Q (.str (toString i)) M) : biD m .str [.int i] M Q := ⟨h, q⟩
namespace Lk03
def bL' : Ss := (.cons (.asg (.nm 1) (.call 6 (.cons (.var 0) .nil)))
    (.cons (.asg (.nm 2) (.bin .add (.int 1) (.call 7 (.cons (.var 1) (.cons (.int 5) .nil)))))
    (.cons (.asg (.nm 3) (.call 13 (.cons (.var 2) .nil)))
    (.cons (.for (.tp (.cons (.nm 6) (.cons (.nm 7) .nil))) (.enu (.var 3)) (.cons (.iff (.not (.call 9 (.cons (.lst false (.cons (.call 4 (.cons (.var 7) .nil)) (.cons (.call 5 (.cons (.var 2) (.cons (.var 6) .nil))) .nil))) (.cons (.lst false (.cons (.var 6) (.cons (.var 7) .nil))) .nil)))) (.cons (.ret (.bl false))
    .nil) .nil)
    .nil))
    (.cons (.for (.nm 4) (.ex (.lst false (.cons (.bi false .len (.cons (.var 3) .nil)) (.cons (.neg (.int 1)) (.cons (.call 11 (.cons (.var 1) .nil)) (.cons (.call 11 (.cons (.var 1) .nil)) (.cons (.bi false .str (.cons (.call 7 (.cons (.var 1) (.cons (.int 9) .nil))) .nil)) .nil))))))) (.cons (.iff (.or (.not (.call 10 (.cons (.var 4) .nil))) (.not (.cmp2 .le (.int 0) (.var 4) .lt (.bi false .len (.cons (.var 3) .nil))))) (.cons (.iff (.cmp .ne (.bi false .repr (.cons (.call 14 (.cons (.var 2) (.cons (.var 4) .nil))) .nil)) (.bi false .repr (.cons (.lst false (.cons (.str "index") (.cons (.var 4) .nil))) .nil))) (.cons (.ret (.bl false))
    .nil) .nil)
    .nil) .nil)
    .nil))
    (.cons (.for (.nm 5) (.rng (.int 12)) (.cons (.asg (.nm 2) (.bin .add (.int 1) (.call 7 (.cons (.var 1) (.cons (.int 8) .nil)))))
    (.cons (.par2 8 9 (.call 12 (.cons (.var 1) (.cons (.var 2) .nil))) (.call 12 (.cons (.var 1) (.cons (.var 2) .nil))))
    (.cons (.par2 10 11 (.call 4 (.cons (.var 8) .nil)) (.call 4 (.cons (.var 9) .nil)))
    (.cons (.iff (.not (.call 9 (.cons (.lst false (.cons (.call 5 (.cons (.var 2) (.cons (.var 10) .nil))) (.cons (.call 5 (.cons (.var 2) (.cons (.var 11) .nil))) .nil))) (.cons (.lst false (.cons (.var 8) (.cons (.var 9) .nil))) .nil)))) (.cons (.ret (.bl false))
    .nil) .nil)
    (.cons (.iff (.cmp .ne (.cmp .lt (.var 10) (.var 11)) (.px false .ltT (.cons (.var 8) (.cons (.var 9) .nil)))) (.cons (.ret (.bl false))
    .nil) .nil)
    .nil))))))
    (.cons (.ret (.bl true))
    .nil)))))))
structure Fs (P : Nat → Option Fn) : Prop where
  p_is_integer_in : P 0 = some ⟨3, 3, bIntIn⟩
  p_factorial : P 1 = some ⟨1, 3, bFac⟩
  p_order_index : P 2 = some ⟨1, 6, bOrdI 1⟩
  p_order_at : P 3 = some ⟨2, 5, bOrdA 1⟩
  p_ranking_index : P 4 = some ⟨1, 1, bRkIx 2⟩
  p_ranking_at : P 5 = some ⟨2, 2, bRkAt 0 1 3⟩
  l_deck : P 6 = some ⟨1, 3, bDeck⟩
  l_next : P 7 = some ⟨2, 5, bNext⟩
  l_one : P 8 = some ⟨2, 2, bOne 7⟩
  l_same : P 9 = some ⟨2, 3, bSame 9⟩
  l_whole : P 10 = some ⟨1, 1, bWhole⟩
  l_odd : P 11 = some ⟨1, 2, bOdd 7⟩
  l_list : P 12 = some ⟨2, 4, bList 7⟩
  l_all : P 13 = some ⟨1, 6, bAll3⟩
  l_raised : P 14 = some ⟨2, 4, b14⟩
theorem fs : Fs PF := ⟨rfl, rfl, rfl, rfl, rfl, rfl, rfl, rfl, rfl, rfl, rfl, rfl, rfl, rfl, rfl⟩
theorem raised03 {P : Nat → Option Fn} {G : Nat → Option D} {n d : Nat} {x : D} {nn w k : Nat} {M : MH} {Q : D → MH → Prop} {R : Xc → MH → Prop} (F : Fs P) (hd : d ≤ 16) (vx : Vl nn w k x) (hn : inR 0 (((facN d : Nat) : Int) - 1) x = false) (h : Q (.lst [.str "index", x]) M) : callN P G (n + 4) 14 [.int (d : Int), x] M Q R := by
  have hsz := sizeLine_eq
  rw [callN]
  simp only [F.l_raised, b14, wpB, wpS, wpE, wpEs, wpO, wpT, wpI, rd, optI, List.map, List.replicate, List.cons_append, List.nil_append, List.append_eq, List.length_cons, List.length_nil, Tg.put, Tgs.put, Tg.own, Tgs.own, wipeE, true_and, Bool.false_eq_true, if_false, if_true, vw_int', vw_bl', vw_lst', vw_tup', vw_non', vw_str', ix0, ix1, ix2, e_add, e_sub, e_mul, e_fdiv, e_mod, e_pow, e_lt, e_le, e_gt, e_ge, e_isB, mkL_f, mkL_t, List.getElem?_cons_zero, List.getElem?_cons_succ, List.set_cons_zero, List.set_cons_succ]
  refine rkat_spec (n := n) F.p_ranking_at F.p_is_integer_in F.p_factorial F.p_order_at hd vx (fun v e hv => ?_) (fun _ => ?_)
  · exfalso
    rw [e] at hn
    simp only [inR, Bool.and_eq_false_iff, decide_eq_false_iff_not] at hn
    omega
  refine iteT subTE fun a ha => ?_
  have s0 : subX "NoIndex" "NoIndex" = true := by decide +kernel
  have s1 : subX "NoIndex" "NoRanking" = false := by decide +kernel
  have s2 : subX "NoIndex" "NotSeatable" = false := by decide +kernel
  simp only [wpB, wpS, wpE, wpEs, wpO, wpT, wpI, rd, optI, List.map, List.replicate, List.cons_append, List.nil_append, List.append_eq, List.length_cons, List.length_nil, Tg.put, Tgs.put, Tg.own, Tgs.own, wipeE, true_and, Bool.false_eq_true, if_false, if_true, vw_int', vw_bl', vw_lst', vw_tup', vw_non', vw_str', ix0, ix1, ix2, e_add, e_sub, e_mul, e_fdiv, e_mod, e_pow, e_lt, e_le, e_gt, e_ge, e_isB, mkL_f, mkL_t, List.getElem?_cons_zero, List.getElem?_cons_succ, List.set_cons_zero, List.set_cons_succ, sz0, sz1, sz2, sz3, sz4, sz5, sz6, sz7, sz8, cp12, cp59, true_and, and_true, excAt_hot, List.any_cons, List.any_nil, s0, s1, s2, Bool.or_false, Bool.or_true]
  refine iteT rfl ?_
  exact ⟨rfl, fin_keep h⟩
theorem plain (ns : List Int) (h : ns.length ≤ 63) : callN PF GF (14 + 1) 15 [.scr ns] (fun _ => none) (fun d _ => d = .bl true) (fun _ _ => False) := by
  have hsz := sizeLine_eq
  have F := fs
  have hL : PF 15 = some ⟨1, 12, bL'⟩ := rfl
  rw [callN]
  simp only [hL, bL', wpB, wpS, wpE, wpEs, wpO, wpT, wpI, rd, optI, List.map, List.replicate, List.cons_append, List.nil_append, List.append_eq, List.length_cons, List.length_nil, Tg.put, Tgs.put, Tg.own, Tgs.own, wipeE, true_and, Bool.false_eq_true, if_false, if_true, vw_int', vw_bl', vw_lst', vw_tup', vw_non', vw_str', ix0, ix1, ix2, e_add, e_sub, e_mul, e_fdiv, e_mod, e_pow, e_lt, e_le, e_gt, e_ge, e_isB, mkL_f, mkL_t, List.getElem?_cons_zero, List.getElem?_cons_succ, List.set_cons_zero, List.set_cons_succ]
  refine deck_spec (P := PF) (i := 6) rfl h fun a b cs M dk => ?_
  try simp only [wpB, wpS, wpE, wpEs, wpO, wpT, wpI, rd, optI, List.map, List.replicate, List.cons_append, List.nil_append, List.append_eq, List.length_cons, List.length_nil, Tg.put, Tgs.put, Tg.own, Tgs.own, wipeE, true_and, Bool.false_eq_true, if_false, if_true, vw_int', vw_bl', vw_lst', vw_tup', vw_non', vw_str', ix0, ix1, ix2, e_add, e_sub, e_mul, e_fdiv, e_mod, e_pow, e_lt, e_le, e_gt, e_ge, e_isB, mkL_f, mkL_t, List.getElem?_cons_zero, List.getElem?_cons_succ, List.set_cons_zero, List.set_cons_succ]
  refine next_spec (n := 13) F.l_next dk (by omega) ⟨by omega, by omega⟩ fun r M1 r0 r1 dk1 fr1 => ?_
  try simp only [wpB, wpS, wpE, wpEs, wpO, wpT, wpI, rd, optI, List.map, List.replicate, List.cons_append, List.nil_append, List.append_eq, List.length_cons, List.length_nil, Tg.put, Tgs.put, Tg.own, Tgs.own, wipeE, true_and, Bool.false_eq_true, if_false, if_true, vw_int', vw_bl', vw_lst', vw_tup', vw_non', vw_str', ix0, ix1, ix2, e_add, e_sub, e_mul, e_fdiv, e_mod, e_pow, e_lt, e_le, e_gt, e_ge, e_isB, mkL_f, mkL_t, List.getElem?_cons_zero, List.getElem?_cons_succ, List.set_cons_zero, List.set_cons_succ]
  obtain ⟨d, hd, hd1, hd5⟩ : ∃ d : Nat, 1 + r = (d : Int) ∧ 1 ≤ d ∧ d ≤ 5 := ⟨(1 + r).toNat, by omega, by omega, by omega⟩
  rw [hd]
  refine all3_spec (n := 13) F.l_all hd5 ?_
  have aok := all_ok5 d hd1 hd5
  unfold all_ok at aok
  rw [Bool.and_eq_true] at aok
  obtain ⟨alen, aall⟩ := aok
  have alen : (allN d d).length = facN d := by simpa using alen
  rw [List.all_eq_true] at aall
  have arow : ∀ (k : Nat) (r : List Nat), (allN d d)[k]? = some r → idxN r = k ∧ atF d (List.range d) k = r ∧ r.length = d := fun k r hr => by
    have hm : (r, k) ∈ (allN d d).zipIdx := by
      rw [List.mem_zipIdx_iff_getElem?]; exact hr
    have := aall _ hm
    simp only [Bool.and_eq_true, beq_iff_eq] at this
    exact this
  have hall := all_len d (by omega) d (by omega)
  try simp only [wpB, wpS, wpE, wpEs, wpO, wpT, wpI, rd, optI, List.map, List.replicate, List.cons_append, List.nil_append, List.append_eq, List.length_cons, List.length_nil, Tg.put, Tgs.put, Tg.own, Tgs.own, wipeE, true_and, Bool.false_eq_true, if_false, if_true, vw_int', vw_bl', vw_lst', vw_tup', vw_non', vw_str', ix0, ix1, ix2, e_add, e_sub, e_mul, e_fdiv, e_mod, e_pow, e_lt, e_le, e_gt, e_ge, e_isB, mkL_f, mkL_t, List.getElem?_cons_zero, List.getElem?_cons_succ, List.set_cons_zero, List.set_cons_succ, itsD]
  refine ⟨by rw [rD_len]; omega, ?_⟩
  refine wpF_inv (fun j ρ M' => M' = M1 ∧ ∃ x4 x5 x6 x7 x8 x9 x10 x11, ρ = [some (.scr ns), some (.ref a), some (.int (d : Int)), some (.lst (rD (allN d d))), x4, x5, x6, x7, x8, x9, x10, x11]) _ (fun _ _ _ _ => trivial) ?_ ?_ ⟨rfl, none, none, none, none, none, none, none, none, rfl⟩
  · rintro j y ρ M2 kk hy ⟨rfl, x4, x5, x6, x7, x8, x9, x10, x11, rfl⟩ next
    obtain ⟨r, hr, rfl⟩ : ∃ r, (allN d d)[j]? = some r ∧ y = .tup [.int (j : Int), .tup (nD r)] := by
      rw [List.getElem?_map, Option.map_eq_some_iff] at hy
      obtain ⟨q, h1, rfl⟩ := hy
      rw [List.getElem?_zipIdx, Option.map_eq_some_iff] at h1
      obtain ⟨w, h2, rfl⟩ := h1
      unfold rD at h2
      rw [List.getElem?_map, Option.map_eq_some_iff] at h2
      obtain ⟨u, h3, rfl⟩ := h2
      exact ⟨u, h3, by simp⟩
    obtain ⟨r1', r2', r3'⟩ := arow j r hr
    have hjl := (List.getElem?_eq_some_iff.mp hr).1
    try simp only [wpB, wpS, wpE, wpEs, wpO, wpT, wpI, rd, optI, List.map, List.replicate, List.cons_append, List.nil_append, List.append_eq, List.length_cons, List.length_nil, Tg.put, Tgs.put, Tg.own, Tgs.own, wipeE, true_and, Bool.false_eq_true, if_false, if_true, vw_int', vw_bl', vw_lst', vw_tup', vw_non', vw_str', ix0, ix1, ix2, e_add, e_sub, e_mul, e_fdiv, e_mod, e_pow, e_lt, e_le, e_gt, e_ge, e_isB, mkL_f, mkL_t, List.getElem?_cons_zero, List.getElem?_cons_succ, List.set_cons_zero, List.set_cons_succ]
    refine rkix_spec (n := 11) F.p_ranking_index F.p_order_index F.p_factorial (by omega) ?_
    try simp only [wpB, wpS, wpE, wpEs, wpO, wpT, wpI, rd, optI, List.map, List.replicate, List.cons_append, List.nil_append, List.append_eq, List.length_cons, List.length_nil, Tg.put, Tgs.put, Tg.own, Tgs.own, wipeE, true_and, Bool.false_eq_true, if_false, if_true, vw_int', vw_bl', vw_lst', vw_tup', vw_non', vw_str', ix0, ix1, ix2, e_add, e_sub, e_mul, e_fdiv, e_mod, e_pow, e_lt, e_le, e_gt, e_ge, e_isB, mkL_f, mkL_t, List.getElem?_cons_zero, List.getElem?_cons_succ, List.set_cons_zero, List.set_cons_succ]
    refine rkat_spec (n := 11) F.p_ranking_at F.p_is_integer_in F.p_factorial F.p_order_at (by omega) (vl_small (by omega)) (fun v e hv => ?_) (fun hn => ?_)
    · have e' : (j : Int) = (v : Int) := by injection e
      obtain rfl : j = v := by omega
      rw [r1', r2']
      simp only [wpB, wpS, wpE, wpEs, wpO, wpT, wpI, rd, optI, List.map, List.replicate, List.cons_append, List.nil_append, List.append_eq, List.length_cons, List.length_nil, Tg.put, Tgs.put, Tg.own, Tgs.own, wipeE, true_and, Bool.false_eq_true, if_false, if_true, vw_int', vw_bl', vw_lst', vw_tup', vw_non', vw_str', ix0, ix1, ix2, e_add, e_sub, e_mul, e_fdiv, e_mod, e_pow, e_lt, e_le, e_gt, e_ge, e_isB, mkL_f, mkL_t, List.getElem?_cons_zero, List.getElem?_cons_succ, List.set_cons_zero, List.set_cons_succ, sz0, sz1, sz2, sz3, sz4, sz5, sz6, sz7, sz8, cp12, cp59, true_and, and_true]
      refine same_spec F.l_same 14 (.lst [.int (j : Int), .tup (nD r)]) _ _ _ ?_ ?_ ?_
      · show ((true && ((okds (nD r) && decide ((nD r).length ≤ 16777215)) && true)) && _) = true
        have oks : okds (nD r) = true := okds_of fun e he => by
          obtain ⟨t, ht⟩ := List.mem_iff_getElem?.mp he
          obtain ⟨z, _, rfl⟩ := nD_mem ht
          rfl
        rw [oks, decide_eq_true (by rw [nD_len]; omega)]; rfl
      · show max 0 (max (depths (nD r) + 1) 0) + 1 < 14
        have : depths (nD r) = 0 := depths_ints _
        omega
      simp only [wpB, wpS, wpE, wpEs, wpO, wpT, wpI, rd, optI, List.map, List.replicate, List.cons_append, List.nil_append, List.append_eq, List.length_cons, List.length_nil, Tg.put, Tgs.put, Tg.own, Tgs.own, wipeE, true_and, Bool.false_eq_true, if_false, if_true, vw_int', vw_bl', vw_lst', vw_tup', vw_non', vw_str', ix0, ix1, ix2, e_add, e_sub, e_mul, e_fdiv, e_mod, e_pow, e_lt, e_le, e_gt, e_ge, e_isB, mkL_f, mkL_t, List.getElem?_cons_zero, List.getElem?_cons_succ, List.set_cons_zero, List.set_cons_succ, Bool.not_true]
      exact next _ _ ⟨rfl, _, _, _, _, _, _, _, _, rfl⟩
    · exfalso
      simp only [inR, Bool.and_eq_false_iff, decide_eq_false_iff_not] at hn
      omega
  rintro ρ M2 ⟨rfl, x4, x5, x6, x7, x8, x9, x10, x11, rfl⟩
  try simp only [wpB, wpS, wpE, wpEs, wpO, wpT, wpI, rd, optI, List.map, List.replicate, List.cons_append, List.nil_append, List.append_eq, List.length_cons, List.length_nil, Tg.put, Tgs.put, Tg.own, Tgs.own, wipeE, true_and, Bool.false_eq_true, if_false, if_true, vw_int', vw_bl', vw_lst', vw_tup', vw_non', vw_str', ix0, ix1, ix2, e_add, e_sub, e_mul, e_fdiv, e_mod, e_pow, e_lt, e_le, e_gt, e_ge, e_isB, mkL_f, mkL_t, List.getElem?_cons_zero, List.getElem?_cons_succ, List.set_cons_zero, List.set_cons_succ]
  refine len_l rfl ?_
  rw [rD_len, alen]
  try simp only [wpB, wpS, wpE, wpEs, wpO, wpT, wpI, rd, optI, List.map, List.replicate, List.cons_append, List.nil_append, List.append_eq, List.length_cons, List.length_nil, Tg.put, Tgs.put, Tg.own, Tgs.own, wipeE, true_and, Bool.false_eq_true, if_false, if_true, vw_int', vw_bl', vw_lst', vw_tup', vw_non', vw_str', ix0, ix1, ix2, e_add, e_sub, e_mul, e_fdiv, e_mod, e_pow, e_lt, e_le, e_gt, e_ge, e_isB, mkL_f, mkL_t, List.getElem?_cons_zero, List.getElem?_cons_succ, List.set_cons_zero, List.set_cons_succ, sz0, sz1, sz2, sz3, sz4, sz5, sz6, sz7, sz8, cp12, cp59, true_and, and_true]
  refine odd_spec (n := 12) F.l_odd F.l_next dk1 (by omega) fun o1 M3 vo1 dk3 fr3 => ?_
  try simp only [wpB, wpS, wpE, wpEs, wpO, wpT, wpI, rd, optI, List.map, List.replicate, List.cons_append, List.nil_append, List.append_eq, List.length_cons, List.length_nil, Tg.put, Tgs.put, Tg.own, Tgs.own, wipeE, true_and, Bool.false_eq_true, if_false, if_true, vw_int', vw_bl', vw_lst', vw_tup', vw_non', vw_str', ix0, ix1, ix2, e_add, e_sub, e_mul, e_fdiv, e_mod, e_pow, e_lt, e_le, e_gt, e_ge, e_isB, mkL_f, mkL_t, List.getElem?_cons_zero, List.getElem?_cons_succ, List.set_cons_zero, List.set_cons_succ, sz0, sz1, sz2, sz3, sz4, sz5, sz6, sz7, sz8, cp12, cp59, true_and, and_true]
  refine odd_spec (n := 12) F.l_odd F.l_next dk3 (by omega) fun o2 M4 vo2 dk4 fr4 => ?_
  try simp only [wpB, wpS, wpE, wpEs, wpO, wpT, wpI, rd, optI, List.map, List.replicate, List.cons_append, List.nil_append, List.append_eq, List.length_cons, List.length_nil, Tg.put, Tgs.put, Tg.own, Tgs.own, wipeE, true_and, Bool.false_eq_true, if_false, if_true, vw_int', vw_bl', vw_lst', vw_tup', vw_non', vw_str', ix0, ix1, ix2, e_add, e_sub, e_mul, e_fdiv, e_mod, e_pow, e_lt, e_le, e_gt, e_ge, e_isB, mkL_f, mkL_t, List.getElem?_cons_zero, List.getElem?_cons_succ, List.set_cons_zero, List.set_cons_succ, sz0, sz1, sz2, sz3, sz4, sz5, sz6, sz7, sz8, cp12, cp59, true_and, and_true]
  refine next_spec (n := 13) F.l_next dk4 (by omega) ⟨by omega, by omega⟩ fun q M5 q0 q1 dk5 fr5 => ?_
  obtain ⟨t, rfl, ht⟩ : ∃ t : Nat, q = (t : Int) ∧ t < 9 := ⟨q.toNat, by omega, by omega⟩
  have hstr := str9 t ht
  refine str_i ?_ ?_
  · have : ((t : Int)).natAbs = t := rfl
    rw [this]
    have h2 : ∀ t, t < 9 → Nat.log2 t < 1920 := by decide
    exact h2 t ht
  generalize toString (t : Int) = st at hstr
  try simp only [wpB, wpS, wpE, wpEs, wpO, wpT, wpI, rd, optI, List.map, List.replicate, List.cons_append, List.nil_append, List.append_eq, List.length_cons, List.length_nil, Tg.put, Tgs.put, Tg.own, Tgs.own, wipeE, true_and, Bool.false_eq_true, if_false, if_true, vw_int', vw_bl', vw_lst', vw_tup', vw_non', vw_str', ix0, ix1, ix2, e_add, e_sub, e_mul, e_fdiv, e_mod, e_pow, e_lt, e_le, e_gt, e_ge, e_isB, mkL_f, mkL_t, List.getElem?_cons_zero, List.getElem?_cons_succ, List.set_cons_zero, List.set_cons_succ, sz0, sz1, sz2, sz3, sz4, sz5, sz6, sz7, sz8, cp12, cp59, true_and, and_true, itsD]
  generalize hLL : D.int ((facN d : Nat) : Int) :: D.int (-1) :: o1 :: o2 :: D.str st :: [] = LL
  have hall : ∀ y ∈ LL, Vl 200 20 3 y := by
    rw [← hLL]
    intro y hy
    simp only [List.mem_cons, List.not_mem_nil, or_false] at hy
    rcases hy with rfl | rfl | rfl | rfl | rfl
    · exact (vl_small (by omega)).mono (by omega) (by omega) (by omega)
    · exact (vl_small (i := -1) (by decide)).mono (by omega) (by omega) (by omega)
    · exact vo1.mono (by omega) (by omega) (by omega)
    · exact vo2.mono (by omega) (by omega) (by omega)
    · exact ⟨by
        have := hstr
        exact this, by show 1 ≤ 20; omega, by show 0 ≤ 3; omega⟩
  clear hLL
  refine wpF_inv (fun j ρ M' => M' = M5 ∧ ∃ x4 x5 x6 x7 x8 x9 x10 x11, ρ = [some (.scr ns), some (.ref a), some (.int (d : Int)), some (.lst (rD (allN d d))), x4, x5, x6, x7, x8, x9, x10, x11]) LL (fun _ _ _ _ => trivial) ?_ ?_ ⟨rfl, _, _, _, _, _, _, _, _, rfl⟩
  · rintro j y ρ M6 kk hy ⟨rfl, x4, x5, x6, x7, x8, x9, x10, x11, rfl⟩ next'
    have vy := hall y (List.mem_of_getElem? hy)
    have vw' := vl_word (s := "index") (nn := 200) (by decide +kernel) vy
    have nk : inR 0 (((facN d : Nat) : Int) - 1) y = false → callN PF GF 14 14 [.int (d : Int), y] M6 (fun e M1 => biD false .repr [e] M1 fun x2 M2 => biD false .repr [.lst [.str "index", y]] M2 fun y2 M3 => cmpD .ne (vw M3 x2) (vw M3 y2) fun b => if b = true then Fin (.bl false) M3 (fun d _ => d = .bl true) else kk [some (.scr ns), some (.ref a), some (.int (d : Int)), some (.lst (rD (allN d d))), some y, x5, x6, x7, x8, x9, x10, x11] M3) (fun _ _ => False) := fun hn => by
      refine raised03 (n := 10) F (by omega) vy hn ?_
      refine reprT vw' (by omega) (by omega) (by omega) ?_
      refine reprT vw' (by omega) (by omega) (by omega) ?_
      refine neStrs' ?_
      rw [decide_eq_true rfl]
      exact iteF rfl (next' _ _ ⟨rfl, _, _, _, _, _, _, _, _, rfl⟩)
    try simp only [wpB, wpS, wpE, wpEs, wpO, wpT, wpI, rd, optI, List.map, List.replicate, List.cons_append, List.nil_append, List.append_eq, List.length_cons, List.length_nil, Tg.put, Tgs.put, Tg.own, Tgs.own, wipeE, true_and, Bool.false_eq_true, if_false, if_true, vw_int', vw_bl', vw_lst', vw_tup', vw_non', vw_str', ix0, ix1, ix2, e_add, e_sub, e_mul, e_fdiv, e_mod, e_pow, e_lt, e_le, e_gt, e_ge, e_isB, mkL_f, mkL_t, List.getElem?_cons_zero, List.getElem?_cons_succ, List.set_cons_zero, List.set_cons_succ, sz0, sz1, sz2, sz3, sz4, sz5, sz6, sz7, sz8, cp12, cp59, true_and, and_true, vy.vw]
    refine whole_spec (n := 13) F.l_whole vy ?_
    by_cases hwh : y.wh = true
    · obtain ⟨z, rfl⟩ := wh_int hwh
      simp only [D.wh, vw_int', vw_bl', vw_lst', vw_tup', vw_non', vw_str', ix0, ix1, ix2, e_add, e_sub, e_mul, e_fdiv, e_mod, e_pow, e_lt, e_le, e_gt, e_ge, e_isB, mkL_f, mkL_t, List.getElem?_cons_zero, List.getElem?_cons_succ, List.set_cons_zero, List.set_cons_succ, if_true]
      refine iteF rfl ?_
      by_cases c1 : (0 : Int) ≤ z
      · refine iteT (decide_eq_true c1) ?_
        refine len_l rfl ?_
        rw [rD_len, alen]
        simp only [vw_int', vw_bl', vw_lst', vw_tup', vw_non', vw_str', ix0, ix1, ix2, e_add, e_sub, e_mul, e_fdiv, e_mod, e_pow, e_lt, e_le, e_gt, e_ge, e_isB, mkL_f, mkL_t, List.getElem?_cons_zero, List.getElem?_cons_succ, List.set_cons_zero, List.set_cons_succ]
        by_cases c2 : z < ((facN d : Nat) : Int)
        · refine iteF (by rw [decide_eq_true c2]; rfl) ?_
          exact next' _ _ ⟨rfl, _, _, _, _, _, _, _, _, rfl⟩
        · refine iteT (by rw [decide_eq_false c2]; rfl) ?_
          exact nk (by simp only [inR, Bool.and_eq_false_iff, decide_eq_false_iff_not]; exact .inr (by omega))
      · refine iteF (decide_eq_false c1) (iteT rfl ?_)
        exact nk (by simp only [inR, Bool.and_eq_false_iff, decide_eq_false_iff_not]; exact .inl c1)
    · have hwh : y.wh = false := by simpa using hwh
      simp only [hwh, vw_int', vw_bl', vw_lst', vw_tup', vw_non', vw_str', ix0, ix1, ix2, e_add, e_sub, e_mul, e_fdiv, e_mod, e_pow, e_lt, e_le, e_gt, e_ge, e_isB, mkL_f, mkL_t, List.getElem?_cons_zero, List.getElem?_cons_succ, List.set_cons_zero, List.set_cons_succ, Bool.false_eq_true, if_false, Bool.not_false, if_true]
      exact nk (by
        cases y <;> first
          | rfl
          | cases hwh)
  rintro ρ M6 ⟨rfl, x4, x5, x6, x7, x8, x9, x10, x11, rfl⟩
  try simp only [wpB, wpS, wpE, wpEs, wpO, wpT, wpI, rd, optI, List.map, List.replicate, List.cons_append, List.nil_append, List.append_eq, List.length_cons, List.length_nil, Tg.put, Tgs.put, Tg.own, Tgs.own, wipeE, true_and, Bool.false_eq_true, if_false, if_true, vw_int', vw_bl', vw_lst', vw_tup', vw_non', vw_str', ix0, ix1, ix2, e_add, e_sub, e_mul, e_fdiv, e_mod, e_pow, e_lt, e_le, e_gt, e_ge, e_isB, mkL_f, mkL_t, List.getElem?_cons_zero, List.getElem?_cons_succ, List.set_cons_zero, List.set_cons_succ]
  refine ⟨by omega, by omega, ?_⟩
  refine wpF_inv (fun j ρ M' => (∃ x2 x4 x5 x6 x7 x8 x9 x10 x11, ρ = [some (.scr ns), some (.ref a), x2, some (.lst (rD (allN d d))), x4, x5, x6, x7, x8, x9, x10, x11]) ∧ Deck M' a b cs (100 + 100 * j)) _ (fun _ _ _ _ => trivial) ?_ ?_ ⟨⟨_, _, _, _, _, _, _, _, _, rfl⟩, dk5.mono (by omega)⟩
  · rintro j y ρ M7 kk hy ⟨⟨x2, x4, x5, x6, x7, x8, x9, x10, x11, rfl⟩, dk7⟩ next'
    have hj : j < 12 := by
      have := (List.getElem?_eq_some_iff.mp hy).1
      simpa using this
    try simp only [wpB, wpS, wpE, wpEs, wpO, wpT, wpI, rd, optI, List.map, List.replicate, List.cons_append, List.nil_append, List.append_eq, List.length_cons, List.length_nil, Tg.put, Tgs.put, Tg.own, Tgs.own, wipeE, true_and, Bool.false_eq_true, if_false, if_true, vw_int', vw_bl', vw_lst', vw_tup', vw_non', vw_str', ix0, ix1, ix2, e_add, e_sub, e_mul, e_fdiv, e_mod, e_pow, e_lt, e_le, e_gt, e_ge, e_isB, mkL_f, mkL_t, List.getElem?_cons_zero, List.getElem?_cons_succ, List.set_cons_zero, List.set_cons_succ]
    refine next_spec (n := 13) F.l_next dk7 (by omega) ⟨by omega, by omega⟩ fun r M8 r0 r1 dk8 fr8 => ?_
    try simp only [wpB, wpS, wpE, wpEs, wpO, wpT, wpI, rd, optI, List.map, List.replicate, List.cons_append, List.nil_append, List.append_eq, List.length_cons, List.length_nil, Tg.put, Tgs.put, Tg.own, Tgs.own, wipeE, true_and, Bool.false_eq_true, if_false, if_true, vw_int', vw_bl', vw_lst', vw_tup', vw_non', vw_str', ix0, ix1, ix2, e_add, e_sub, e_mul, e_fdiv, e_mod, e_pow, e_lt, e_le, e_gt, e_ge, e_isB, mkL_f, mkL_t, List.getElem?_cons_zero, List.getElem?_cons_succ, List.set_cons_zero, List.set_cons_succ]
    obtain ⟨e, he, he1, he8⟩ : ∃ e : Nat, 1 + r = (e : Int) ∧ 1 ≤ e ∧ e ≤ 8 := ⟨(1 + r).toNat, by omega, by omega, by omega⟩
    rw [he]
    refine list_spec (n := 12) F.l_list F.l_next dk8 (by omega) (by omega) fun p M9 hp dk9 fw9 => ?_
    try simp only [wpB, wpS, wpE, wpEs, wpO, wpT, wpI, rd, optI, List.map, List.replicate, List.cons_append, List.nil_append, List.append_eq, List.length_cons, List.length_nil, Tg.put, Tgs.put, Tg.own, Tgs.own, wipeE, true_and, Bool.false_eq_true, if_false, if_true, vw_int', vw_bl', vw_lst', vw_tup', vw_non', vw_str', ix0, ix1, ix2, e_add, e_sub, e_mul, e_fdiv, e_mod, e_pow, e_lt, e_le, e_gt, e_ge, e_isB, mkL_f, mkL_t, List.getElem?_cons_zero, List.getElem?_cons_succ, List.set_cons_zero, List.set_cons_succ]
    refine list_spec (n := 12) F.l_list F.l_next dk9 (by omega) (by omega) fun p' M10 hp' dk10 fw10 => ?_
    have lp : p.length = e := by rw [hp.length_eq, List.length_range]
    have lp' : p'.length = e := by rw [hp'.length_eq, List.length_range]
    try simp only [wpB, wpS, wpE, wpEs, wpO, wpT, wpI, rd, optI, List.map, List.replicate, List.cons_append, List.nil_append, List.append_eq, List.length_cons, List.length_nil, Tg.put, Tgs.put, Tg.own, Tgs.own, wipeE, true_and, Bool.false_eq_true, if_false, if_true, vw_int', vw_bl', vw_lst', vw_tup', vw_non', vw_str', ix0, ix1, ix2, e_add, e_sub, e_mul, e_fdiv, e_mod, e_pow, e_lt, e_le, e_gt, e_ge, e_isB, mkL_f, mkL_t, List.getElem?_cons_zero, List.getElem?_cons_succ, List.set_cons_zero, List.set_cons_succ]
    refine rkix_spec (n := 11) F.p_ranking_index F.p_order_index F.p_factorial (by omega) ?_
    try simp only [wpB, wpS, wpE, wpEs, wpO, wpT, wpI, rd, optI, List.map, List.replicate, List.cons_append, List.nil_append, List.append_eq, List.length_cons, List.length_nil, Tg.put, Tgs.put, Tg.own, Tgs.own, wipeE, true_and, Bool.false_eq_true, if_false, if_true, vw_int', vw_bl', vw_lst', vw_tup', vw_non', vw_str', ix0, ix1, ix2, e_add, e_sub, e_mul, e_fdiv, e_mod, e_pow, e_lt, e_le, e_gt, e_ge, e_isB, mkL_f, mkL_t, List.getElem?_cons_zero, List.getElem?_cons_succ, List.set_cons_zero, List.set_cons_succ]
    refine rkix_spec (n := 11) F.p_ranking_index F.p_order_index F.p_factorial (by omega) ?_
    try simp only [wpB, wpS, wpE, wpEs, wpO, wpT, wpI, rd, optI, List.map, List.replicate, List.cons_append, List.nil_append, List.append_eq, List.length_cons, List.length_nil, Tg.put, Tgs.put, Tg.own, Tgs.own, wipeE, true_and, Bool.false_eq_true, if_false, if_true, vw_int', vw_bl', vw_lst', vw_tup', vw_non', vw_str', ix0, ix1, ix2, e_add, e_sub, e_mul, e_fdiv, e_mod, e_pow, e_lt, e_le, e_gt, e_ge, e_isB, mkL_f, mkL_t, List.getElem?_cons_zero, List.getElem?_cons_succ, List.set_cons_zero, List.set_cons_succ]
    have fl : ∀ {q : List Nat}, q.length = e → idxN q < facN e := fun {q} hq => by rw [← hq]; exact idxN_lt q
    have fle : facN e ≤ facN 8 := facN_le he8
    have f8 : facN 8 = 40320 := by decide
    have aa : ∀ {q : List Nat}, q.Perm (List.range e) → q.length = e → atF e (List.range e) (idxN q) = q := fun {q} hq hl => by
      have := at_idx q (List.range e) List.pairwise_lt_range hq
      rw [hl] at this; exact this
    have g1 := fl lp
    have g2 := fl lp'
    refine rkat_spec (n := 11) F.p_ranking_at F.p_is_integer_in F.p_factorial F.p_order_at (by omega) (vl_small (by omega)) (fun v e1 hv => ?_) (fun hn => ?_)
    case refine_2 =>
      exfalso
      simp only [inR, Bool.and_eq_false_iff, decide_eq_false_iff_not] at hn
      omega
    have e1' : ((idxN p : Nat) : Int) = (v : Int) := by injection e1
    obtain rfl : v = idxN p := by omega
    rw [aa hp lp]
    try simp only [wpB, wpS, wpE, wpEs, wpO, wpT, wpI, rd, optI, List.map, List.replicate, List.cons_append, List.nil_append, List.append_eq, List.length_cons, List.length_nil, Tg.put, Tgs.put, Tg.own, Tgs.own, wipeE, true_and, Bool.false_eq_true, if_false, if_true, vw_int', vw_bl', vw_lst', vw_tup', vw_non', vw_str', ix0, ix1, ix2, e_add, e_sub, e_mul, e_fdiv, e_mod, e_pow, e_lt, e_le, e_gt, e_ge, e_isB, mkL_f, mkL_t, List.getElem?_cons_zero, List.getElem?_cons_succ, List.set_cons_zero, List.set_cons_succ]
    refine rkat_spec (n := 11) F.p_ranking_at F.p_is_integer_in F.p_factorial F.p_order_at (by omega) (vl_small (by omega)) (fun v e2 hv2 => ?_) (fun hn => ?_)
    case refine_2 =>
      exfalso
      simp only [inR, Bool.and_eq_false_iff, decide_eq_false_iff_not] at hn
      omega
    have e2' : ((idxN p' : Nat) : Int) = (v : Int) := by injection e2
    obtain rfl : v = idxN p' := by omega
    rw [aa hp' lp']
    try simp only [wpB, wpS, wpE, wpEs, wpO, wpT, wpI, rd, optI, List.map, List.replicate, List.cons_append, List.nil_append, List.append_eq, List.length_cons, List.length_nil, Tg.put, Tgs.put, Tg.own, Tgs.own, wipeE, true_and, Bool.false_eq_true, if_false, if_true, vw_int', vw_bl', vw_lst', vw_tup', vw_non', vw_str', ix0, ix1, ix2, e_add, e_sub, e_mul, e_fdiv, e_mod, e_pow, e_lt, e_le, e_gt, e_ge, e_isB, mkL_f, mkL_t, List.getElem?_cons_zero, List.getElem?_cons_succ, List.set_cons_zero, List.set_cons_succ, sz0, sz1, sz2, sz3, sz4, sz5, sz6, sz7, sz8, cp12, cp59, true_and, and_true]
    have oks : ∀ r : List Nat, okds (nD r) = true := fun r => okds_of fun e he => by
      obtain ⟨t, ht⟩ := List.mem_iff_getElem?.mp he
      obtain ⟨z, _, rfl⟩ := nD_mem ht
      rfl
    refine same_spec F.l_same 14 (.lst [.tup (nD p), .tup (nD p')]) _ _ _ ?_ ?_ ?_
    · show (((okds (nD p) && decide ((nD p).length ≤ 16777215)) && ((okds (nD p') && decide ((nD p').length ≤ 16777215)) && true)) && _) = true
      rw [oks, oks, decide_eq_true (by rw [nD_len]; omega), decide_eq_true (by rw [nD_len]; omega)]; rfl
    · show max (depths (nD p) + 1) (max (depths (nD p') + 1) 0) + 1 < 14
      have : depths (nD p) = 0 := depths_ints _
      have : depths (nD p') = 0 := depths_ints _
      omega
    have i1 : ∀ q : List Nat, ints? (nD q) = some (q.map fun k : Nat => (k : Int)) := fun q => ints_map _
    have e3 : decide (((idxN p : Nat) : Int) < ((idxN p' : Nat) : Int)) = decide ((p.map fun k : Nat => (k : Int)) < (p'.map fun k : Nat => (k : Int))) := by
      rw [← lexN_int, ← idx_lex p p' (hp.trans hp'.symm)]
      exact decide_eq_decide.mpr (by omega)
    try simp only [vw_int', vw_bl', vw_lst', vw_tup', vw_non', vw_str', ix0, ix1, ix2, e_add, e_sub, e_mul, e_fdiv, e_mod, e_pow, e_lt, e_le, e_gt, e_ge, e_isB, mkL_f, mkL_t, List.getElem?_cons_zero, List.getElem?_cons_succ, List.set_cons_zero, List.set_cons_succ, Bool.not_true, pxD, i1, e3, Bool.false_eq_true, if_false]
    refine cmpne_blb ?_
    exact iteF (by simp) (next' _ _ ⟨⟨_, _, _, _, _, _, _, _, _, rfl⟩, dk10.mono (by omega)⟩)
  · rintro ρ M7 ⟨⟨x2, x4, x5, x6, x7, x8, x9, x10, x11, rfl⟩, dk7⟩
    exact fin_keep rfl
end Lk03
end T
set_option Elab.async false
set_option linter.all false
set_option maxRecDepth 100000
set_option maxHeartbeats 0
namespace T
open PySem PySem.Spec PyProof.Rows L2 HT
namespace Lk03
def top (i : Nat) : Stmt := PySem.Challenge.pw_tasterow_k03_rankings_numbered.main.body.getD i (.Pass ⟨0, 0, 0, 0⟩)
def dd (i : Nat) (x : Str) : He.DefD := ⟨(x, none), x, x, defArgs (top i), defBody (top i), defScope (top i), [], []⟩
def mm (i j : Nat) : Stmt := clsStmt j (top i)
def di (i j : Nat) (x q : Str) : He.DefD := ⟨(x, some "__init__"), "__init__", q, defArgs (mm i j), defBody (mm i j), defScope (mm i j), [], []⟩
def fn : List He.DefD := [dd 6 "is_integer_in", dd 8 "factorial", dd 9 "order_index", dd 10 "order_at", dd 11 "ranking_index", dd 12 "ranking_at", dd 14 "_law_deck", dd 15 "_law_next", dd 16 "_law_one", dd 17 "_law_same", dd 18 "_law_whole", dd 19 "_law_odd", dd 20 "_law_list", dd 21 "_law_all", dd 22 "_law_raised", dd 23 "law", di 2 0 "NoRanking" "NoRanking.__init__", di 3 0 "NoIndex" "NoIndex.__init__", di 4 0 "NotSeatable" "NotSeatable.__init__"]
def fa : List He.Fa := [.glo "is_integer_in", .glo "factorial", .glo "order_index", .glo "order_at", .glo "ranking_index", .glo "ranking_at", .glo "_law_deck", .glo "_law_next", .glo "_law_one", .glo "_law_same", .glo "_law_whole", .glo "_law_odd", .glo "_law_list", .glo "_law_all", .glo "_law_raised", .glo "law", .free "len", .free "abs", .free "all", .free "any", .free "sum", .free "min", .free "max", .free "sorted", .free "tuple", .free "list", .free "int", .free "str", .free "repr", .free "divmod", .free "set", .free "dict", .free "range", .free "enumerate", .free "zip", .free "isinstance", .free "bool", .free "ValueError"]
def loose : List Str := [("TasteError" : Str), ("NoRanking" : Str), ("NoIndex" : Str), ("NotSeatable" : Str), ("is_integer_in" : Str), ("factorial" : Str), ("order_index" : Str), ("order_at" : Str), ("ranking_index" : Str), ("ranking_at" : Str), ("_law_deck" : Str), ("_law_next" : Str), ("_law_one" : Str), ("_law_same" : Str), ("_law_whole" : Str), ("_law_odd" : Str), ("_law_list" : Str), ("_law_all" : Str), ("_law_raised" : Str)]
abbrev R : PySem.W.OpenRow := PySem.W.OpenLaw.row PySem.Challenge.rw_tasterow_k03_rankings_numbered
abbrev hk : PySem.W.Hook := hookX 6 fa fn xcs
def ob (s : PySem.W.SharedT) : Bool × He.AlD := obsXG 6 fa fn xcs (HandSHeadRun.getT s)
theorem ob_eq (s : PySem.W.SharedT) : ob s = hk.obs s.abs := obsXG_eq (HandSHeadRun.getT_eq s)
theorem run (w : World) : HandSHeadRun.RunEq R (PySem.W.view R.prog [23]) hk ob 40000 loose w := by
  intro os
  kernel_rfl
theorem sc0 : FnScope N0 ps0 (defScope (top 6)) := ⟨by decide +kernel, by decide +kernel, by decide +kernel, by decide +kernel, by decide +kernel, by decide +kernel, by decide +kernel⟩
theorem ck0 : ckB tb N0 (defScope (top 6)) b0 (defBody (top 6)) = true := by decide +kernel
theorem ok0 {K : PySem.W.Frag} {h : Heap} {mg : Str → Option Value} (X : K.In h) (G : h.Ns mainGlobals mg) (c : He.SaysD fa fn K) : DefOK PF tb K mg 0 "is_integer_in" := by
  obtain ⟨fd, F⟩ := c.def_ 0 (d := dd 6 "is_integer_in") rfl
  exact ⟨_, fd, N0, ps0, f0, _, _, _, _, _, He.glo_ok X G (c.fact 0 (f := .glo "is_integer_in") rfl), F, F.bindsN (fun _ _ _ _ _ _ us hl => match us, hl with | [_, _, _], _ => rfl), sc0, rfl, rfl, rfl, ck0⟩
theorem sc1 : FnScope N1 ps1 (defScope (top 8)) := ⟨by decide +kernel, by decide +kernel, by decide +kernel, by decide +kernel, by decide +kernel, by decide +kernel, by decide +kernel⟩
theorem ck1 : ckB tb N1 (defScope (top 8)) b1 (defBody (top 8)) = true := by decide +kernel
theorem ok1 {K : PySem.W.Frag} {h : Heap} {mg : Str → Option Value} (X : K.In h) (G : h.Ns mainGlobals mg) (c : He.SaysD fa fn K) : DefOK PF tb K mg 1 "factorial" := by
  obtain ⟨fd, F⟩ := c.def_ 1 (d := dd 8 "factorial") rfl
  exact ⟨_, fd, N1, ps1, f1, _, _, _, _, _, He.glo_ok X G (c.fact 1 (f := .glo "factorial") rfl), F, F.bindsN (fun _ _ _ _ _ _ us hl => match us, hl with | [_], _ => rfl), sc1, rfl, rfl, rfl, ck1⟩
theorem sc2 : FnScope N2 ps2 (defScope (top 9)) := ⟨by decide +kernel, by decide +kernel, by decide +kernel, by decide +kernel, by decide +kernel, by decide +kernel, by decide +kernel⟩
theorem ck2 : ckB tb N2 (defScope (top 9)) b2 (defBody (top 9)) = true := by decide +kernel
theorem ok2 {K : PySem.W.Frag} {h : Heap} {mg : Str → Option Value} (X : K.In h) (G : h.Ns mainGlobals mg) (c : He.SaysD fa fn K) : DefOK PF tb K mg 2 "order_index" := by
  obtain ⟨fd, F⟩ := c.def_ 2 (d := dd 9 "order_index") rfl
  exact ⟨_, fd, N2, ps2, f2, _, _, _, _, _, He.glo_ok X G (c.fact 2 (f := .glo "order_index") rfl), F, F.bindsN (fun _ _ _ _ _ _ us hl => match us, hl with | [_], _ => rfl), sc2, rfl, rfl, rfl, ck2⟩
theorem sc3 : FnScope N3 ps3 (defScope (top 10)) := ⟨by decide +kernel, by decide +kernel, by decide +kernel, by decide +kernel, by decide +kernel, by decide +kernel, by decide +kernel⟩
theorem ck3 : ckB tb N3 (defScope (top 10)) b3 (defBody (top 10)) = true := by decide +kernel
theorem ok3 {K : PySem.W.Frag} {h : Heap} {mg : Str → Option Value} (X : K.In h) (G : h.Ns mainGlobals mg) (c : He.SaysD fa fn K) : DefOK PF tb K mg 3 "order_at" := by
  obtain ⟨fd, F⟩ := c.def_ 3 (d := dd 10 "order_at") rfl
  exact ⟨_, fd, N3, ps3, f3, _, _, _, _, _, He.glo_ok X G (c.fact 3 (f := .glo "order_at") rfl), F, F.bindsN (fun _ _ _ _ _ _ us hl => match us, hl with | [_, _], _ => rfl), sc3, rfl, rfl, rfl, ck3⟩
theorem sc4 : FnScope N4 ps4 (defScope (top 11)) := ⟨by decide +kernel, by decide +kernel, by decide +kernel, by decide +kernel, by decide +kernel, by decide +kernel, by decide +kernel⟩
theorem ck4 : ckB tb N4 (defScope (top 11)) b4 (defBody (top 11)) = true := by decide +kernel
theorem ok4 {K : PySem.W.Frag} {h : Heap} {mg : Str → Option Value} (X : K.In h) (G : h.Ns mainGlobals mg) (c : He.SaysD fa fn K) : DefOK PF tb K mg 4 "ranking_index" := by
  obtain ⟨fd, F⟩ := c.def_ 4 (d := dd 11 "ranking_index") rfl
  exact ⟨_, fd, N4, ps4, f4, _, _, _, _, _, He.glo_ok X G (c.fact 4 (f := .glo "ranking_index") rfl), F, F.bindsN (fun _ _ _ _ _ _ us hl => match us, hl with | [_], _ => rfl), sc4, rfl, rfl, rfl, ck4⟩
theorem sc5 : FnScope N5 ps5 (defScope (top 12)) := ⟨by decide +kernel, by decide +kernel, by decide +kernel, by decide +kernel, by decide +kernel, by decide +kernel, by decide +kernel⟩
theorem ck5 : ckB tb N5 (defScope (top 12)) b5 (defBody (top 12)) = true := by decide +kernel
theorem ok5 {K : PySem.W.Frag} {h : Heap} {mg : Str → Option Value} (X : K.In h) (G : h.Ns mainGlobals mg) (c : He.SaysD fa fn K) : DefOK PF tb K mg 5 "ranking_at" := by
  obtain ⟨fd, F⟩ := c.def_ 5 (d := dd 12 "ranking_at") rfl
  exact ⟨_, fd, N5, ps5, f5, _, _, _, _, _, He.glo_ok X G (c.fact 5 (f := .glo "ranking_at") rfl), F, F.bindsN (fun _ _ _ _ _ _ us hl => match us, hl with | [_, _], _ => rfl), sc5, rfl, rfl, rfl, ck5⟩
theorem sc6 : FnScope N6 ps6 (defScope (top 14)) := ⟨by decide +kernel, by decide +kernel, by decide +kernel, by decide +kernel, by decide +kernel, by decide +kernel, by decide +kernel⟩
theorem ck6 : ckB tb N6 (defScope (top 14)) b6 (defBody (top 14)) = true := by decide +kernel
theorem ok6 {K : PySem.W.Frag} {h : Heap} {mg : Str → Option Value} (X : K.In h) (G : h.Ns mainGlobals mg) (c : He.SaysD fa fn K) : DefOK PF tb K mg 6 "_law_deck" := by
  obtain ⟨fd, F⟩ := c.def_ 6 (d := dd 14 "_law_deck") rfl
  exact ⟨_, fd, N6, ps6, f6, _, _, _, _, _, He.glo_ok X G (c.fact 6 (f := .glo "_law_deck") rfl), F, F.bindsN (fun _ _ _ _ _ _ us hl => match us, hl with | [_], _ => rfl), sc6, rfl, rfl, rfl, ck6⟩
theorem sc7 : FnScope N7 ps7 (defScope (top 15)) := ⟨by decide +kernel, by decide +kernel, by decide +kernel, by decide +kernel, by decide +kernel, by decide +kernel, by decide +kernel⟩
theorem ck7 : ckB tb N7 (defScope (top 15)) b7 (defBody (top 15)) = true := by decide +kernel
theorem ok7 {K : PySem.W.Frag} {h : Heap} {mg : Str → Option Value} (X : K.In h) (G : h.Ns mainGlobals mg) (c : He.SaysD fa fn K) : DefOK PF tb K mg 7 "_law_next" := by
  obtain ⟨fd, F⟩ := c.def_ 7 (d := dd 15 "_law_next") rfl
  exact ⟨_, fd, N7, ps7, f7, _, _, _, _, _, He.glo_ok X G (c.fact 7 (f := .glo "_law_next") rfl), F, F.bindsN (fun _ _ _ _ _ _ us hl => match us, hl with | [_, _], _ => rfl), sc7, rfl, rfl, rfl, ck7⟩
theorem sc8 : FnScope N8 ps8 (defScope (top 16)) := ⟨by decide +kernel, by decide +kernel, by decide +kernel, by decide +kernel, by decide +kernel, by decide +kernel, by decide +kernel⟩
theorem ck8 : ckB tb N8 (defScope (top 16)) b8 (defBody (top 16)) = true := by decide +kernel
theorem ok8 {K : PySem.W.Frag} {h : Heap} {mg : Str → Option Value} (X : K.In h) (G : h.Ns mainGlobals mg) (c : He.SaysD fa fn K) : DefOK PF tb K mg 8 "_law_one" := by
  obtain ⟨fd, F⟩ := c.def_ 8 (d := dd 16 "_law_one") rfl
  exact ⟨_, fd, N8, ps8, f8, _, _, _, _, _, He.glo_ok X G (c.fact 8 (f := .glo "_law_one") rfl), F, F.bindsN (fun _ _ _ _ _ _ us hl => match us, hl with | [_, _], _ => rfl), sc8, rfl, rfl, rfl, ck8⟩
theorem sc9 : FnScope N9 ps9 (defScope (top 17)) := ⟨by decide +kernel, by decide +kernel, by decide +kernel, by decide +kernel, by decide +kernel, by decide +kernel, by decide +kernel⟩
theorem ck9 : ckB tb N9 (defScope (top 17)) b9 (defBody (top 17)) = true := by decide +kernel
theorem ok9 {K : PySem.W.Frag} {h : Heap} {mg : Str → Option Value} (X : K.In h) (G : h.Ns mainGlobals mg) (c : He.SaysD fa fn K) : DefOK PF tb K mg 9 "_law_same" := by
  obtain ⟨fd, F⟩ := c.def_ 9 (d := dd 17 "_law_same") rfl
  exact ⟨_, fd, N9, ps9, f9, _, _, _, _, _, He.glo_ok X G (c.fact 9 (f := .glo "_law_same") rfl), F, F.bindsN (fun _ _ _ _ _ _ us hl => match us, hl with | [_, _], _ => rfl), sc9, rfl, rfl, rfl, ck9⟩
theorem sc10 : FnScope N10 ps10 (defScope (top 18)) := ⟨by decide +kernel, by decide +kernel, by decide +kernel, by decide +kernel, by decide +kernel, by decide +kernel, by decide +kernel⟩
theorem ck10 : ckB tb N10 (defScope (top 18)) b10 (defBody (top 18)) = true := by decide +kernel
theorem ok10 {K : PySem.W.Frag} {h : Heap} {mg : Str → Option Value} (X : K.In h) (G : h.Ns mainGlobals mg) (c : He.SaysD fa fn K) : DefOK PF tb K mg 10 "_law_whole" := by
  obtain ⟨fd, F⟩ := c.def_ 10 (d := dd 18 "_law_whole") rfl
  exact ⟨_, fd, N10, ps10, f10, _, _, _, _, _, He.glo_ok X G (c.fact 10 (f := .glo "_law_whole") rfl), F, F.bindsN (fun _ _ _ _ _ _ us hl => match us, hl with | [_], _ => rfl), sc10, rfl, rfl, rfl, ck10⟩
theorem sc11 : FnScope N11 ps11 (defScope (top 19)) := ⟨by decide +kernel, by decide +kernel, by decide +kernel, by decide +kernel, by decide +kernel, by decide +kernel, by decide +kernel⟩
theorem ck11 : ckB tb N11 (defScope (top 19)) b11 (defBody (top 19)) = true := by decide +kernel
theorem ok11 {K : PySem.W.Frag} {h : Heap} {mg : Str → Option Value} (X : K.In h) (G : h.Ns mainGlobals mg) (c : He.SaysD fa fn K) : DefOK PF tb K mg 11 "_law_odd" := by
  obtain ⟨fd, F⟩ := c.def_ 11 (d := dd 19 "_law_odd") rfl
  exact ⟨_, fd, N11, ps11, f11, _, _, _, _, _, He.glo_ok X G (c.fact 11 (f := .glo "_law_odd") rfl), F, F.bindsN (fun _ _ _ _ _ _ us hl => match us, hl with | [_], _ => rfl), sc11, rfl, rfl, rfl, ck11⟩
theorem sc12 : FnScope N12 ps12 (defScope (top 20)) := ⟨by decide +kernel, by decide +kernel, by decide +kernel, by decide +kernel, by decide +kernel, by decide +kernel, by decide +kernel⟩
theorem ck12 : ckB tb N12 (defScope (top 20)) b12 (defBody (top 20)) = true := by decide +kernel
theorem ok12 {K : PySem.W.Frag} {h : Heap} {mg : Str → Option Value} (X : K.In h) (G : h.Ns mainGlobals mg) (c : He.SaysD fa fn K) : DefOK PF tb K mg 12 "_law_list" := by
  obtain ⟨fd, F⟩ := c.def_ 12 (d := dd 20 "_law_list") rfl
  exact ⟨_, fd, N12, ps12, f12, _, _, _, _, _, He.glo_ok X G (c.fact 12 (f := .glo "_law_list") rfl), F, F.bindsN (fun _ _ _ _ _ _ us hl => match us, hl with | [_, _], _ => rfl), sc12, rfl, rfl, rfl, ck12⟩
theorem sc13 : FnScope N13 ps13 (defScope (top 21)) := ⟨by decide +kernel, by decide +kernel, by decide +kernel, by decide +kernel, by decide +kernel, by decide +kernel, by decide +kernel⟩
theorem ck13 : ckB tb N13 (defScope (top 21)) b13 (defBody (top 21)) = true := by decide +kernel
theorem ok13 {K : PySem.W.Frag} {h : Heap} {mg : Str → Option Value} (X : K.In h) (G : h.Ns mainGlobals mg) (c : He.SaysD fa fn K) : DefOK PF tb K mg 13 "_law_all" := by
  obtain ⟨fd, F⟩ := c.def_ 13 (d := dd 21 "_law_all") rfl
  exact ⟨_, fd, N13, ps13, f13, _, _, _, _, _, He.glo_ok X G (c.fact 13 (f := .glo "_law_all") rfl), F, F.bindsN (fun _ _ _ _ _ _ us hl => match us, hl with | [_], _ => rfl), sc13, rfl, rfl, rfl, ck13⟩
theorem sc14 : FnScope N14 ps14 (defScope (top 22)) := ⟨by decide +kernel, by decide +kernel, by decide +kernel, by decide +kernel, by decide +kernel, by decide +kernel, by decide +kernel⟩
theorem ck14 : ckB tb N14 (defScope (top 22)) b14 (defBody (top 22)) = true := by decide +kernel
theorem ok14 {K : PySem.W.Frag} {h : Heap} {mg : Str → Option Value} (X : K.In h) (G : h.Ns mainGlobals mg) (c : He.SaysD fa fn K) : DefOK PF tb K mg 14 "_law_raised" := by
  obtain ⟨fd, F⟩ := c.def_ 14 (d := dd 22 "_law_raised") rfl
  exact ⟨_, fd, N14, ps14, f14, _, _, _, _, _, He.glo_ok X G (c.fact 14 (f := .glo "_law_raised") rfl), F, F.bindsN (fun _ _ _ _ _ _ us hl => match us, hl with | [_, _], _ => rfl), sc14, rfl, rfl, rfl, ck14⟩
theorem sc15 : FnScope N15 ps15 (defScope (top 23)) := ⟨by decide +kernel, by decide +kernel, by decide +kernel, by decide +kernel, by decide +kernel, by decide +kernel, by decide +kernel⟩
theorem ck15 : ckB tb N15 (defScope (top 23)) b15 (defBody (top 23)) = true := by decide +kernel
theorem ok15 {K : PySem.W.Frag} {h : Heap} {mg : Str → Option Value} (X : K.In h) (G : h.Ns mainGlobals mg) (c : He.SaysD fa fn K) : DefOK PF tb K mg 15 "law" := by
  obtain ⟨fd, F⟩ := c.def_ 15 (d := dd 23 "law") rfl
  exact ⟨_, fd, N15, ps15, f15, _, _, _, _, _, He.glo_ok X G (c.fact 15 (f := .glo "law") rfl), F, F.bindsN (fun _ _ _ _ _ _ us hl => match us, hl with | [_], _ => rfl), sc15, rfl, rfl, rfl, ck15⟩
theorem blt {K : PySem.W.Frag} {h : Heap} {mg : Str → Option Value} (X : K.In h) (G : h.Ns mainGlobals mg) (c : He.SaysD fa fn K) : ∀ x ∈ bltNames, mg x = none := by
  intro x hx
  simp only [bltNames, List.mem_cons, List.not_mem_nil, or_false] at hx
  rcases hx with rfl | rfl | rfl | rfl | rfl | rfl | rfl | rfl | rfl | rfl | rfl | rfl | rfl | rfl | rfl | rfl | rfl | rfl | rfl | rfl | rfl | rfl
  · exact He.free_ok X G (c.fact 16 (f := .free "len") rfl)
  · exact He.free_ok X G (c.fact 17 (f := .free "abs") rfl)
  · exact He.free_ok X G (c.fact 18 (f := .free "all") rfl)
  · exact He.free_ok X G (c.fact 19 (f := .free "any") rfl)
  · exact He.free_ok X G (c.fact 20 (f := .free "sum") rfl)
  · exact He.free_ok X G (c.fact 21 (f := .free "min") rfl)
  · exact He.free_ok X G (c.fact 22 (f := .free "max") rfl)
  · exact He.free_ok X G (c.fact 23 (f := .free "sorted") rfl)
  · exact He.free_ok X G (c.fact 24 (f := .free "tuple") rfl)
  · exact He.free_ok X G (c.fact 25 (f := .free "list") rfl)
  · exact He.free_ok X G (c.fact 26 (f := .free "int") rfl)
  · exact He.free_ok X G (c.fact 27 (f := .free "str") rfl)
  · exact He.free_ok X G (c.fact 28 (f := .free "repr") rfl)
  · exact He.free_ok X G (c.fact 29 (f := .free "divmod") rfl)
  · exact He.free_ok X G (c.fact 30 (f := .free "set") rfl)
  · exact He.free_ok X G (c.fact 31 (f := .free "dict") rfl)
  · exact He.free_ok X G (c.fact 32 (f := .free "range") rfl)
  · exact He.free_ok X G (c.fact 33 (f := .free "enumerate") rfl)
  · exact He.free_ok X G (c.fact 34 (f := .free "zip") rfl)
  · exact He.free_ok X G (c.fact 35 (f := .free "isinstance") rfl)
  · exact He.free_ok X G (c.fact 36 (f := .free "bool") rfl)
  · exact He.free_ok X G (c.fact 37 (f := .free "ValueError") rfl)
theorem defs {K : PySem.W.Frag} {h : Heap} {mg : Str → Option Value} (X : K.In h) (G : h.Ns mainGlobals mg) (c : He.SaysD fa fn K) : ∀ i x, tb.fnm i = some x → DefOK PF tb K mg i x := by
  intro i x h
  match i, h with
  | 0, h => cases h; exact ok0 X G c
  | 1, h => cases h; exact ok1 X G c
  | 2, h => cases h; exact ok2 X G c
  | 3, h => cases h; exact ok3 X G c
  | 4, h => cases h; exact ok4 X G c
  | 5, h => cases h; exact ok5 X G c
  | 6, h => cases h; exact ok6 X G c
  | 7, h => cases h; exact ok7 X G c
  | 8, h => cases h; exact ok8 X G c
  | 9, h => cases h; exact ok9 X G c
  | 10, h => cases h; exact ok10 X G c
  | 11, h => cases h; exact ok11 X G c
  | 12, h => cases h; exact ok12 X G c
  | 13, h => cases h; exact ok13 X G c
  | 14, h => cases h; exact ok14 X G c
  | 15, h => cases h; exact ok15 X G c
  | i + 16, h => exact nomatch (show (none : Option Str) = some x from h)
theorem defsh {K : PySem.W.Frag} {h : Heap} {mg : Str → Option Value} (X : K.In h) (G : h.Ns mainGlobals mg) (c : He.SaysD fa fn K) : ∀ i x, tb.hfn i = some x → DefOK PF tb.toHot K mg i x := by
  intro i x h
  match i, h with
  | 0, h => exact nomatch (show (none : Option Str) = some x from h)
  | 1, h => exact nomatch (show (none : Option Str) = some x from h)
  | 2, h => exact nomatch (show (none : Option Str) = some x from h)
  | 3, h => exact nomatch (show (none : Option Str) = some x from h)
  | 4, h => exact nomatch (show (none : Option Str) = some x from h)
  | 5, h => exact nomatch (show (none : Option Str) = some x from h)
  | 6, h => exact nomatch (show (none : Option Str) = some x from h)
  | 7, h => exact nomatch (show (none : Option Str) = some x from h)
  | 8, h => exact nomatch (show (none : Option Str) = some x from h)
  | 9, h => exact nomatch (show (none : Option Str) = some x from h)
  | 10, h => exact nomatch (show (none : Option Str) = some x from h)
  | 11, h => exact nomatch (show (none : Option Str) = some x from h)
  | 12, h => exact nomatch (show (none : Option Str) = some x from h)
  | 13, h => exact nomatch (show (none : Option Str) = some x from h)
  | 14, h => exact nomatch (show (none : Option Str) = some x from h)
  | 15, h => exact nomatch (show (none : Option Str) = some x from h)
  | i + 16, h => exact nomatch (show (none : Option Str) = some x from h)
theorem globs {K : PySem.W.Frag} {h : Heap} {mg : Str → Option Value} (X : K.In h) (G : h.Ns mainGlobals mg) (c : He.SaysD fa fn K) : ∀ k x d, tb.gnm k = some x → GF k = some d → ∃ u v, mg x = some u ∧ RelV v u ∧ ∀ F, Rep K F v d := by
  intro k x d h1 h2
  match k, h1, h2 with
  | i + 0, h1, h2 => exact nomatch (show (none : Option Str) = some x from h1)
theorem si0 : FnScope ["self", "ranking"] ["self", "ranking"] (defScope (mm 2 0)) := ⟨by decide +kernel, by decide +kernel, by decide +kernel, by decide +kernel, by decide +kernel, by decide +kernel, by decide +kernel⟩
theorem ib0 : initB "ranking" (defScope (mm 2 0)) (defBody (mm 2 0)) = true := by decide +kernel
theorem si1 : FnScope ["self", "index"] ["self", "index"] (defScope (mm 3 0)) := ⟨by decide +kernel, by decide +kernel, by decide +kernel, by decide +kernel, by decide +kernel, by decide +kernel, by decide +kernel⟩
theorem ib1 : initB "index" (defScope (mm 3 0)) (defBody (mm 3 0)) = true := by decide +kernel
theorem si2 : FnScope ["self", "obstruction"] ["self", "obstruction"] (defScope (mm 4 0)) := ⟨by decide +kernel, by decide +kernel, by decide +kernel, by decide +kernel, by decide +kernel, by decide +kernel, by decide +kernel⟩
theorem ib2 : initB "obstruction" (defScope (mm 4 0)) (defBody (mm 4 0)) = true := by decide +kernel
theorem xmem {K : PySem.W.Frag} (c : SaysX fa fn xcs K) (p : Str × Option Str) (hp : p ∈ xcs) : xokB K xcs p = true := List.all_eq_true.mp (ba c.x).1 p hp
theorem rest {P : Program} {w : World} {K : PySem.W.Frag} {h : Heap} {mg : Str → Option Value} (X : K.In h) (G : h.Ns mainGlobals mg) (c : SaysX fa fn xcs K) (base : Heap) : Rest GF tb P w K mg base where
  szk := fun z => nomatch z
  glob := globs X G c.d
  blt := blt X G c.d
  xc := fun p hp => (xok_of X G (xmem c p hp)).1
  xt := fun _ => PySem.W.mg_of X G (He.eqO_ok (show He.eqO (PySem.W.nsIn K mainGlobals "TasteError") (some (some (.ref (He.ga K "TasteError")))) = true by
    have := (ba c.x).2
    simpa [xcs] using this))
  xi := fun cn f hm => by
    obtain ⟨hx, hi⟩ := xok_of X G (xmem c _ hm)
    obtain ⟨i1, i2⟩ := hi f rfl
    have hm : (cn, some f) ∈ xcs := hm
    simp only [xcs, List.mem_cons, List.not_mem_nil, or_false, Prod.mk.injEq, reduceCtorEq, and_false, false_or, or_false, Option.some.injEq] at hm
    rcases hm with ⟨rfl, rfl⟩ | ⟨rfl, rfl⟩ | ⟨rfl, rfl⟩
    · obtain ⟨fd, F⟩ := c.d.def_ 16 (d := di 2 0 "NoRanking" "NoRanking.__init__") rfl
      exact ⟨_, fd, ["self", "ranking"], i1, i2, F.bindsN (fun _ _ _ _ _ _ us hl => match us, hl with | [_, _], _ => rfl), init_ok F si0 ib0 (hx.own1 _ rfl).1 (hx.own1 _ rfl).2⟩
    · obtain ⟨fd, F⟩ := c.d.def_ 17 (d := di 3 0 "NoIndex" "NoIndex.__init__") rfl
      exact ⟨_, fd, ["self", "index"], i1, i2, F.bindsN (fun _ _ _ _ _ _ us hl => match us, hl with | [_, _], _ => rfl), init_ok F si1 ib1 (hx.own1 _ rfl).1 (hx.own1 _ rfl).2⟩
    · obtain ⟨fd, F⟩ := c.d.def_ 18 (d := di 4 0 "NotSeatable" "NotSeatable.__init__") rfl
      exact ⟨_, fd, ["self", "obstruction"], i1, i2, F.bindsN (fun _ _ _ _ _ _ us hl => match us, hl with | [_, _], _ => rfl), init_ok F si2 ib2 (hx.own1 _ rfl).1 (hx.own1 _ rfl).2⟩
theorem facts {P : Program} {w : World} {K : PySem.W.Frag} {h : Heap} {mg : Str → Option Value} {f : Addr} (X : K.In h) (G : h.Ns mainGlobals mg) (hfa : mg ("law" : Str) = some (.ref f)) (c : SaysX fa fn xcs K) (k : Nat) :
    ∃ fd : FuncData, (∀ (s : Shared) (v : Value), BindsTo s fd ⟨[v], []⟩ [("_law_script", v)]) ∧ ∀ base : Heap, K.In base → base.Ns mainGlobals mg → FG P w K mg base (k + 1) none f fd ["_law_script"] (spD K xcs PF GF (k + 1) none 15) := by
  obtain ⟨fd, F⟩ := c.d.def_ 15 (d := dd 23 "law") rfl
  have e := hfa.symm.trans (He.glo_ok X G (c.d.fact 15 (f := .glo "law") rfl))
  cases e
  have b := FunD.bindsA (ps := ["_law_script"]) F fun _ _ _ _ _ _ us hl => match us, hl with | [_], _ => rfl
  refine ⟨fd, fun s v => b s [v] rfl, fun base _ _ => ?_⟩
  obtain ⟨oc, od, dV, kV, doc, pm, an, cdv, ct, osl, rfl, lk, hcd, _, _⟩ := F.ex
  exact (fg_step (tb := tb) (ex := none) (fn := f15) (i := 15) (ground_of rfl (defs X G c.d) (defsh X G c.d) (rest X G c base) k) rfl lk hcd sc15 rfl rfl rfl ck15)
end Lk03
end T
set_option maxHeartbeats 0
open PySem PySem.W PySem.Calls PyProof.Rows
theorem PySem.Challenge.cw_tasterow_k03_rankings_numbered_holds : PySem.Challenge.rw_tasterow_k03_rankings_numbered.Holds := by
  w_on; o_law
  refine HandSHeadRun.head_any (r := OpenLaw.row PySem.Challenge.rw_tasterow_k03_rankings_numbered) (q := view (OpenLaw.row PySem.Challenge.rw_tasterow_k03_rankings_numbered).prog [23]) (H := T.Lk03.hk) (ob := T.Lk03.ob) (M := 40000) (loose := T.Lk03.loose) (d := HandSHeadRun.topDef (OpenLaw.row PySem.Challenge.rw_tasterow_k03_rankings_numbered).prog 23) (kwd := []) T.Lk03.ob_eq
    (by kernel_rfl) (fun s => by kernel_rfl) T.Lk03.run (by kernel_rfl) (by kernel_rfl) (by kernel_rfl) (by rfl) (by first | assumption | decide +kernel) (by decide +kernel) ⟨rfl, rfl, rfl, rfl, rfl, by decide +kernel⟩ ?hw ?hc
  case hw => w_witness2
  case hc =>
    refine T.walk_top (l := PySem.Challenge.rw_tasterow_k03_rankings_numbered) (n := 63) (k := 14 + 1) (x := "_law_script") rfl (by decide) (by kernel_rfl) (by decide +kernel) ⟨rfl, by decide, by decide⟩ ?F
    intro w mg fa h Y G hmg0
    obtain ⟨K, KX, c⟩ := Y
    have hmg : mg ("law" : PySem.Str) = some (.ref fa) := by
      have e : (HandSHeadRun.topDef (OpenLaw.row PySem.Challenge.rw_tasterow_k03_rankings_numbered).prog 23).name = ("law" : PySem.Str) := by kernel_rfl
      rw [← e]
      exact hmg0
    obtain ⟨fd, hb, hF⟩ := T.Lk03.facts (P := (PySem.Challenge.rw_tasterow_k03_rankings_numbered).prog) (w := w) KX G hmg c 14
    exact ⟨K, fd, T.spD K T.Lk03.xcs T.Lk03.PF T.Lk03.GF (14 + 1) none 15, KX, hb, fun H a ns hl hS => T.sp_law (T.Lk03.plain ns hl) hS, hF⟩
