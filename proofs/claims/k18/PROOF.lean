import PyProof.Rows.All
import HandS.Base
import HandS.Call
import HandS.List
import HandS.Text
import HandS.Words
import KE.KDictKeyed
import HandS.TupAny
import HandS.TupMul
import HandS.Style
import HandS.Deep
import PyProof.Rows.InDataRows
import PyProof.P3In
import HandS.Dict
import HandS.TupLen
import HandS.IsInst
import HandS.Comp
import HandS.Exc
import HandS.ExcOwn
import HandS.Iter
import KE.KDictWalk
import KE.GoesMore
import HandS.Conv
import HandS.Strs
import KE.KDictDisplayH
import KE.KDictPairs
import KE.KDictCopyH
import HandS.TupSets
import HandS.SortInts
import HandS.ReplaceLit
import HandS.TryMany
import HandS.WordsExc
import HandS.Defaults
import HandS.Head0
import HandS.Head1
import HandS.Head2
import HandS.HeadEnd
import HandS.HeadHook1
import HandS.HeadHook2
import PyProof.ExcBaseAll.ValueError
import PyProof.Rows.StrSplitJoin
import Wide.All
import OpenK.AllK
import Wide.FinOn
import KE.KStateDown
import HandS.Ends
import HandS.More
import HandS.TryOnly
import HandS.WordsList
import PySem.Challenge.RW_pressfirst_k18_strings_that_are_spoilt
section
set_option Elab.async false
set_option linter.all false
set_option maxRecDepth 100000
/-! A small evaluator over plain data: values, tags, syntax, meaning. Nothing of the heap in here. -/
namespace Ev
open PySem L2

/-! ### data -/
inductive D where
  | non
  | bl (b : Bool)
  | int (i : Int)
  | str (x : Str)
  | tup (ds : List D)
  | lst (ds : List D)
  | dic (ks vs : List D)
  | ins (C : Addr) (ns : List Str) (ds : List D)
  | scr (ns : List Int)
  | opq (v : V)

mutual
/-- no list, dict, instance is in it -/
def D.imm : D → Bool
  | .non => true
  | .bl _ => true
  | .int _ => true
  | .str _ => true
  | .tup ds => immAll ds
  | .lst _ => false
  | .dic _ _ => false
  | .ins _ _ _ => false
  | .scr _ => true
  | .opq _ => true
def immAll : List D → Bool
  | [] => true
  | d :: ds => d.imm && immAll ds
end
mutual
/-- Python's == on plain data -/
def D.eqv : D → D → Bool
  | .non, .non => true
  | .bl a, .bl b => a == b
  | .bl a, .int j => decide ((if a then (1 : Int) else 0) = j)
  | .int i, .bl b => decide (i = (if b then (1 : Int) else 0))
  | .int i, .int j => decide (i = j)
  | .str x, .str y => decide (x = y)
  | .tup a, .tup b => eqvAll a b
  | .lst a, .lst b => eqvAll a b
  | _, _ => false
def eqvAll : List D → List D → Bool
  | [], [] => true
  | a :: as, b :: bs => a.eqv b && eqvAll as bs
  | _, _ => false
end
def strGood (x : Str) : Bool := x.cps.all (· < 0x110000)
mutual
/-- plain data with good texts: None, bools, ints, texts, tuples, lists; its depth at most n -/
def D.fine : Nat → D → Bool
  | _, .non => true
  | _, .bl _ => true
  | _, .int _ => true
  | _, .str x => strGood x
  | n, .tup ds => fineAll n ds
  | n, .lst ds => fineAll n ds
  | _, .dic _ _ => false
  | _, .ins _ _ _ => false
  | _, .scr _ => false
  | _, .opq _ => false
def fineAll : Nat → List D → Bool
  | _, [] => true
  | 0, _ :: _ => false
  | n + 1, d :: ds => d.fine n && fineAll (n + 1) ds
end
mutual
/-- a dict's key: None, bools, ints, texts, tuples of such, at most n deep -/
def D.keyed : Nat → D → Bool
  | _, .non => true
  | _, .bl _ => true
  | _, .int _ => true
  | _, .str _ => true
  | n, .tup ds => keyedAll n ds
  | _, .lst _ => false
  | _, .dic _ _ => false
  | _, .ins _ _ _ => false
  | _, .scr _ => false
  | _, .opq _ => false
def keyedAll : Nat → List D → Bool
  | _, [] => true
  | 0, _ :: _ => false
  | n + 1, d :: ds => d.keyed n && keyedAll (n + 1) ds
end
def D.isTup : D → Bool
  | .tup _ => true
  | _ => false
def D.isDic : D → Bool
  | .dic _ _ => true
  | _ => false
def D.isStr : D → Bool
  | .str _ => true
  | _ => false
/-- the place of a key -/
def keyAt (k : D) : List D → Option Nat
  | [] => none
  | d :: ds => if d.eqv k then some 0 else (keyAt k ds).map (· + 1)

/-- a key beside others: tuples beside tuples alone -/
def keyFit (k : D) (ks : List D) : Bool := k.keyed 7 && ks.all fun k' => k'.isTup == k.isTup

/-! ### tags -/
/-- of a result: im (no list in it), vl (nobody changes it), fr (nobody else holds it), tm i (a part of the owned slot i) -/
inductive RT where
  | im | vl | fr
  | tm (i : Nat)
  deriving DecidableEq
/-- of a slot: im, vl; mu (owned), rf (owned by the caller, may be changed), lk (owned, being walked) -/
inductive ST where
  | im | vl | mu | rf | lk
  deriving DecidableEq
structure RV where
  t : RT
  d : D
/-- nothing that changes is in it: im -/
def RV.nrm (v : RV) : RV := if v.d.imm then ⟨.im, v.d⟩ else v
structure SV where
  t : ST
  d : D
abbrev En := List (Option SV)
def En.at (ρ : En) (i : Nat) : Option SV := match ρ[i]? with
  | some (some v) => some v
  | _ => none
def En.put (ρ : En) (i : Nat) (v : Option SV) : En := ρ.set i v

inductive R (α : Type) where
  | ok (a : α) (ρ : En)
  | ex (c : Nat) (ρ : En)
  | no
def R.bind {α β : Type} : R α → (α → En → R β) → R β
  | .ok a ρ, k => k a ρ
  | .ex c ρ, _ => .ex c ρ
  | .no, _ => .no
/-- a pure answer -/
def R.of {α : Type} (ρ : En) : Option α → R α
  | some a => .ok a ρ
  | none => .no

def RT.join : RT → RT → Option RT
  | .im, t => some t
  | t, .im => some t
  | .fr, .fr => some .fr
  | .vl, .vl => some .vl
  | .vl, .fr => some .vl
  | .fr, .vl => some .vl
  | .tm i, .tm j => if i = j then some (.tm i) else none
  | .tm i, _ => some (.tm i)
  | _, .tm i => some (.tm i)
/-- a new list over parts of that tag -/
def RT.newL : RT → RT
  | .im => .fr
  | t => t
def ST.rt (i : Nat) : ST → RT
  | .im => .im
  | .vl => .vl
  | _ => .tm i

/-! ### syntax -/
inductive BinO where
  | add | sub | mul | fdiv | mod | pow
  deriving DecidableEq
inductive CmpO where
  | lt | le | gt | ge | eq | ne | is_ | isn | in_ | nin
  deriving DecidableEq
inductive Ty where
  | int | bool | tuple | str | list
  deriving DecidableEq
inductive BI where
  | len | isi (T : Ty) | max2 | min2 | maxl | abs | sum | all | tuple | list | int | bool | str | dict
  deriving DecidableEq
inductive Mt where
  | join | split | count | index | replace
  deriving DecidableEq
inductive TG where
  | nm (i : Nat) (own : Bool)
  | one (t : TG)
  | tp (a b : TG)
mutual
inductive ME where
  | var (i : Nat)
  | mv (i : Nat)
  | lit (d : D)
  | glob (n : Nat)
  | tup (as : MEs)
  | lst (as : MEs)
  | dic0
  | dic (kvs : MEs)
  | dpr (a : ME)
  | lrg (a : ME)
  | srt (a : ME) (by1 : Bool)
  | bin (o : BinO) (a b : ME)
  | neg (a : ME)
  | not (a : ME)
  | cmp (o : CmpO) (a b : ME)
  | chn (o o' : CmpO) (a b c : ME)
  | and (a b : ME)
  | or (a b : ME)
  | ite (c : MT) (a b : ME)
  | idx (a i : ME)
  | slc (a : ME) (bl : Bool) (lo : ME) (bh : Bool) (hi : ME)
  | rev (a : ME)
  | call (f : Nat) (as : MEs)
  | callm (f : Nat) (as : MEs)
  | bi (b : BI) (as : MEs)
  | mth (m : Mt) (o : ME) (as : MEs)
  | ixo (o a : ME)
  | lc (e : ME) (tg : TG) (own : List Nat) (it : IT) (c : MT)
  | lc2 (e : ME) (tg : TG) (own : List Nat) (it : IT) (tg' : TG) (own' : List Nat) (it' : IT) (c : MT)
  | mpop (i : Nat)
inductive MEs where
  | nil
  | cons (a : ME) (as : MEs)
inductive MT where
  | tt
  | val (a : ME)
  | and (a b : MT)
  | or (a b : MT)
  | not (a : MT)
inductive IT where
  | seq (a : ME)
  | rng (as : MEs)
  | enu (a : ME)
  | zip (a b : ME)
  | vals (a : ME)
end
mutual
inductive MS where
  | asg (tg : TG) (e : ME)
  | par (ts : List (Nat × Bool)) (es : MEs)
  | set (i : Nat) (path : MEs) (e : ME)
  | app (i : Nat) (path : MEs) (e : ME)
  | st2 (i : Nat) (a b e : ME)
  | apk (i : Nat) (a e : ME)
  | expr (e : ME)
  | ret (e : ME)
  | retN
  | ife (c : MT) (a b : MSs)
  | whl (c : MT) (b : MSs)
  | fr (tg : TG) (it : IT) (b : MSs)
  | rse (c : Nat)
  | tri (b : MSs) (hs : MHs)
  | pass
  | brk
  | cnt
inductive MSs where
  | nil
  | cons (s : MS) (ss : MSs)
inductive MHs where
  | nil
  | cons (c : Nat) (b : MS) (hs : MHs)
end

def ME.slot? : ME → Option Nat
  | .var i => some i
  | _ => none
def MEs.slots : MEs → List (Option Nat)
  | .nil => []
  | .cons a as => a.slot? :: as.slots

/-! ### operations on data -/
abbrev big : Nat := 16777216
def smallI (i : Int) : Bool := decide (-(2 ^ 64) < i ∧ i < 2 ^ 64)
def opD : BinO → RV → RV → Option RV
  | .add, ⟨_, .int i⟩, ⟨_, .int j⟩ => some ⟨.im, .int (i + j)⟩
  | .add, ⟨_, .str a⟩, ⟨_, .str b⟩ => if a.length + b.length ≤ big then some ⟨.im, .str (a ++ b)⟩ else none
  | .add, ⟨t, .tup a⟩, ⟨u, .tup b⟩ => if a.length + b.length ≤ big then (t.join u).map fun w => ⟨w, .tup (a ++ b)⟩ else none
  | .add, ⟨t, .lst a⟩, ⟨u, .lst b⟩ => if a.length + b.length ≤ big then (t.join u).map fun w => ⟨w.newL, .lst (a ++ b)⟩ else none
  | .sub, ⟨_, .int i⟩, ⟨_, .int j⟩ => some ⟨.im, .int (i - j)⟩
  | .mul, ⟨_, .int i⟩, ⟨_, .int j⟩ => if smallI i || smallI j then some ⟨.im, .int (i * j)⟩ else none
  | .mul, ⟨_, .lst a⟩, ⟨_, .int k⟩ => if immAll a && decide (0 ≤ k ∧ k < 2 ^ 63) && decide (a.length * k.toNat ≤ big) then some ⟨.fr, .lst (List.replicate k.toNat a).flatten⟩ else none
  | .mul, ⟨_, .tup a⟩, ⟨_, .int k⟩ => if immAll a && !a.isEmpty && decide (2 ≤ k ∧ k ≤ 1000) && decide (a.length ≤ 1000) then some ⟨.im, .tup (List.replicate k.toNat a).flatten⟩ else none
  | .fdiv, ⟨_, .int i⟩, ⟨_, .int j⟩ => if 0 < j ∧ j < 1073741824 then some ⟨.im, .int (i / j)⟩ else none
  | .mod, ⟨_, .int i⟩, ⟨_, .int j⟩ => if 0 < j then some ⟨.im, .int (i % j)⟩ else none
  | .pow, ⟨_, .int i⟩, ⟨_, .int j⟩ => if (0 ≤ j ∧ j ≤ 1000) && smallI i then some ⟨.im, .int (i ^ j.toNat)⟩ else none
  | _, _, _ => none
def eqD (a b : D) : Option Bool := match a, b with
  | .int i, .int j => some (decide (i = j))
  | .str x, .str y => some (decide (x = y))
  | .bl x, .bl y => some (x == y)
  | a, b => if a.fine 60 && b.fine 60 then some (a.eqv b) else none
def inD (x y : D) : Option Bool := match y with
  | .tup ds => if x.fine 60 && fineAll 60 ds then some (ds.any fun d => d.eqv x) else none
  | .lst ds => if x.fine 60 && fineAll 60 ds then some (ds.any fun d => d.eqv x) else none
  | .dic ks _ => if keyFit x ks then some (keyAt x ks).isSome else none
  | _ => none
def isNonD : D → Option Bool
  | .non => some true
  | .opq _ => none
  | _ => some false
def cmpD : CmpO → D → D → Option Bool
  | .lt, .int i, .int j => some (decide (i < j))
  | .le, .int i, .int j => some (decide (i ≤ j))
  | .gt, .int i, .int j => some (decide (j < i))
  | .ge, .int i, .int j => some (decide (j ≤ i))
  | .eq, a, b => eqD a b
  | .ne, a, b => (eqD a b).map (!·)
  | .is_, a, .non => isNonD a
  | .isn, a, .non => (isNonD a).map (!·)
  | .is_, .bl a, .bl b => some (a == b)
  | .isn, .bl a, .bl b => some (!(a == b))
  | .in_, a, b => inD a b
  | .nin, a, b => (inD a b).map (!·)
  | _, _, _ => none
def cutD (xs : List D) (lo hi : Option Int) : List D := (xs.drop (HT.sIx xs.length 0 lo)).take (HT.sIx xs.length xs.length hi - HT.sIx xs.length 0 lo)
def idxD : RV → D → Option RV
  | ⟨t, .tup ds⟩, .int i => (atI ds i).map fun d => ⟨t, d⟩
  | ⟨t, .lst ds⟩, .int i => (atI ds i).map fun d => ⟨t, d⟩
  | ⟨_, .scr ns⟩, .int i => (atI ns i).map fun n => ⟨.im, .int n⟩
  | ⟨t, .dic ks vs⟩, k => if keyFit k ks then (keyAt k ks).bind fun j => vs[j]?.map fun d => ⟨t, d⟩ else none
  | _, _ => none
/-- a part of a slice: left out, or an int -/
def partD (b : Bool) (d : D) : Option (Option Int) := if b = true then (match d with
  | .int i => some (some i)
  | _ => none) else some none
/-- a new list: nobody else holds anything of it, if nothing that changes is in it -/
def listT (t : RT) (ds : List D) : RT := if immAll ds then .fr else t.newL
def slcO : RV → Option Int → Option Int → Option RV
  | ⟨t, .tup ds⟩, l, h => some ⟨t, .tup (cutD ds l h)⟩
  | ⟨t, .lst ds⟩, l, h => some ⟨listT t (cutD ds l h), .lst (cutD ds l h)⟩
  | ⟨_, .str z⟩, l, h => if z.length ≤ big then some ⟨.im, .str (cutS z l h)⟩ else none
  | _, _, _ => none
def revD : RV → Option RV
  | ⟨t, .lst ds⟩ => some ⟨t.newL, .lst ds.reverse⟩
  | ⟨t, .tup ds⟩ => some ⟨t, .tup ds.reverse⟩
  | _ => none
def truD : D → Option Bool
  | .non => some false
  | .bl b => some b
  | .int i => some (i != 0)
  | .lst ds => some (!ds.isEmpty)
  | .tup ds => some (!ds.isEmpty)
  | _ => none
def D.isT : D → Ty → Bool
  | .int _, .int => true
  | .bl _, .int => true
  | .bl _, .bool => true
  | .tup _, .tuple => true
  | .str _, .str => true
  | .lst _, .list => true
  | _, _ => false
/-- isinstance is asked of these alone -/
def D.known : D → Bool
  | .opq _ => false
  | .dic _ _ => false
  | .ins _ _ _ => false
  | .scr _ => false
  | _ => true
def intsOf : List D → Option (List Int)
  | [] => some []
  | .int i :: ds => (intsOf ds).map (i :: ·)
  | _ => none
def blsOf : List D → Option (List Bool)
  | [] => some []
  | .bl i :: ds => (blsOf ds).map (i :: ·)
  | _ => none
def strsOf : List D → Option (List Str)
  | [] => some []
  | .str i :: ds => (strsOf ds).map (i :: ·)
  | _ => none
def maxI : Int → List Int → Int
  | m, [] => m
  | m, x :: xs => maxI (if m < x then x else m) xs
/-- put into a dict: an old key keeps its place -/
def dicPut (k v : D) (ks vs : List D) : List D × List D := match keyAt k ks with
  | some j => (ks, vs.set j v)
  | none => (ks ++ [k], vs ++ [v])
def pairsOf : List D → Option (List D × List D)
  | [] => some ([], [])
  | .tup [k, v] :: ds => (pairsOf ds).map fun r => (k :: r.1, v :: r.2)
  | _ => none
def dicPuts : List D → List D → List D × List D → List D × List D
  | k :: ks, v :: vs, r => dicPuts ks vs (dicPut k v r.1 r.2)
  | _, _, r => r
def biD : BI → List RV → Option RV
  | .len, [⟨_, .tup ds⟩] => some ⟨.im, .int ds.length⟩
  | .len, [⟨_, .lst ds⟩] => some ⟨.im, .int ds.length⟩
  | .len, [⟨_, .scr ns⟩] => some ⟨.im, .int ns.length⟩
  | .len, [⟨_, .str z⟩] => if z.length ≤ big then some ⟨.im, .int z.length⟩ else none
  | .len, [⟨_, .dic ks _⟩] => some ⟨.im, .int ks.length⟩
  | .isi T, [⟨_, d⟩] => if d.known then some ⟨.im, .bl (d.isT T)⟩ else none
  | .max2, [⟨_, .int i⟩, ⟨_, .int j⟩] => some ⟨.im, .int (if j > i then j else i)⟩
  | .min2, [⟨_, .int i⟩, ⟨_, .int j⟩] => some ⟨.im, .int (if j < i then j else i)⟩
  | .maxl, [⟨_, .lst ds⟩] => (match intsOf ds with
    | some (n :: ns) => some ⟨.im, .int (maxI n ns)⟩
    | _ => none)
  | .abs, [⟨_, .int i⟩] => some ⟨.im, .int (if i < 0 then -i else i)⟩
  | .sum, [⟨_, .lst ds⟩] => (intsOf ds).map fun ns => ⟨.im, .int ns.sum⟩
  | .all, [⟨_, .lst ds⟩] => (blsOf ds).map fun ns => ⟨.im, .bl (ns.all id)⟩
  | .tuple, [⟨t, .lst ds⟩] => some (RV.nrm ⟨t, .tup ds⟩)
  | .tuple, [⟨t, .tup ds⟩] => some (RV.nrm ⟨t, .tup ds⟩)
  | .list, [⟨t, .lst ds⟩] => some ⟨t.newL, .lst ds⟩
  | .list, [⟨t, .tup ds⟩] => some ⟨t.newL, .lst ds⟩
  | .int, [⟨_, .int i⟩] => some ⟨.im, .int i⟩
  | .int, [⟨_, .bl b⟩] => some ⟨.im, .int (if b then 1 else 0)⟩
  | .bool, [⟨_, .int i⟩] => some ⟨.im, .bl (i != 0)⟩
  | .bool, [⟨_, .bl b⟩] => some ⟨.im, .bl b⟩
  | .str, [⟨_, .int i⟩] => if i.natAbs.log2 < 1920 then some ⟨.im, .str (toString i)⟩ else none
  | _, _ => none
/-- k1, v1, k2, v2, .. -/
def unpair : List D → Option (List D × List D)
  | [] => some ([], [])
  | [_] => none
  | k :: v :: r => (unpair r).map fun q => (k :: q.1, v :: q.2)
/-- no two of them are equal -/
def distD : List D → Bool
  | [] => true
  | k :: ks => ks.all (fun k' => !k'.eqv k) && distD ks
/-- a dict's display: its keys are tuples, or plain; nothing that changes is in it -/
def dispD (vs : List D) : Option RV := (unpair vs).bind fun q => if keyedAll 8 q.1 && (q.1.all D.isTup || q.1.all fun k => !k.isTup) && immAll q.2 && distD q.1 then some ⟨.fr, .dic q.1 q.2⟩ else none
/-- dict(..) of a list of pairs, the keys tuples -/
def dprD : D → Option RV
  | .lst ds => (pairsOf ds).bind fun q => if keyedAll 8 q.1 && q.1.all D.isTup && immAll q.2 && distD q.1 && decide (q.1.length ≤ big) then some ⟨.fr, .dic q.1 q.2⟩ else none
  | _ => none
/-- list(range(n)) -/
def lrgD : D → Option RV
  | .int j => if -1000 ≤ j ∧ j ≤ (big : Int) then some ⟨.fr, .lst ((List.range j.toNat).map fun (i : Nat) => D.int i)⟩ else none
  | _ => none
/-- sorted: ints; tuples of ints that stand in order already -/
def insI (n : Int) : List Int → List Int
  | [] => [n]
  | m :: ms => if n ≤ m then n :: m :: ms else m :: insI n ms
def srtI : List Int → List Int
  | [] => []
  | n :: ns => insI n (srtI ns)
def rowsOf : List D → Option (List (List Int))
  | [] => some []
  | .tup ds :: r => (intsOf ds).bind fun ns => (rowsOf r).map fun q => ns :: q
  | _ :: _ => none
/-- the number of a row, its digits below 64 -/
def codeR : List Int → Int
  | [] => 0
  | n :: ns => n * 64 ^ ns.length + codeR ns
def ascR : List (List Int) → Bool
  | r :: r' :: rs => decide (codeR r < codeR r') && ascR (r' :: rs)
  | _ => true
def srtD (b : Bool) (v : RV) : Option RV := match v.d with
  | .lst ds => (match intsOf ds with
    | some ns => some ⟨.fr, .lst ((srtI ns).map .int)⟩
    | none => (match rowsOf ds with
      | some (r :: rs) => if decide (1 ≤ r.length) && (r :: rs).all (fun q => decide (q.length = r.length) && q.all fun n => decide (0 ≤ n ∧ n < 64)) && ascR (r :: rs) && decide (ds.length < 64) then some ⟨.fr, .lst ds⟩ else none
      | _ => none))
  | _ => none
/-- t.index(x) in a tuple of texts -/
def strTup : D → Bool
  | .tup ds => (strsOf ds).isSome
  | _ => false
def ixoD : D → D → Option RV
  | .tup ds, .str b => (strsOf ds).bind fun ys => (ys.findIdx? (fun y => decide (y = b))).map fun (j : Nat) => ⟨.im, .int (j : Int)⟩
  | _, _ => none
def mtD : Mt → RV → List RV → Option RV
  | .join, ⟨_, .str a⟩, [⟨_, .lst ds⟩] => (strsOf ds).bind fun ys => if (ys.map (·.length)).sum + ys.length * a.length ≤ big then some ⟨.im, .str (Txt.join a ys)⟩ else none
  | .split, ⟨_, .str a⟩, [⟨_, .str b⟩] => if b.length ≠ 0 ∧ a.length + 2 ≤ big then some ⟨.fr, .lst ((Txt.split a b).map .str)⟩ else none
  | .replace, ⟨_, .str a⟩, [⟨_, .str b⟩, ⟨_, .str c⟩] => if !(b == c) && decide (a.length + (a.length + 1) * c.length ≤ big) then some ⟨.im, .str (Txt.replace a b c)⟩ else none
  | _, _, _ => none
/-- what is walked: whose part it is, the items' tag, the items -/
structure IR where
  root : RT
  t : RT
  ds : List D
/-- the tag of what is walked: nobody owns the items of a new list -/
def RT.item : RT → RT
  | .fr => .vl
  | t => t
def seqD : RV → Option IR
  | ⟨t, .tup ds⟩ => some ⟨t, t.item, ds⟩
  | ⟨t, .lst ds⟩ => some ⟨t, t.item, ds⟩
  | ⟨t, .dic ks _⟩ => if ks.all D.isTup then some ⟨t, .im, ks⟩ else none
  | _ => none
def rngD : List RV → Option IR
  | [⟨_, .int j⟩] => if -(2 ^ 62) ≤ j ∧ j < 2 ^ 62 then some ⟨.im, .im, (List.range j.toNat).map fun (i : Nat) => D.int i⟩ else none
  | [⟨_, .int i⟩, ⟨_, .int j⟩] => if -(2 ^ 62) ≤ i ∧ i < 2 ^ 62 ∧ -(2 ^ 62) ≤ j ∧ j < 2 ^ 62 then some ⟨.im, .im, (List.range (j - i).toNat).map fun (k : Nat) => D.int (i + k)⟩ else none
  | _ => none
def enuF : Nat → List D → List D
  | _, [] => []
  | n, d :: ds => .tup [.int n, d] :: enuF (n + 1) ds
def zipF : List D → List D → List D
  | a :: as, b :: bs => .tup [a, b] :: zipF as bs
  | _, _ => []

/-! ### targets -/
def RT.slot (own : Bool) : RT → D → Option ST
  | .im, _ => some .im
  | .vl, _ => if own then none else some .vl
  | .fr, _ => if own then some .mu else some .vl
  | .tm _, d => if d.imm then some .im else none
/-- may the slot be stored -/
def En.free (ρ : En) (i : Nat) : Bool := match ρ[i]? with
  | some (some ⟨.rf, _⟩) => false
  | some (some ⟨.lk, _⟩) => false
  | some _ => true
  | none => false
def bindT : TG → RT → D → En → Option En
  | .nm i own, t, d, ρ => if ρ.free i then (t.slot own d).map fun s => ρ.put i (some ⟨s, d⟩) else none
  | .one a, t, .tup [d], ρ => bindT a t d ρ
  | .tp a b, t, .tup (d :: ds), ρ => (bindT a t d ρ).bind fun ρ' => bindT b t (.tup ds) ρ'
  | _, _, _, _ => none

/-! ### functions -/
inductive Mode where
  | im | vl | rf
  deriving DecidableEq
inductive SR where
  | ret (v : RV) (outs : List D)
  | ex (c : Nat) (outs : List D)
  | no
structure Fn where
  modes : List Mode
  sem : List D → SR
abbrev Tab := Nat → Option Fn
/-- the slots that are handed in to be changed -/
def rfSlots : List Mode → MEs → Option (List Nat)
  | [], .nil => some []
  | .rf :: ms, .cons (.var i) as => (rfSlots ms as).map (i :: ·)
  | .im :: ms, .cons _ as => rfSlots ms as
  | .vl :: ms, .cons _ as => rfSlots ms as
  | _, _ => none
def argOk (rs : List Nat) (ρ : En) : List Mode → List Nat → List RV → Option (List D)
  | [], [], [] => some []
  | .im :: ms, is, v :: vs => if decide (v.t = .im) || v.d.imm then (argOk rs ρ ms is vs).map (v.d :: ·) else none
  | .vl :: ms, is, v :: vs => (match v.t with
    | .tm j => if rs.contains j then none else (argOk rs ρ ms is vs).map (v.d :: ·)
    | _ => (argOk rs ρ ms is vs).map (v.d :: ·))
  | .rf :: ms, i :: is, v :: vs => (match ρ.at i with
      | some ⟨.mu, d⟩ => (argOk rs ρ ms is vs).map (d :: ·)
      | some ⟨.rf, d⟩ => (argOk rs ρ ms is vs).map (d :: ·)
      | _ => none)
  | _, _, _ => none
def putOuts : List Nat → List D → En → Option En
  | [], [], ρ => some ρ
  | i :: is, d :: ds, ρ => (match ρ.at i with
    | some ⟨t, _⟩ => putOuts is ds (ρ.put i (some ⟨t, d⟩))
    | none => none)
  | _, _, _ => none
def anyTm : List Mode → List RV → Bool
  | .vl :: ms, v :: vs => (match v.t with
    | .tm _ => true
    | _ => anyTm ms vs)
  | _ :: ms, _ :: vs => anyTm ms vs
  | _, _ => false
def resT (b : Bool) (v : RV) : Option RV := match v.t with
  | .im => some v
  | .fr => some v
  | .vl => if b then (if v.d.imm then some ⟨.im, v.d⟩ else none) else some v
  | .tm _ => none
def callF (F : Fn) (rs : Option (List Nat)) (vs : List RV) (ρ : En) : R RV := match rs with
  | none => .no
  | some rs => if rs.Nodup then (match argOk rs ρ F.modes rs vs with
    | none => .no
    | some ds => match F.sem ds with
      | .ret v outs => (match putOuts rs outs ρ, resT (anyTm F.modes vs) v with
        | some ρ', some v' => .ok v' ρ'
        | _, _ => .no)
      | .ex c outs => (match putOuts rs outs ρ with
        | some ρ' => .ex c ρ'
        | none => .no)
      | .no => .no) else .no

/-! ### what changes nothing -/
mutual
def ME.pure : ME → Bool
  | .var _ => true
  | .mv _ => false
  | .lit _ => true
  | .glob _ => true
  | .tup as => as.pure
  | .lst as => as.pure
  | .dic0 => true
  | .dic kvs => kvs.pure
  | .dpr a => a.pure
  | .lrg a => a.pure
  | .srt a _ => a.pure
  | .bin _ a b => a.pure && b.pure
  | .neg a => a.pure
  | .not a => a.pure
  | .cmp _ a b => a.pure && b.pure
  | .chn _ _ a b c => a.pure && b.pure && c.pure
  | .and a b => a.pure && b.pure
  | .or a b => a.pure && b.pure
  | .ite c a b => c.pure && a.pure && b.pure
  | .idx a i => a.pure && i.pure
  | .slc a _ l _ h => a.pure && (l.pure && h.pure)
  | .rev a => a.pure
  | .call _ as => as.pure
  | .callm _ _ => false
  | .bi _ as => as.pure
  | .mth _ o as => o.pure && as.pure
  | .ixo o a => o.pure && a.pure
  | .lc _ _ _ it _ => it.pure
  | .lc2 _ _ _ it _ _ _ _ => it.pure
  | .mpop _ => false
def MEs.pure : MEs → Bool
  | .nil => true
  | .cons a as => a.pure && as.pure
def MT.pure : MT → Bool
  | .tt => true
  | .val a => a.pure
  | .and a b => a.pure && b.pure
  | .or a b => a.pure && b.pure
  | .not a => a.pure
def IT.pure : IT → Bool
  | .seq a => a.pure
  | .rng as => as.pure
  | .enu a => a.pure
  | .zip a b => a.pure && b.pure
  | .vals a => a.pure
end
/-- a value that waits while b is reckoned -/
def waits (t : RT) (p : Bool) : Bool := match t with
  | .tm _ => p
  | _ => true
def retT (v : RV) : Option RV := match v.t with
  | .tm _ => if v.d.imm then some ⟨.im, v.d⟩ else none
  | _ => some v
/-- a slot that bears nothing owned -/
def clearB (ρ : En) (i : Nat) : Bool := match ρ.at i with
  | some ⟨.mu, _⟩ => false
  | some ⟨.rf, _⟩ => false
  | some ⟨.lk, _⟩ => false
  | _ => true
def TG.slots : TG → List Nat
  | .nm i _ => [i]
  | .one a => a.slots
  | .tp a b => a.slots ++ b.slots
def wipeE (ρ : En) : List Nat → En
  | [] => ρ
  | i :: is => wipeE (ρ.put i none) is
/-- a turn of a comprehension after another -/
def turns (f : D → Option (Option RV)) : List D → Option (List RV)
  | [] => some []
  | d :: ds => (f d).bind fun o => (turns f ds).map fun r => match o with
    | some v => v :: r
    | none => r
def turns2 (f : D → Option (List RV)) : List D → Option (List RV)
  | [] => some []
  | d :: ds => (f d).bind fun o => (turns2 f ds).map fun r => o ++ r
def R.val {α : Type} : R α → Option α
  | .ok a _ => some a
  | _ => none
/-- the items of a new list: each im or fr (fr), or vl -/
def joinAll : List RV → Option RT
  | [] => some .im
  | v :: vs => (joinAll vs).bind fun t => v.t.join t

/-! ### meaning -/
section
variable (G : Tab) (C : Nat → Option D)
mutual
def ev : ME → En → R RV
  | .var i, ρ => (match ρ.at i with
    | some ⟨s, d⟩ => .ok (RV.nrm ⟨s.rt i, d⟩) ρ
    | none => .no)
  | .mv i, ρ => (match ρ.at i with
    | some ⟨.mu, d⟩ => .ok ⟨.fr, d⟩ (ρ.put i none)
    | _ => .no)
  | .lit d, ρ => .ok ⟨.im, d⟩ ρ
  | .glob n, ρ => (match C n with
    | some d => .ok ⟨.im, d⟩ ρ
    | none => .no)
  | .tup as, ρ => (evs as ρ).bind fun vs ρ' => R.of ρ' ((joinAll vs).map fun t => ⟨t, .tup (vs.map (·.d))⟩)
  | .lst as, ρ => (evs as ρ).bind fun vs ρ' => R.of ρ' ((joinAll vs).map fun t => ⟨t.newL, .lst (vs.map (·.d))⟩)
  | .dic0, ρ => .ok ⟨.fr, .dic [] []⟩ ρ
  | .dic kvs, ρ => (evs kvs ρ).bind fun vs ρ' => R.of ρ' (dispD (vs.map (·.d)))
  | .dpr a, ρ => (ev a ρ).bind fun v ρ' => R.of ρ' (dprD v.d)
  | .lrg a, ρ => (ev a ρ).bind fun v ρ' => R.of ρ' (lrgD v.d)
  | .srt a b, ρ => (ev a ρ).bind fun v ρ' => R.of ρ' (srtD b v)
  | .bin o a b, ρ => (ev a ρ).bind fun v ρ' => if waits v.t b.pure then (ev b ρ').bind fun w ρ'' => R.of ρ'' (opD o v w) else .no
  | .neg a, ρ => (ev a ρ).bind fun v ρ' => R.of ρ' (match v.d with
    | .int i => some ⟨.im, .int (-i)⟩
    | _ => none)
  | .not a, ρ => (ev a ρ).bind fun v ρ' => R.of ρ' (match v.d with
    | .bl b => some ⟨.im, .bl (!b)⟩
    | _ => none)
  | .cmp o a b, ρ => (ev a ρ).bind fun v ρ' => if waits v.t b.pure then (ev b ρ').bind fun w ρ'' => R.of ρ'' ((cmpD o v.d w.d).map fun k => ⟨.im, .bl k⟩) else .no
  | .chn o o' a b c, ρ => (ev a ρ).bind fun v ρ' => if waits v.t b.pure then (ev b ρ').bind fun w ρ'' => (match cmpD o v.d w.d with
    | none => .no
    | some false => .ok ⟨.im, .bl false⟩ ρ''
    | some true => if waits w.t c.pure then (ev c ρ'').bind fun x ρ3 => R.of ρ3 ((cmpD o' w.d x.d).map fun k => ⟨.im, .bl k⟩) else .no) else .no
  | .and a b, ρ => (ev a ρ).bind fun v ρ' => (match v.d with
    | .bl true => ev b ρ'
    | .bl false => .ok ⟨.im, .bl false⟩ ρ'
    | _ => .no)
  | .or a b, ρ => (ev a ρ).bind fun v ρ' => (match v.d with
    | .bl false => ev b ρ'
    | .bl true => .ok ⟨.im, .bl true⟩ ρ'
    | _ => .no)
  | .ite c a b, ρ => (evt c ρ).bind fun k ρ' => if k then ev a ρ' else ev b ρ'
  | .idx a i, ρ => (ev a ρ).bind fun v ρ' => if waits v.t i.pure then (ev i ρ').bind fun w ρ'' => R.of ρ'' ((idxD v w.d).map RV.nrm) else .no
  | .slc a bl l bh h, ρ => (ev a ρ).bind fun v ρ' => if waits v.t (l.pure && h.pure) then (ev l ρ').bind fun x ρ'' => (R.of ρ'' (partD bl x.d)).bind fun lo ρ'' => (ev h ρ'').bind fun y ρ3 => (R.of ρ3 (partD bh y.d)).bind fun hi ρ3 => R.of ρ3 (slcO v lo hi) else .no
  | .rev a, ρ => (ev a ρ).bind fun v ρ' => R.of ρ' (revD v)
  | .call f as, ρ => (evs as ρ).bind fun vs ρ' => (match G f with
    | some F => if F.modes.contains .rf then .no else callF F (some []) vs ρ'
    | none => .no)
  | .callm f as, ρ => (evs as ρ).bind fun vs ρ' => (match G f with
    | some F => callF F (rfSlots F.modes as) vs ρ'
    | none => .no)
  | .bi b as, ρ => (evs as ρ).bind fun vs ρ' => R.of ρ' (biD b vs)
  | .mth m o as, ρ => (ev o ρ).bind fun v ρ' => if waits v.t as.pure && v.d.isStr then (evs as ρ').bind fun vs ρ'' => R.of ρ'' (mtD m v vs) else .no
  | .ixo o a, ρ => (ev o ρ).bind fun v ρ' => if waits v.t a.pure && strTup v.d then (ev a ρ').bind fun w ρ'' => R.of ρ'' (ixoD v.d w.d) else .no
  | .lc e tg own it c, ρ => (evi it ρ).bind fun r ρ' => if e.pure && c.pure && own.all (clearB ρ') then
      R.of ρ' ((turns (fun d => (bindT tg r.t d (wipeE ρ' own)).bind fun ρ1 => (evt c ρ1).val.bind fun k => if k then (ev e ρ1).val.bind fun v => (retT v).map some else some none) r.ds).bind fun vs =>
        if vs.length ≤ big then (joinAll vs).map fun t => ⟨t.newL, .lst (vs.map (·.d))⟩ else none) else .no
  | .lc2 e tg own it tg' own' it' c, ρ => (evi it ρ).bind fun r ρ' => if e.pure && c.pure && it'.pure && own.all (clearB ρ') then
      R.of ρ' ((turns2 (fun d => (bindT tg r.t d (wipeE ρ' own)).bind fun ρ1 => (evi it' ρ1).val.bind fun r' => if r'.t = .im then
        turns (fun d' => (bindT tg' .im d' (wipeE ρ1 own')).bind fun ρ2 => (evt c ρ2).val.bind fun k => if k then (ev e ρ2).val.bind fun v => if v.d.imm then some (some ⟨.im, v.d⟩) else none else some none) r'.ds else none) r.ds).bind fun vs =>
        if vs.length ≤ big then some ⟨.fr, .lst (vs.map (·.d))⟩ else none) else .no
  | .mpop i, ρ => (match ρ.at i with
    | some ⟨.mu, .lst ds⟩ => (match ds.getLast? with
      | some d => if d.imm then .ok ⟨.im, d⟩ (ρ.put i (some ⟨.mu, .lst ds.dropLast⟩)) else .no
      | none => .no)
    | _ => .no)
def evs : MEs → En → R (List RV)
  | .nil, ρ => .ok [] ρ
  | .cons a as, ρ => (ev a ρ).bind fun v ρ' => if waits v.t as.pure then (evs as ρ').bind fun vs ρ'' => .ok (v :: vs) ρ'' else .no
/-- what is walked -/
def evi : IT → En → R IR
  | .seq a, ρ => (ev a ρ).bind fun v ρ' => R.of ρ' (seqD v)
  | .rng as, ρ => (evs as ρ).bind fun vs ρ' => R.of ρ' (rngD vs)
  | .enu a, ρ => (ev a ρ).bind fun v ρ' => R.of ρ' (if v.d.isDic then none else (seqD v).map fun r => ⟨r.root, r.t, enuF 0 r.ds⟩)
  | .zip a b, ρ => (ev a ρ).bind fun v ρ' => if waits v.t b.pure then (ev b ρ').bind fun w ρ'' => R.of ρ'' ((seqD v).bind fun r => (seqD w).bind fun r' => (r.root.join r'.root).bind fun u => (r.t.join r'.t).map fun t => ⟨u, t, zipF r.ds r'.ds⟩) else .no
  | .vals a, ρ => (ev a ρ).bind fun v ρ' => R.of ρ' (match v with
    | ⟨t, .dic ks vs⟩ => if ks.all D.isTup then some ⟨t, t.item, vs⟩ else none
    | _ => none)
/-- a test -/
def evt : MT → En → R Bool
  | .tt, ρ => .ok true ρ
  | .and a b, ρ => (evt a ρ).bind fun k ρ' => if k then evt b ρ' else .ok false ρ'
  | .or a b, ρ => (evt a ρ).bind fun k ρ' => if k then .ok true ρ' else evt b ρ'
  | .not a, ρ => (evt a ρ).bind fun k ρ' => .ok (!k) ρ'
  | .val e, ρ => (ev e ρ).bind fun v ρ' => R.of ρ' (truD v.d)
end
end

/-! ### statements -/
inductive Flow where
  | nx
  | rt (v : RV)
  | bk
  | ct
/-- what may be put into an owned thing -/
def storeT (v : RV) : Bool := match v.t with
  | .im => true
  | .fr => true
  | _ => v.d.imm
def setPath (v : D) : List D → D → Option D
  | [.int k], .lst ds => (ixN ds.length k).map fun j => .lst (ds.set j v)
  | [k], .dic ks vs => if keyFit k ks && decide (ks.length < big) then some (.dic (dicPut k v ks vs).1 (dicPut k v ks vs).2) else none
  | .int k :: p, .lst ds => (ixN ds.length k).bind fun j => ds[j]?.bind fun c => (setPath v p c).map fun c' => .lst (ds.set j c')
  | .int k :: p, .tup ds => (ixN ds.length k).bind fun j => ds[j]?.bind fun c => (setPath v p c).map fun c' => .tup (ds.set j c')
  | k :: p, .dic ks vs => if keyFit k ks then (keyAt k ks).bind fun j => vs[j]?.bind fun c => (setPath v p c).map fun c' => .dic ks (vs.set j c') else none
  | _, _ => none
def appPath (v : D) : List D → D → Option D
  | [], .lst ds => if ds.length < big then some (.lst (ds ++ [v])) else none
  | .int k :: p, .lst ds => (ixN ds.length k).bind fun j => ds[j]?.bind fun c => (appPath v p c).map fun c' => .lst (ds.set j c')
  | .int k :: p, .tup ds => (ixN ds.length k).bind fun j => ds[j]?.bind fun c => (appPath v p c).map fun c' => .tup (ds.set j c')
  | k :: p, .dic ks vs => if keyFit k ks then (keyAt k ks).bind fun j => vs[j]?.bind fun c => (appPath v p c).map fun c' => .dic ks (vs.set j c') else none
  | _, _ => none
/-- x[k][m] = v in a list of lists -/
def setTwo (v k m : D) : D → Option D
  | .lst ds => (match k, m with
    | .int k, .int m => (ixN ds.length k).bind fun j => (match ds[j]? with
      | some (.lst cs) => (ixN cs.length m).map fun i => .lst (ds.set j (.lst (cs.set i v)))
      | _ => none)
    | _, _ => none)
  | _ => none
/-- x[k].append(v) in a dict of lists, the keys tuples -/
def appAt (v k : D) : D → Option D
  | .dic ks vs => if keyFit k ks && k.isTup then (keyAt k ks).bind fun j => (match vs[j]? with
    | some (.lst cs) => if cs.length < big then some (.dic ks (vs.set j (.lst (cs ++ [v])))) else none
    | _ => none) else none
  | _ => none
/-- a list stands at k in the dict in the slot i -/
def dicLst (ρ : En) (i : Nat) (k : D) : Bool := match ρ.at i with
  | some ⟨_, .dic ks vs⟩ => keyFit k ks && k.isTup && (match keyAt k ks with
    | some j => (match vs[j]? with
      | some (.lst _) => true
      | _ => false)
    | none => false)
  | _ => false
/-- a name, or a constant -/
def ME.simp : ME → Bool
  | .var _ => true
  | .lit _ => true
  | _ => false
/-- change the thing in the slot i -/
def chgE (i : Nat) (f : D → Option D) (ρ : En) : Option En := match ρ.at i with
  | some ⟨.mu, d⟩ => (f d).map fun d' => ρ.put i (some ⟨.mu, d'⟩)
  | some ⟨.rf, d⟩ => (f d).map fun d' => ρ.put i (some ⟨.rf, d'⟩)
  | _ => none
def lockE (t : RT) (ρ : En) : Option En := match t with
  | .tm i => (match ρ.at i with
    | some ⟨.mu, d⟩ => some (ρ.put i (some ⟨.lk, d⟩))
    | some ⟨.lk, _⟩ => some ρ
    | _ => none)
  | _ => some ρ
def openE (t : RT) (ρ0 ρ : En) : En := match t with
  | .tm i => (match ρ0.at i with
    | some ⟨.mu, _⟩ => (match ρ.at i with
      | some ⟨.lk, d⟩ => ρ.put i (some ⟨.mu, d⟩)
      | _ => ρ)
    | _ => ρ)
  | _ => ρ
def forR (bind : D → En → Option En) (body : En → R Flow) : List D → En → R Flow
  | [], ρ => .ok .nx ρ
  | d :: ds, ρ => (match bind d ρ with
    | none => .no
    | some ρ1 => match body ρ1 with
      | .ok .nx ρ2 => forR bind body ds ρ2
      | .ok .ct ρ2 => forR bind body ds ρ2
      | .ok .bk ρ2 => .ok .nx ρ2
      | .ok (.rt v) ρ2 => .ok (.rt v) ρ2
      | .ex c ρ2 => .ex c ρ2
      | .no => .no)
def loopN (f : En → Sum (R Flow) En) : Nat → En → Option (R Flow)
  | 0, _ => none
  | n + 1, ρ => (match f ρ with
    | .inl r => some r
    | .inr ρ' => loopN f n ρ')
open Classical in
noncomputable def loopR (f : En → Sum (R Flow) En) (ρ : En) : R Flow := if h : ∃ r, ∃ n, loopN f n ρ = some r then h.choose else .no
def whlS (c : En → R Bool) (b : En → R Flow) (ρ : En) : Sum (R Flow) En := match c ρ with
  | .ok false ρ' => .inl (.ok .nx ρ')
  | .ok true ρ' => (match b ρ' with
    | .ok .nx ρ2 => .inr ρ2
    | .ok .ct ρ2 => .inr ρ2
    | .ok .bk ρ2 => .inl (.ok .nx ρ2)
    | .ok (.rt v) ρ2 => .inl (.ok (.rt v) ρ2)
    | .ex c ρ2 => .inl (.ex c ρ2)
    | .no => .inl .no)
  | .ex c ρ' => .inl (.ex c ρ')
  | .no => .inl .no
theorem loopN_mono {f : En → Sum (R Flow) En} : ∀ {n m : Nat} {ρ : En} {r : R Flow}, loopN f n ρ = some r → n ≤ m → loopN f m ρ = some r
  | 0, _, _, _, h, _ => by cases h
  | n + 1, 0, _, _, _, hm => absurd hm (Nat.not_succ_le_zero _)
  | n + 1, m + 1, ρ, r, h, hm => by
    unfold loopN at h ⊢
    cases e : f ρ with
    | inl q => rw [e] at h; exact h
    | inr ρ' => rw [e] at h; exact loopN_mono (n := n) (m := m) h (Nat.le_of_succ_le_succ hm)
theorem loopR_of {f : En → Sum (R Flow) En} {n : Nat} {ρ : En} {r : R Flow} (h : loopN f n ρ = some r) : loopR f ρ = r := by
  have hx : ∃ r, ∃ n, loopN f n ρ = some r := ⟨r, n, h⟩
  unfold loopR
  rw [dif_pos hx]
  obtain ⟨m, hm⟩ := hx.choose_spec
  have a := loopN_mono hm (Nat.le_max_left m n)
  have b := loopN_mono h (Nat.le_max_right m n)
  rw [a] at b
  exact Option.some.inj b
theorem loopR_no {f : En → Sum (R Flow) En} {ρ : En} (h : ¬ ∃ r, ∃ n, loopN f n ρ = some r) : loopR f ρ = .no := by
  unfold loopR
  rw [dif_neg h]
theorem loopR_eq (f : En → Sum (R Flow) En) (ρ : En) : loopR f ρ = match f ρ with
    | .inl r => r
    | .inr ρ' => loopR f ρ' := by
  by_cases h : ∃ r, ∃ n, loopN f n ρ = some r
  · obtain ⟨r, n, hn⟩ := h
    rw [loopR_of hn]
    cases n with
    | zero => cases hn
    | succ n =>
      unfold loopN at hn
      cases e : f ρ with
      | inl q => rw [e] at hn; exact (Option.some.inj hn).symm
      | inr ρ' => rw [e] at hn; exact (loopR_of hn).symm
  · rw [loopR_no h]
    cases e : f ρ with
    | inl q => exact absurd ⟨q, 1, by unfold loopN; rw [e]⟩ h
    | inr ρ' =>
      refine (loopR_no fun ⟨r, n, hn⟩ => h ⟨r, n + 1, ?_⟩).symm
      unfold loopN
      rw [e]
      exact hn
theorem loopR_some {f : En → Sum (R Flow) En} {ρ : En} (h : loopR f ρ ≠ .no) : ∃ n, loopN f n ρ = some (loopR f ρ) := by
  by_cases hx : ∃ r, ∃ n, loopN f n ρ = some r
  · obtain ⟨r, n, hn⟩ := hx
    exact ⟨n, by rw [loopR_of hn]; exact hn⟩
  · exact absurd (loopR_no hx) h
/-- values stored at once: none of them owned, or all but one without a list -/
def parOk (ts : List (Nat × Bool)) (vs : List RV) : Bool := ts.all (fun t => !t.2) || decide ((vs.filter fun v => !(decide (v.t = .im) || v.d.imm)).length ≤ 1) || vs.all fun v => decide (v.t = .im) || v.d.imm || decide (v.t = .fr)
def parT (o : Bool) (v : RV) : RT := if v.d.imm then .im else if o then v.t else v.t.item
def parE : List (Nat × Bool) → List RV → En → Option En
  | [], [], ρ => some ρ
  | (i, o) :: ts, v :: vs, ρ => (bindT (.nm i o) (parT o v) v.d ρ).bind (parE ts vs)
  | _, _, _ => none
def lstAt (ρ : En) (i : Nat) : Bool := match ρ.at i with
  | some ⟨_, .lst _⟩ => true
  | _ => false
noncomputable section
variable (G : Tab) (C : Nat → Option D)
mutual
def exc : MS → En → R Flow
  | .asg tg e, ρ => (ev G C e ρ).bind fun v ρ' => (match bindT tg v.t v.d ρ' with
    | some ρ'' => .ok .nx ρ''
    | none => .no)
  | .par ts es, ρ => (evs G C es ρ).bind fun vs ρ' => if parOk ts vs then (match parE ts vs ρ' with
    | some ρ'' => .ok .nx ρ''
    | none => .no) else .no
  | .set i p e, ρ => (ev G C e ρ).bind fun v ρ' => if storeT v && p.pure && (ρ'.at i).isSome then (evs G C p ρ').bind fun ks ρ'' => (match chgE i (setPath v.d (ks.map (·.d))) ρ'' with
    | some ρ3 => .ok .nx ρ3
    | none => .no) else .no
  | .app i p e, ρ => if lstAt ρ i && p.pure && (e.pure || (match p with | .nil => true | _ => false)) then (evs G C p ρ).bind fun ks ρ' => (ev G C e ρ').bind fun v ρ'' => if storeT v then (match chgE i (appPath v.d (ks.map (·.d))) ρ'' with
    | some ρ3 => .ok .nx ρ3
    | none => .no) else .no else .no
  | .st2 i a b e, ρ => (ev G C e ρ).bind fun v ρ' => if storeT v && a.simp && b.simp && (ρ'.at i).isSome then (ev G C a ρ').bind fun x ρ1 => (ev G C b ρ1).bind fun y ρ2 => (match chgE i (setTwo v.d x.d y.d) ρ2 with
    | some ρ3 => .ok .nx ρ3
    | none => .no) else .no
  | .apk i a e, ρ => if a.simp && e.pure then (ev G C a ρ).bind fun x ρ1 => if dicLst ρ1 i x.d then (ev G C e ρ1).bind fun v ρ2 => if storeT v then (match chgE i (appAt v.d x.d) ρ2 with
    | some ρ3 => .ok .nx ρ3
    | none => .no) else .no else .no else .no
  | .expr e, ρ => (ev G C e ρ).bind fun _ ρ' => .ok .nx ρ'
  | .ret e, ρ => (ev G C e ρ).bind fun v ρ' => (match retT v with
    | some v' => .ok (.rt v') ρ'
    | none => .no)
  | .retN, ρ => .ok (.rt ⟨.im, .non⟩) ρ
  | .ife c a b, ρ => (evt G C c ρ).bind fun k ρ' => if k then exs a ρ' else exs b ρ'
  | .whl c b, ρ => loopR (whlS (evt G C c) (exs b)) ρ
  | .fr tg it b, ρ => (evi G C it ρ).bind fun r ρ' => (match lockE r.root ρ' with
    | none => .no
    | some ρ1 => (forR (bindT tg r.t) (exs b) r.ds ρ1).bind fun f ρ2 => .ok f (openE r.root ρ' ρ2))
  | .rse c, ρ => .ex c ρ
  | .tri b hs, ρ => (match exs b ρ with
    | .ex c ρ' => exh hs c ρ'
    | r => r)
  | .pass, ρ => .ok .nx ρ
  | .brk, ρ => .ok .bk ρ
  | .cnt, ρ => .ok .ct ρ
def exs : MSs → En → R Flow
  | .nil, ρ => .ok .nx ρ
  | .cons s ss, ρ => (exc s ρ).bind fun f ρ' => (match f with
    | .nx => exs ss ρ'
    | f => .ok f ρ')
def exh : MHs → Nat → En → R Flow
  | .nil, c, ρ => .ex c ρ
  | .cons c' s hs, c, ρ => if c = c' then exc s ρ else exh hs c ρ
end
/-- the contents of the parameters that may be changed -/
def outsOf : List Mode → Nat → En → Option (List D)
  | [], _, _ => some []
  | .rf :: ms, i, ρ => (match ρ.at i with
    | some ⟨.rf, d⟩ => (outsOf ms (i + 1) ρ).map (d :: ·)
    | _ => none)
  | _ :: ms, i, ρ => outsOf ms (i + 1) ρ
def Mode.slot : Mode → ST
  | .im => .im
  | .vl => .vl
  | .rf => .rf
def startE : List Mode → List D → Nat → Option En
  | [], [], n => some (List.replicate n none)
  | m :: ms, d :: ds, n => (startE ms ds n).map (some ⟨m.slot, d⟩ :: ·)
  | _, _, _ => none
/-- a def: its parameters' modes, the number of its other names, its body -/
def runF (ms : List Mode) (n : Nat) (b : MSs) (ds : List D) : SR := match startE ms ds n with
  | none => .no
  | some ρ => (match exs G C b ρ with
    | .ok (.rt v) ρ' => (match outsOf ms 0 ρ' with
      | some o => .ret v o
      | none => .no)
    | .ok .nx ρ' => (match outsOf ms 0 ρ' with
      | some o => .ret ⟨.im, .non⟩ o
      | none => .no)
    | .ok _ _ => .no
    | .ex c ρ' => (match outsOf ms 0 ρ' with
      | some o => .ex c o
      | none => .no)
    | .no => .no)
end
end Ev
end

section
set_option Elab.async false
set_option linter.all false
set_option maxRecDepth 100000
/-! How data lies in the abstract heap; footprints. -/
namespace Ev
open PySem L2

abbrev FP := Addr → Nat
def fz : FP := fun _ => 0
def fs (a : Addr) : FP := fun b => if b = a then 1 else 0
def fa (f g : FP) : FP := fun b => f b + g b
theorem fs_self (a : Addr) : fs a a = 1 := if_pos rfl
theorem fs_ne {a b : Addr} (h : b ≠ a) : fs a b = 0 := if_neg h
theorem fs_pos {a b : Addr} (h : 0 < fs a b) : b = a := by
  by_cases e : b = a
  · exact e
  · rw [fs_ne e] at h; exact absurd h (Nat.lt_irrefl _)

/-- a list that never changes: the script -/
def SqF (K : PySem.W.Frag) (H : Hp) (a : Addr) (xs : List V) : Prop :=
  (∃ o, H a = some (.frz o (.lst xs))) ∨
    ∃ (o : Obj) (its : Array Value) (n : Nat), K.lookup a = some o ∧ o.cls = .type "list" ∧ o.dict = none ∧ o.data = .seq its n ∧ its.size ≤ sizeLine ∧ Vals xs its.toList
theorem SqF.sq {K : PySem.W.Frag} {H : Hp} {a : Addr} {xs : List V} (h : SqF K H a xs) : SqL K H a xs := by
  rcases h with ⟨o, h⟩ | h
  · exact .inl (.inr ⟨o, h⟩)
  · exact .inr h

/-! ### keys of dicts -/
mutual
def D.nk : D → NestedKey
  | .non => .none
  | .bl b => .num (if b then 1 else 0)
  | .int i => .num i
  | .str x => .text x
  | .tup ds => .tup (nkAll ds)
  | .lst _ => .none
  | .dic _ _ => .none
  | .ins _ _ _ => .none
  | .scr _ => .none
  | .opq _ => .none
def nkAll : List D → List NestedKey
  | [] => []
  | d :: ds => d.nk :: nkAll ds
end
def D.leaf : D → Leaf
  | .bl b => .num (if b then 1 else 0)
  | .int i => .num i
  | .str x => .text x
  | _ => .none
/-- the entries of a dict: of tuples, of plain keys -/
inductive DE where
  | tp (o : Obj) (xs : List (NestedKey × Addr × Value))
  | lf (o : Obj) (xs : List (Leaf × Value))
def DE.vals : DE → List Value
  | .tp _ xs => xs.map (·.2.2)
  | .lf _ xs => xs.map (·.2)
def DE.phi (P : Program) (w : World) (a : Addr) : DE → Heap → Prop
  | .tp o xs => fun h => ∃ es ep, h.get? a = some o ∧ o.ExactDict ∧ o.data = .dict es ep ∧ es.toList = xs.map (entryOfKey (nestedKind P w)) ∧ (xs.map (·.1)).Nodup
  | .lf o xs => fun h => h.get? a = some o ∧ h.DictOf (leafKind P w) a xs

/-! ### data in the abstract heap -/
section
variable (P : Program) (w : World) (K : PySem.W.Frag) (H : Hp)
mutual
inductive Rep : V → D → FP → Prop
  | non : Rep .non .non fz
  | bl (b : Bool) : Rep (.bl b) (.bl b) fz
  | int (i : Int) : Rep (.int i) (.int i) fz
  | str (x : Str) : Rep (.str x) (.str x) fz
  | tup {a : Addr} {vs : List V} {ds : List D} {f : FP} : SqT K H a vs → RepL vs ds f → Rep (.ref a) (.tup ds) f
  | lst {a : Addr} {vs : List V} {ds : List D} {f : FP} : H a = some (.lst vs) → RepL vs ds f → Rep (.ref a) (.lst ds) (fa (fs a) f)
  | dicT {a : Addr} {o : Obj} {xs : List (NestedKey × Addr × Value)} {ks ds : List D} {vs : List V} {f : FP} : H a = some (.ext (DE.phi P w a (.tp o xs))) → (a == sysModules) = false → xs.length ≤ sizeLine →
      xs.map (·.1) = ks.map D.nk → ks.all D.isTup = true → keyedAll 8 ks = true → RepL (xs.map fun x => V.ref x.2.1) ks fz → Vals vs (xs.map (·.2.2)) → RepL vs ds f → Rep (.ref a) (.dic ks ds) (fa (fs a) f)
  | dicL {a : Addr} {o : Obj} {xs : List (Leaf × Value)} {ks ds : List D} {vs : List V} {f : FP} : H a = some (.ext (DE.phi P w a (.lf o xs))) → (a == sysModules) = false → xs.length ≤ sizeLine →
      xs.map (·.1) = ks.map D.leaf → keyedAll 1 ks = true → ks.all (fun k => !k.isTup) = true → Vals vs (xs.map (·.2)) → RepL vs ds f → Rep (.ref a) (.dic ks ds) (fa (fs a) f)
  | ins {a C dx : Addr} {ns : List Str} {vs : List V} {ds : List D} {f : FP} : H a = some (.ins C dx (ns.zip vs)) → ns.length = vs.length → RepL vs ds f → Rep (.ref a) (.ins C ns ds) (fa (fs a) f)
  | scr {a : Addr} {ns : List Int} : SqF K H a (ns.map V.int) → Rep (.ref a) (.scr ns) fz
  | opq (v : V) : Rep v (.opq v) fz
inductive RepL : List V → List D → FP → Prop
  | nil : RepL [] [] fz
  | cons {v : V} {vs : List V} {d : D} {ds : List D} {f g : FP} : Rep v d f → RepL vs ds g → RepL (v :: vs) (d :: ds) (fa f g)
end
end

/-- what may be written in an owned thing -/
def wr : HO → Prop
  | .lst _ => True
  | .ext _ => True
  | .ins _ _ _ => True
  | _ => False

section
variable {P : Program} {w : World} {K : PySem.W.Frag} {H H' : Hp}
theorem Rep.cast {v : V} {d : D} {f g : FP} (h : Rep P w K H v d f) (e : ∀ a, f a = g a) : Rep P w K H v d g := by
  have e' : f = g := funext e
  subst e'; exact h
theorem RepL.cast {v : List V} {d : List D} {f g : FP} (h : RepL P w K H v d f) (e : ∀ a, f a = g a) : RepL P w K H v d g := by
  have e' : f = g := funext e
  subst e'; exact h
mutual
theorem Rep.imm : ∀ {d : D} {v : V} {f : FP}, Rep P w K H v d f → d.imm = true → f = fz
  | .non, _, _, .non, _ => rfl
  | .bl _, _, _, .bl _, _ => rfl
  | .int _, _, _, .int _, _ => rfl
  | .str _, _, _, .str _, _ => rfl
  | .tup ds, _, _, .tup _ h, e => h.imm (by simpa [D.imm] using e)
  | .lst _, _, _, .lst _ _, e => by simp [D.imm] at e
  | .dic _ _, _, _, _, e => by simp [D.imm] at e
  | .ins _ _ _, _, _, _, e => by simp [D.imm] at e
  | .scr _, _, _, .scr _, _ => rfl
  | .opq _, _, _, .opq _, _ => rfl
theorem RepL.imm : ∀ {ds : List D} {vs : List V} {f : FP}, RepL P w K H vs ds f → immAll ds = true → f = fz
  | [], _, _, .nil, _ => rfl
  | d :: ds, _, _, .cons h1 h2, e => by
    have e' : d.imm = true ∧ immAll ds = true := by simpa [immAll] using e
    rw [h1.imm e'.1, h2.imm e'.2]
    rfl
end
/-- nothing that the data leans on has changed -/
def Kept (H H' : Hp) (f : FP) : Prop := ∀ a o, H a = some o → (0 < f a ∨ ¬ wr o) → H' a = some o
theorem Kept.mono {f g : FP} (h : Kept H H' f) (e : ∀ a, 0 < g a → 0 < f a) : Kept H H' g := fun a o q z => h a o q (z.imp (e a) id)
theorem Same.kept (h : Same H H') (f : FP) : Kept H H' f := fun a o q _ => h a o q
theorem SqT.kept {a : Addr} {vs : List V} {f : FP} (k : Kept H H' f) (h : SqT K H a vs) : SqT K H' a vs := by
  rcases h with (h | ⟨o, h⟩) | h
  · exact .inl (.inl (k _ _ h (.inr fun z => z)))
  · exact .inl (.inr ⟨o, k _ _ h (.inr fun z => z)⟩)
  · exact .inr h
theorem SqF.kept {a : Addr} {vs : List V} {f : FP} (k : Kept H H' f) (h : SqF K H a vs) : SqF K H' a vs := by
  rcases h with ⟨o, h⟩ | h
  · exact .inl ⟨o, k _ _ h (.inr fun z => z)⟩
  · exact .inr h
theorem fa_left {f g : FP} {a : Addr} (h : 0 < f a) : 0 < fa f g a := Nat.lt_of_lt_of_le h (Nat.le_add_right _ _)
theorem fa_right {f g : FP} {a : Addr} (h : 0 < g a) : 0 < fa f g a := Nat.lt_of_lt_of_le h (Nat.le_add_left _ _)
theorem fa_self {a : Addr} {g : FP} : 0 < fa (fs a) g a := fa_left (by rw [fs_self]; exact Nat.one_pos)
mutual
theorem Rep.kept : ∀ {d : D} {v : V} {f : FP}, Rep P w K H v d f → Kept H H' f → Rep P w K H' v d f
  | .non, _, _, .non, _ => .non
  | .bl _, _, _, .bl _, _ => .bl _
  | .int _, _, _, .int _, _ => .int _
  | .str _, _, _, .str _, _ => .str _
  | .tup ds, _, _, .tup h1 h2, k => .tup (SqT.kept k h1) (h2.kept k)
  | .lst _, _, _, .lst h1 h2, k => .lst (k _ _ h1 (.inl fa_self)) (h2.kept (k.mono fun _ z => fa_right z))
  | .dic _ _, _, _, .dicT h1 h2 h3 h4 h5 h6 h7 h8 h9, k => .dicT (k _ _ h1 (.inl fa_self)) h2 h3 h4 h5 h6 (h7.kept (k.mono fun _ z => absurd z (Nat.lt_irrefl _))) h8 (h9.kept (k.mono fun _ z => fa_right z))
  | .dic _ _, _, _, .dicL h1 h2 h3 h4 h5 h6 h7 h8, k => .dicL (k _ _ h1 (.inl fa_self)) h2 h3 h4 h5 h6 h7 (h8.kept (k.mono fun _ z => fa_right z))
  | .ins _ _ _, _, _, .ins h1 h2 h3, k => .ins (k _ _ h1 (.inl fa_self)) h2 (h3.kept (k.mono fun _ z => fa_right z))
  | .scr _, _, _, .scr h, k => .scr (SqF.kept k h)
  | .opq _, _, _, .opq _, _ => .opq _
theorem RepL.kept : ∀ {ds : List D} {vs : List V} {f : FP}, RepL P w K H vs ds f → Kept H H' f → RepL P w K H' vs ds f
  | [], _, _, .nil, _ => .nil
  | _ :: _, _, _, .cons h1 h2, k => .cons (h1.kept (k.mono fun _ z => fa_left z)) (h2.kept (k.mono fun _ z => fa_right z))
end
/-! what a footprint names is there, and may be written -/
mutual
theorem Rep.there : ∀ {d : D} {v : V} {f : FP}, Rep P w K H v d f → ∀ a, 0 < f a → ∃ o, H a = some o ∧ wr o
  | .non, _, _, .non, _, h => absurd h (Nat.lt_irrefl _)
  | .bl _, _, _, .bl _, _, h => absurd h (Nat.lt_irrefl _)
  | .int _, _, _, .int _, _, h => absurd h (Nat.lt_irrefl _)
  | .str _, _, _, .str _, _, h => absurd h (Nat.lt_irrefl _)
  | .tup ds, _, _, .tup h1 h2, a, h => h2.there a h
  | .lst _, _, _, .lst (a := b) h1 h2, a, h => by
    by_cases e : a = b
    · subst e; exact ⟨_, h1, trivial⟩
    · refine h2.there a ?_
      have h' : 0 < fs b a + _ := h
      rw [fs_ne e] at h'; omega
  | .dic _ _, _, _, .dicT (a := b) h1 _ _ _ _ _ _ _ h2, a, h => by
    by_cases e : a = b
    · subst e; exact ⟨_, h1, trivial⟩
    · refine h2.there a ?_
      have h' : 0 < fs b a + _ := h
      rw [fs_ne e] at h'; omega
  | .dic _ _, _, _, .dicL (a := b) h1 _ _ _ _ _ _ h2, a, h => by
    by_cases e : a = b
    · subst e; exact ⟨_, h1, trivial⟩
    · refine h2.there a ?_
      have h' : 0 < fs b a + _ := h
      rw [fs_ne e] at h'; omega
  | .ins _ _ _, _, _, .ins (a := b) h1 _ h2, a, h => by
    by_cases e : a = b
    · subst e; exact ⟨_, h1, trivial⟩
    · refine h2.there a ?_
      have h' : 0 < fs b a + _ := h
      rw [fs_ne e] at h'; omega
  | .scr _, _, _, .scr _, _, h => absurd h (Nat.lt_irrefl _)
  | .opq _, _, _, .opq _, _, h => absurd h (Nat.lt_irrefl _)
theorem RepL.there : ∀ {ds : List D} {vs : List V} {f : FP}, RepL P w K H vs ds f → ∀ a, 0 < f a → ∃ o, H a = some o ∧ wr o
  | [], _, _, .nil, _, h => absurd h (Nat.lt_irrefl _)
  | _ :: _, _, _, .cons (f := f) (g := g) h1 h2, a, h => by
    by_cases e : 0 < f a
    · exact h1.there a e
    · refine h2.there a ?_
      have h' : 0 < f a + g a := h
      omega
end
theorem RepL.uncons {v : V} {vs : List V} {d : D} {ds : List D} {f : FP} (h : RepL P w K H (v :: vs) (d :: ds) f) : ∃ g1 g2, f = fa g1 g2 ∧ Rep P w K H v d g1 ∧ RepL P w K H vs ds g2 := by
  cases h with
  | cons h1 h2 => exact ⟨_, _, rfl, h1, h2⟩
theorem RepL.uncons0 {v : V} {vs : List V} {d : D} {ds : List D} (h : RepL P w K H (v :: vs) (d :: ds) fz) : Rep P w K H v d fz ∧ RepL P w K H vs ds fz := by
  obtain ⟨g1, g2, e, h1, h2⟩ := h.uncons
  have z : ∀ a, g1 a = 0 ∧ g2 a = 0 := fun a => by
    have q : (0 : Nat) = g1 a + g2 a := congrFun e a
    omega
  exact ⟨h1.cast fun a => (z a).1, h2.cast fun a => (z a).2⟩
theorem RepL.length : ∀ {ds : List D} {vs : List V} {f : FP}, RepL P w K H vs ds f → vs.length = ds.length
  | [], _, _, .nil => rfl
  | _ :: _, _, _, .cons _ h => by simp [h.length]
theorem RepL.get : ∀ {ds : List D} {vs : List V} {f : FP} {i : Nat} {d : D}, RepL P w K H vs ds f → ds[i]? = some d → ∃ v g, vs[i]? = some v ∧ Rep P w K H v d g ∧ ∀ a, g a ≤ f a
  | [], _, _, _, _, .nil, e => by simp at e
  | _ :: _, _, _, 0, _, .cons h1 h2, e => by
    simp at e; subst e
    exact ⟨_, _, rfl, h1, fun a => Nat.le_add_right _ _⟩
  | _ :: _, _, _, i + 1, _, .cons h1 h2, e => by
    obtain ⟨v, g, e1, r, l⟩ := h2.get (i := i) (by simpa using e)
    exact ⟨v, g, by simpa using e1, r, fun a => Nat.le_trans (l a) (Nat.le_add_left _ _)⟩
theorem RepL.append : ∀ {ds es : List D} {vs us : List V} {f g : FP}, RepL P w K H vs ds f → RepL P w K H us es g → RepL P w K H (vs ++ us) (ds ++ es) (fa f g)
  | [], _, _, _, _, _, .nil, h => h.cast fun a => (Nat.zero_add _).symm
  | _ :: _, _, _, _, _, _, .cons h1 h2, h => (RepL.cons h1 (h2.append h)).cast fun a => by simp [fa]; omega
theorem RepL.drop : ∀ {ds : List D} {vs : List V} {f : FP} (n : Nat), RepL P w K H vs ds f → ∃ g, RepL P w K H (vs.drop n) (ds.drop n) g ∧ ∀ a, g a ≤ f a
  | _, _, f, 0, h => ⟨f, h, fun _ => Nat.le_refl _⟩
  | [], _, _, _ + 1, .nil => ⟨fz, .nil, fun _ => Nat.le_refl _⟩
  | _ :: _, _, _, n + 1, .cons h1 h2 => by
    obtain ⟨g, r, l⟩ := h2.drop n
    exact ⟨g, r, fun a => Nat.le_trans (l a) (Nat.le_add_left _ _)⟩
theorem RepL.take : ∀ {ds : List D} {vs : List V} {f : FP} (n : Nat), RepL P w K H vs ds f → ∃ g, RepL P w K H (vs.take n) (ds.take n) g ∧ ∀ a, g a ≤ f a
  | _, _, f, 0, h => ⟨fz, .nil, fun _ => Nat.zero_le _⟩
  | [], _, _, _ + 1, .nil => ⟨fz, .nil, fun _ => Nat.le_refl _⟩
  | _ :: _, _, _, n + 1, .cons h1 h2 => by
    obtain ⟨g, r, l⟩ := h2.take n
    exact ⟨_, .cons h1 r, fun a => Nat.add_le_add_left (l a) _⟩
theorem RepL.reverse : ∀ {ds : List D} {vs : List V} {f : FP}, RepL P w K H vs ds f → RepL P w K H vs.reverse ds.reverse f
  | [], _, _, .nil => .nil
  | _ :: _, _, _, .cons h1 h2 => by
    rw [List.reverse_cons, List.reverse_cons]
    exact (h2.reverse.append (.cons h1 .nil)).cast fun a => by simp [fa, fz]; omega
theorem RepL.cut {ds : List D} {vs : List V} {f : FP} (h : RepL P w K H vs ds f) (lo hi : Option Int) : ∃ g, RepL P w K H (cutV vs lo hi) (cutD ds lo hi) g ∧ ∀ a, g a ≤ f a := by
  unfold cutV cutD
  rw [h.length]
  obtain ⟨g, r, l⟩ := h.drop (HT.sIx ds.length 0 lo)
  obtain ⟨g', r', l'⟩ := r.take (HT.sIx ds.length ds.length hi - HT.sIx ds.length 0 lo)
  exact ⟨g', r', fun a => Nat.le_trans (l' a) (l a)⟩
theorem RepL.imms {ds : List D} {vs : List V} (h : RepL P w K H vs ds fz) : ∀ {i : Nat} {d : D}, ds[i]? = some d → ∃ v, vs[i]? = some v ∧ Rep P w K H v d fz := fun {i d} e => by
  obtain ⟨v, g, e1, r, l⟩ := h.get e
  exact ⟨v, e1, r.cast fun a => Nat.le_antisymm (l a) (Nat.zero_le _)⟩
theorem RepL.flat {ds : List D} {vs : List V} (h : RepL P w K H vs ds fz) : ∀ n : Nat, RepL P w K H (List.replicate n vs).flatten (List.replicate n ds).flatten fz
  | 0 => .nil
  | n + 1 => by
    rw [List.replicate_succ, List.replicate_succ, List.flatten_cons, List.flatten_cons]
    exact (h.append (h.flat n)).cast fun a => rfl
end
end Ev
end

section
set_option Elab.async false
set_option linter.all false
set_option maxRecDepth 100000
/-! The state of a def's body: environment against slots and abstract heap; what a step may change. -/
namespace Ev
open PySem L2

structure Bs where
  P : Program
  w : World
  K : PySem.W.Frag
  H0 : Hp
  M0 : FP
  A0 : Addr → Prop

def own : ST → Bool
  | .mu => true
  | .rf => true
  | .lk => true
  | _ => false
def chg : ST → Bool
  | .mu => true
  | .rf => true
  | _ => false
def frz : ST → Bool
  | .vl => true
  | _ => false
def ctr (p : ST → Bool) : Option SV → FP → FP
  | some s, f => if p s.t then f else fz
  | none, _ => fz
def sumOf (p : ST → Bool) : En → List FP → FP
  | s :: ρ, f :: fs => fa (ctr p s f) (sumOf p ρ fs)
  | _, _ => fz
inductive Slot (B : Bs) (H : Hp) : Option SV → Option V → FP → Prop
  | nul {o : Option V} : Slot B H none o fz
  | val {t : ST} {d : D} {v : V} {f : FP} : Rep B.P B.w B.K H v d f → (t = .im → f = fz) → Slot B H (some ⟨t, d⟩) (some v) f
inductive Slots (B : Bs) (H : Hp) : En → St → List FP → Prop
  | nil : Slots B H [] [] []
  | cons {s : Option SV} {o : Option V} {f : FP} {ρ : En} {σ : St} {fs : List FP} : Slot B H s o f → Slots B H ρ σ fs → Slots B H (s :: ρ) (o :: σ) (f :: fs)

structure StR (B : Bs) (σ : St) (H : Hp) (ρ : En) (fs : List FP) : Prop where
  sl : Slots B H ρ σ fs
  m1 : ∀ a, sumOf own ρ fs a ≤ 1
  mn : ∀ a, 0 < sumOf own ρ fs a → sumOf frz ρ fs a = 0
  b1 : ∀ a o, B.H0 a = some o → B.M0 a = 0 → H a = some o
  b2 : ∀ a, B.H0 a ≠ none → H a ≠ none
  b3 : ∀ f ∈ fs, ∀ a, 0 < f a → B.H0 a = none ∨ B.A0 a
  b4 : ∀ a, 0 < sumOf own ρ fs a → B.H0 a = none ∨ 0 < B.M0 a

section
variable {B : Bs} {H H' : Hp} {ρ ρ' : En} {σ : St} {fs fs' : List FP}
theorem Slots.len (h : Slots B H ρ σ fs) : ρ.length = σ.length ∧ fs.length = σ.length := by
  induction h with
  | nil => exact ⟨rfl, rfl⟩
  | cons _ _ ih => simp [ih.1, ih.2]
theorem Slots.get (h : Slots B H ρ σ fs) : ∀ {i : Nat} {s : Option SV}, ρ[i]? = some s → ∃ o f, σ[i]? = some o ∧ fs[i]? = some f ∧ Slot B H s o f := by
  induction h with
  | nil => intro i s e; simp at e
  | cons h1 _ ih =>
    intro i s e
    cases i with
    | zero => simp at e; subst e; exact ⟨_, _, rfl, rfl, h1⟩
    | succ i =>
      obtain ⟨o, f, e1, e2, q⟩ := ih (i := i) (by simpa using e)
      exact ⟨o, f, by simpa using e1, by simpa using e2, q⟩
theorem Slots.set (h : Slots B H ρ σ fs) : ∀ {i : Nat} {s : Option SV} {o : Option V} {f : FP}, Slot B H s o f → Slots B H (ρ.set i s) (σ.set i o) (fs.set i f) := by
  induction h with
  | nil => intro i s o f q; exact .nil
  | cons h1 h2 ih =>
    intro i s o f q
    cases i with
    | zero => exact .cons q h2
    | succ i => exact .cons h1 (ih q)
theorem Slots.of : ∀ {ρ : En} {σ : St} {fs : List FP}, ρ.length = σ.length → fs.length = σ.length → (∀ (i : Nat) (s : Option SV), ρ[i]? = some s → ∃ o f, σ[i]? = some o ∧ fs[i]? = some f ∧ Slot B H s o f) → Slots B H ρ σ fs
  | [], [], [], _, _, _ => .nil
  | [], _ :: _, _, h, _, _ => by cases h
  | _ :: _, [], _, h, _, _ => by cases h
  | _, [], _ :: _, _, h, _ => by cases h
  | _, _ :: _, [], _, h, _ => by cases h
  | s :: ρ, o :: σ, f :: fs, h1, h2, h => by
    obtain ⟨o', f', e1, e2, q⟩ := h 0 s rfl
    simp at e1 e2
    subst e1; subst e2
    exact .cons q (Slots.of (by simpa using h1) (by simpa using h2) fun i s e => by
      obtain ⟨o', f', e1, e2, q⟩ := h (i + 1) s (by simpa using e)
      exact ⟨o', f', by simpa using e1, by simpa using e2, q⟩)
/-- a slot forgotten, the value stays -/
theorem Slots.del (h : Slots B H ρ σ fs) : ∀ (i : Nat), Slots B H (ρ.set i none) σ (fs.set i fz) := by
  induction h with
  | nil => intro i; exact .nil
  | cons h1 h2 ih =>
    intro i
    cases i with
    | zero => exact .cons .nul h2
    | succ i => exact .cons h1 (ih i)
/-- a slot with the same value, another footprint -/
theorem Slots.put (h : Slots B H ρ σ fs) : ∀ {i : Nat} {s : SV} {v : V} {f : FP}, σ[i]? = some (some v) → Slot B H (some s) (some v) f → Slots B H (ρ.set i (some s)) σ (fs.set i f) := by
  induction h with
  | nil => intro i s v f e q; exact .nil
  | cons h1 h2 ih =>
    intro i s v f e q
    cases i with
    | zero => simp at e; subst e; exact .cons q h2
    | succ i => exact .cons h1 (ih (by simpa using e) q)
theorem sum_set (p : ST → Bool) : ∀ (ρ : En) (fs : List FP) (i : Nat) (s s' : Option SV) (f f' : FP), ρ[i]? = some s → fs[i]? = some f → ∀ a, sumOf p (ρ.set i s') (fs.set i f') a + ctr p s f a = sumOf p ρ fs a + ctr p s' f' a
  | [], _, _, _, _, _, _, e, _, _ => by simp at e
  | _ :: _, [], _, _, _, _, _, _, e, _ => by simp at e
  | s0 :: ρ, f0 :: fs, 0, s, s', f, f', e1, e2, a => by
    simp at e1 e2; subst e1; subst e2
    simp [sumOf, fa]; omega
  | s0 :: ρ, f0 :: fs, i + 1, s, s', f, f', e1, e2, a => by
    have ih := sum_set p ρ fs i s s' f f' (by simpa using e1) (by simpa using e2) a
    simp [sumOf, fa]; omega
theorem sum_ge (p : ST → Bool) {s : Option SV} {f : FP} {i : Nat} (e1 : ρ[i]? = some s) (e2 : fs[i]? = some f) (a : Addr) : ctr p s f a ≤ sumOf p ρ fs a := by
  have h := sum_set p ρ fs i s s f f e1 e2 a
  have e : ρ.set i s = ρ := by
    refine List.ext_getElem? fun j => ?_
    by_cases q : i = j
    · subst q
      obtain ⟨h1, h2⟩ := List.getElem?_eq_some_iff.mp e1
      rw [List.getElem?_set_self h1, e1]
    · rw [List.getElem?_set_ne q]
  have h0 := sum_set p ρ fs i s none f fz e1 e2 a
  have z : ctr p (none : Option SV) fz a = 0 := rfl
  omega
/-- two own parts do not meet -/
theorem sum_two (p : ST → Bool) {s s' : Option SV} {f f' : FP} {i j : Nat} (ne : i ≠ j) (e1 : ρ[i]? = some s) (e2 : fs[i]? = some f) (e3 : ρ[j]? = some s') (e4 : fs[j]? = some f') (a : Addr) : ctr p s f a + ctr p s' f' a ≤ sumOf p ρ fs a := by
  have h0 := sum_set p ρ fs i s none f fz e1 e2 a
  have z : ctr p (none : Option SV) fz a = 0 := rfl
  have h1 := sum_ge p (ρ := ρ.set i none) (fs := fs.set i fz) (i := j) (s := s') (f := f') (by rw [List.getElem?_set_ne ne]; exact e3) (by rw [List.getElem?_set_ne ne]; exact e4) a
  omega
theorem own_of_chg {t : ST} (h : chg t = true) : own t = true := by cases t <;> first | rfl | cases h
theorem ctr_chg_le (s : Option SV) (f : FP) (a : Addr) : ctr chg s f a ≤ ctr own s f a := by
  cases s with
  | none => exact Nat.le_refl _
  | some s =>
    obtain ⟨t, d⟩ := s
    cases t <;> simp [ctr, chg, own, fz]
theorem sum_chg_le : ∀ (ρ : En) (fs : List FP) (a : Addr), sumOf chg ρ fs a ≤ sumOf own ρ fs a
  | [], _, _ => Nat.le_refl _
  | _ :: _, [], _ => Nat.le_refl _
  | s :: ρ, f :: fs, a => Nat.add_le_add (ctr_chg_le s f a) (sum_chg_le ρ fs a)
/-- what is summed is there, and may be written -/
theorem Slot.there {s : Option SV} {o : Option V} {f : FP} (h : Slot B H s o f) (a : Addr) (q : 0 < f a) : ∃ u, H a = some u ∧ wr u := by
  cases h with
  | nul => exact absurd q (Nat.lt_irrefl _)
  | val r _ => exact r.there a q
theorem ctr_le (p : ST → Bool) (s : Option SV) (f : FP) (a : Addr) : ctr p s f a ≤ f a := by
  cases s with
  | none => exact Nat.zero_le _
  | some s =>
    show (if p s.t then f else fz) a ≤ f a
    split
    · exact Nat.le_refl _
    · exact Nat.zero_le _
theorem Slots.there (h : Slots B H ρ σ fs) (p : ST → Bool) : ∀ (a : Addr), 0 < sumOf p ρ fs a → ∃ u, H a = some u ∧ wr u := by
  induction h with
  | nil => intro a q; exact absurd q (Nat.lt_irrefl _)
  | @cons s o f ρ σ fs h1 _ ih =>
    intro a q
    have q' : 0 < ctr p s f a + sumOf p ρ fs a := q
    by_cases c : 0 < ctr p s f a
    · exact h1.there a (Nat.lt_of_lt_of_le c (ctr_le ..))
    · exact ih a (by omega)
theorem Slot.kept {s : Option SV} {o : Option V} {f : FP} (h : Slot B H s o f) (k : Kept H H' f) : Slot B H' s o f := by
  cases h with
  | nul => exact .nul
  | val r e => exact .val (r.kept k) e
/-- all slots stand while their parts are kept -/
theorem Slots.kept (h : Slots B H ρ σ fs) : (∀ f ∈ fs, Kept H H' f) → Slots B H' ρ σ fs := by
  induction h with
  | nil => intro _; exact .nil
  | cons h1 _ ih => intro k; exact .cons (h1.kept (k _ (by simp))) (ih fun f hf => k f (by simp [hf]))
theorem Slots.same (h : Slots B H ρ σ fs) (k : Same H H') : Slots B H' ρ σ fs := h.kept fun f _ => Same.kept k f
theorem StR.same (h : StR B σ H ρ fs) (k : Same H H') : StR B σ H' ρ fs :=
  ⟨h.sl.same k, h.m1, h.mn, fun a o e z => k _ _ (h.b1 a o e z), fun a e z => h.b2 a e (by
    cases q : H a with
    | none => rfl
    | some o => rw [k _ _ q] at z; cases z), h.b3, h.b4⟩
theorem StR.b2' (h : StR B σ H ρ fs) {a : Addr} (e : H a = none) : B.H0 a = none := by
  cases q : B.H0 a with
  | none => rfl
  | some o => exact absurd e (h.b2 a (by rw [q]; exact fun z => nomatch z))
end

/-! ### what a step leaves -/
/-- from (H, ρ, fs) to (H', ρ', fs') -/
structure Fr (H : Hp) (ρ : En) (fs : List FP) (H' : Hp) (ρ' : En) (fs' : List FP) : Prop where
  keep : ∀ a o, H a = some o → sumOf chg ρ fs a = 0 → H' a = some o
  live : ∀ a, H a ≠ none → H' a ≠ none
  own : ∀ a, 0 < sumOf own ρ' fs' a → 0 < sumOf own ρ fs a ∨ H a = none
  chg : ∀ a, 0 < sumOf chg ρ' fs' a → 0 < sumOf chg ρ fs a ∨ H a = none
theorem Fr.refl {H : Hp} {ρ : En} {fs : List FP} : Fr H ρ fs H ρ fs := ⟨fun _ _ h _ => h, fun _ h => h, fun _ h => .inl h, fun _ h => .inl h⟩
theorem Fr.trans {H1 H2 H3 : Hp} {ρ1 ρ2 ρ3 : En} {f1 f2 f3 : List FP} (a : Fr H1 ρ1 f1 H2 ρ2 f2) (b : Fr H2 ρ2 f2 H3 ρ3 f3) : Fr H1 ρ1 f1 H3 ρ3 f3 where
  keep := fun x o e z => b.keep x o (a.keep x o e z) (by
    by_cases q : 0 < sumOf Ev.chg ρ2 f2 x
    · rcases a.chg x q with r | r
      · omega
      · rw [e] at r; cases r
    · omega)
  live := fun x e => b.live x (a.live x e)
  own := fun x q => by
    rcases b.own x q with r | r
    · exact a.own x r
    · exact .inr (by
        cases e : H1 x with
        | none => rfl
        | some o => exact absurd r (a.live x (by rw [e]; exact fun z => nomatch z)))
  chg := fun x q => by
    rcases b.chg x q with r | r
    · exact a.chg x r
    · exact .inr (by
        cases e : H1 x with
        | none => rfl
        | some o => exact absurd r (a.live x (by rw [e]; exact fun z => nomatch z)))
theorem Fr.same {H H' : Hp} {ρ : En} {fs : List FP} (k : Same H H') : Fr H ρ fs H' ρ fs := ⟨fun _ _ h _ => k _ _ h, fun a h z => (by
  cases q : H a with
  | none => exact h q
  | some o => rw [k _ _ q] at z; cases z), fun _ h => .inl h, fun _ h => .inl h⟩

/-- what a result's tag says, at (H', ρ', fs') behind a step from (H, ρ, fs) -/
def TagOk (H : Hp) (ρ : En) (fs : List FP) (ρ' : En) (fs' : List FP) (t : RT) (f : FP) : Prop := match t with
  | .im => f = fz
  | .vl => ∀ a, 0 < f a → sumOf own ρ' fs' a = 0
  | .fr => ∀ a, f a ≤ 1 ∧ (0 < f a → sumOf own ρ' fs' a = 0 ∧ sumOf frz ρ' fs' a = 0 ∧ (H a = none ∨ 0 < sumOf own ρ fs a))
  | .tm i => ∀ a, 0 < f a → 0 < sumOf own ρ' fs' a → ∃ g, fs'[i]? = some g ∧ 0 < g a
end Ev
end

section
set_option Elab.async false
set_option linter.all false
set_option maxRecDepth 100000
/-! What is known behind an expression, behind a list of arguments. -/
namespace Ev
open PySem L2

structure Step (B : Bs) (σ : St) (H : Hp) (ρ : En) (fs : List FP) (pu : Bool) (H' : Hp) (ρ' : En) (fs' : List FP) : Prop where
  st : StR B σ H' ρ' fs'
  fr : Fr H ρ fs H' ρ' fs'
  nf : ∀ a, sumOf frz ρ' fs' a ≤ sumOf frz ρ fs a
  lk : ∀ (i : Nat) (d : D), ρ[i]? = some (some ⟨.lk, d⟩) → ρ'[i]? = some (some ⟨.lk, d⟩) ∧ fs'[i]? = fs[i]?
  pu : pu = true → Same H H' ∧ ρ' = ρ ∧ fs' = fs
  rf : ∀ (i : Nat) (d : D), ρ'[i]? = some (some ⟨.rf, d⟩) → ∃ d0, ρ[i]? = some (some ⟨.rf, d0⟩)
structure PostE (B : Bs) (σ : St) (H : Hp) (ρ : En) (fs : List FP) (pu : Bool) (va : Option Nat) (v : RV) (x : V) (H' : Hp) (f : FP) (ρ' : En) (fs' : List FP) : Prop where
  stp : Step B σ H ρ fs pu H' ρ' fs'
  rep : Rep B.P B.w B.K H' x v.d f
  tag : TagOk H ρ fs ρ' fs' v.t f
  prov : ∀ a, 0 < f a → B.H0 a = none ∨ B.A0 a
  vr : ∀ i, va = some i → σ[i]? = some (some x)
/-- the values of those that are names -/
inductive VarOk (σ : St) : List (Option Nat) → List V → Prop
  | nil : VarOk σ [] []
  | cons {va : Option Nat} {vas : List (Option Nat)} {x : V} {xs : List V} : (∀ i, va = some i → σ[i]? = some (some x)) → VarOk σ vas xs → VarOk σ (va :: vas) (x :: xs)
/-- values with their footprints -/
inductive RepT (B : Bs) (H0 : Hp) (ρ0 : En) (fs0 : List FP) (H : Hp) (ρ : En) (fs : List FP) : List V → List RV → List FP → Prop
  | nil : RepT B H0 ρ0 fs0 H ρ fs [] [] []
  | cons {x : V} {v : RV} {f : FP} {xs : List V} {vs : List RV} {gs : List FP} : Rep B.P B.w B.K H x v.d f → TagOk H0 ρ0 fs0 ρ fs v.t f → (∀ a, 0 < f a → B.H0 a = none ∨ B.A0 a) →
      RepT B H0 ρ0 fs0 H ρ fs xs vs gs → RepT B H0 ρ0 fs0 H ρ fs (x :: xs) (v :: vs) (f :: gs)
def frSum : List RV → List FP → FP
  | v :: vs, f :: fs => fa (if v.t = .fr then f else fz) (frSum vs fs)
  | _, _ => fz
def sumF : List FP → FP
  | [] => fz
  | f :: fs => fa f (sumF fs)
structure PostA (B : Bs) (σ : St) (H : Hp) (ρ : En) (fs : List FP) (pu : Bool) (vas : List (Option Nat)) (vs : List RV) (xs : List V) (H' : Hp) (gs : List FP) (ρ' : En) (fs' : List FP) : Prop where
  stp : Step B σ H ρ fs pu H' ρ' fs'
  reps : RepT B H ρ fs H' ρ' fs' xs vs gs
  ap : ∀ a, frSum vs gs a ≤ 1
  vr : VarOk σ vas xs

section
variable {B : Bs} {σ : St} {H H1 H2 : Hp} {ρ ρ1 ρ2 : En} {fs fs1 fs2 : List FP} {p q : Bool}
theorem Step.refl (h : StR B σ H ρ fs) : Step B σ H ρ fs p H ρ fs := ⟨h, .refl, fun _ => Nat.le_refl _, fun _ _ e => ⟨e, rfl⟩, fun _ => ⟨Same.refl _, rfl, rfl⟩, fun _ d e => ⟨d, e⟩⟩
theorem Step.same (h : StR B σ H ρ fs) (k : Same H H1) : Step B σ H ρ fs p H1 ρ fs := ⟨h.same k, .same k, fun _ => Nat.le_refl _, fun _ _ e => ⟨e, rfl⟩, fun _ => ⟨k, rfl, rfl⟩, fun _ d e => ⟨d, e⟩⟩
theorem Step.trans (a : Step B σ H ρ fs p H1 ρ1 fs1) (b : Step B σ H1 ρ1 fs1 q H2 ρ2 fs2) : Step B σ H ρ fs (p && q) H2 ρ2 fs2 where
  st := b.st
  fr := a.fr.trans b.fr
  nf := fun x => Nat.le_trans (b.nf x) (a.nf x)
  lk := fun i d e => by
    obtain ⟨e1, e2⟩ := a.lk i d e
    obtain ⟨e3, e4⟩ := b.lk i d e1
    exact ⟨e3, e4.trans e2⟩
  pu := fun h => by
    obtain ⟨hp, hq⟩ := Bool.and_eq_true_iff.mp h
    obtain ⟨k1, k2, k3⟩ := a.pu hp
    obtain ⟨k4, k5, k6⟩ := b.pu hq
    exact ⟨k1.trans k4, k5.trans k2, k6.trans k3⟩
  rf := fun i d e => by
    obtain ⟨d1, e1⟩ := b.rf i d e
    exact a.rf i d1 e1
theorem Step.weak (a : Step B σ H ρ fs p H1 ρ1 fs1) (h : q = true → p = true) : Step B σ H ρ fs q H1 ρ1 fs1 := ⟨a.st, a.fr, a.nf, a.lk, fun z => a.pu (h z), a.rf⟩
theorem Step.andSame (a : Step B σ H ρ fs p H1 ρ1 fs1) (k : Same H1 H2) : Step B σ H ρ fs p H2 ρ1 fs1 :=
  (a.trans (Step.same (p := true) a.st k)).weak fun z => by rw [z]; rfl
theorem live_of (h : ∀ a, H a ≠ none → H1 a ≠ none) {a : Addr} (e : H1 a = none) : H a = none := by
  cases q : H a with
  | none => rfl
  | some o => exact absurd e (h a (by rw [q]; exact fun z => nomatch z))
theorem keptOf {f : FP} (sl : Slots B H ρ σ fs) (fr : Fr H ρ fs H1 ρ1 fs1) (hf : ∀ a, 0 < f a → sumOf chg ρ fs a = 0) : Kept H H1 f := fun a o h z => by
  refine fr.keep a o h ?_
  rcases z with z | z
  · exact hf a z
  · refine Nat.eq_zero_of_not_pos fun y => ?_
    obtain ⟨u, e, wu⟩ := sl.there own a (Nat.lt_of_lt_of_le y (sum_chg_le ρ fs a))
    rw [h] at e
    cases e
    exact z wu
/-- a value that waits stays what it is -/
theorem wait_rep {x : V} {v : RV} {f : FP} (s1 : Slots B H1 ρ1 σ fs1) (b : Step B σ H1 ρ1 fs1 q H2 ρ2 fs2) (w : waits v.t q = true) (r : Rep B.P B.w B.K H1 x v.d f) (t : TagOk H ρ fs ρ1 fs1 v.t f) : Rep B.P B.w B.K H2 x v.d f := by
  have z0 : ∀ {a : Addr}, sumOf own ρ1 fs1 a = 0 → sumOf chg ρ1 fs1 a = 0 := fun {a} h => by
    have := sum_chg_le ρ1 fs1 a
    omega
  cases e : v.t with
  | tm i =>
    rw [e] at w
    exact r.kept (Same.kept (b.pu w).1 f)
  | im =>
    rw [e] at t
    have t' : f = fz := t
    subst t'
    exact r.kept (keptOf s1 b.fr fun a z => absurd z (Nat.lt_irrefl _))
  | vl =>
    rw [e] at t
    exact r.kept (keptOf s1 b.fr fun a z => z0 (t a z))
  | fr =>
    rw [e] at t
    exact r.kept (keptOf s1 b.fr fun a z => z0 ((t a).2 z).1)
theorem wait_tag {x : V} {v : RV} {f : FP} (b : Step B σ H1 ρ1 fs1 q H2 ρ2 fs2) (w : waits v.t q = true) (r : Rep B.P B.w B.K H1 x v.d f) (t : TagOk H ρ fs ρ1 fs1 v.t f) : TagOk H ρ fs ρ2 fs2 v.t f := by
  have z1 : ∀ {a : Addr}, 0 < f a → sumOf own ρ1 fs1 a = 0 → sumOf own ρ2 fs2 a = 0 := fun {a} h z => by
    refine Nat.eq_zero_of_not_pos fun y => ?_
    rcases b.fr.own a y with c | c
    · omega
    · obtain ⟨o, e, _⟩ := r.there a h
      rw [c] at e; cases e
  cases e : v.t with
  | tm i =>
    rw [e] at w t
    obtain ⟨_, e1, e2⟩ := b.pu w
    rw [e1, e2]
    exact t
  | im => rw [e] at t; exact t
  | vl => rw [e] at t; exact fun a h => z1 h (t a h)
  | fr =>
    rw [e] at t
    refine fun a => ⟨(t a).1, fun h => ?_⟩
    obtain ⟨t1, t2, t3⟩ := (t a).2 h
    refine ⟨z1 h t1, ?_, t3⟩
    have := b.nf a
    omega
/-- the tag, told from an earlier start -/
theorem TagOk.back {t : RT} {f : FP} (a : Step B σ H ρ fs p H1 ρ1 fs1) (h : TagOk H1 ρ1 fs1 ρ2 fs2 t f) : TagOk H ρ fs ρ2 fs2 t f := by
  cases t with
  | tm i => exact h
  | im => exact h
  | vl => exact h
  | fr =>
    refine fun x => ⟨(h x).1, fun z => ?_⟩
    obtain ⟨t1, t2, t3⟩ := (h x).2 z
    refine ⟨t1, t2, ?_⟩
    rcases t3 with c | c
    · exact .inl (live_of a.fr.live c)
    · rcases a.fr.own x c with c | c
      · exact .inr c
      · exact .inl c
theorem RepT.wait {xs : List V} {vs : List RV} {gs : List FP} : RepT B H1 ρ1 fs1 H2 ρ2 fs2 xs vs gs → Step B σ H ρ fs p H1 ρ1 fs1 → RepT B H ρ fs H2 ρ2 fs2 xs vs gs
  | .nil, _ => .nil
  | .cons h1 h2 h3 h4, s => .cons h1 (h2.back s) h3 (h4.wait s)
theorem frSum_le : ∀ {vs : List RV} {gs : List FP} {xs : List V}, RepT B H ρ fs H1 ρ1 fs1 xs vs gs → ∀ a, 0 < frSum vs gs a → sumOf own ρ1 fs1 a = 0 ∧ sumOf frz ρ1 fs1 a = 0 ∧ (H a = none ∨ 0 < sumOf own ρ fs a)
  | _, _, _, .nil, a, h => absurd h (Nat.lt_irrefl _)
  | v :: vs, f :: gs, _, .cons h1 h2 h3 h4, a, h => by
    have h' : 0 < (if v.t = .fr then f else fz) a + frSum vs gs a := h
    by_cases c : 0 < frSum vs gs a
    · exact frSum_le h4 a c
    · by_cases e : v.t = .fr
      · rw [if_pos e] at h'
        rw [e] at h2
        exact (h2 a).2 (by omega)
      · rw [if_neg e] at h'
        have : fz a = 0 := rfl
        omega
theorem PostA.nil (h : StR B σ H ρ fs) : PostA B σ H ρ fs true [] [] [] H [] ρ fs := ⟨.refl h, .nil, fun _ => Nat.zero_le _, .nil⟩
/-- a value, then the others -/
theorem PostA.cons {va : Option Nat} {vas : List (Option Nat)} {v : RV} {x : V} {f : FP} {vs : List RV} {xs : List V} {gs : List FP} (a : PostE B σ H ρ fs p va v x H1 f ρ1 fs1) (b : PostA B σ H1 ρ1 fs1 q vas vs xs H2 gs ρ2 fs2) (w : waits v.t q = true) :
    PostA B σ H ρ fs (p && q) (va :: vas) (v :: vs) (x :: xs) H2 (f :: gs) ρ2 fs2 := by
  refine ⟨a.stp.trans b.stp, .cons (wait_rep a.stp.st.sl b.stp w a.rep a.tag) (wait_tag b.stp w a.rep a.tag) a.prov (b.reps.wait a.stp), fun y => ?_, .cons a.vr b.vr⟩
  have hb := b.ap y
  show (if v.t = .fr then f else fz) y + frSum vs gs y ≤ 1
  by_cases e : v.t = .fr
  · rw [if_pos e]
    have t := a.tag
    rw [e] at t
    by_cases c : 0 < f y
    · obtain ⟨t1, t2, t3⟩ := (t y).2 c
      have z : frSum vs gs y = 0 := Nat.eq_zero_of_not_pos fun z => by
        obtain ⟨_, _, r⟩ := frSum_le b.reps y z
        rcases r with r | r
        · obtain ⟨o, eo, _⟩ := a.rep.there y c
          rw [r] at eo; cases eo
        · omega
      have := (t y).1
      omega
    · omega
  · rw [if_neg e]
    have : fz y = 0 := rfl
    omega
theorem PostA.one {va : Option Nat} {v : RV} {x : V} {f : FP} (a : PostE B σ H ρ fs p va v x H1 f ρ1 fs1) : PostA B σ H ρ fs p [va] [v] [x] H1 [f] ρ1 fs1 := by
  have h := PostA.cons a (PostA.nil a.stp.st) (by cases v.t <;> rfl)
  rw [Bool.and_true] at h
  exact h
/-- joined tags -/
theorem TagOk.fa {t u w : RT} {f g : FP} (e : t.join u = some w) (h1 : TagOk H ρ fs ρ1 fs1 t f) (h2 : TagOk H ρ fs ρ1 fs1 u g) (h : t = .fr → u = .fr → ∀ a, f a + g a ≤ 1) : TagOk H ρ fs ρ1 fs1 w (Ev.fa f g) := by
  have fzl : ∀ k : FP, Ev.fa fz k = k := fun k => funext fun a => Nat.zero_add _
  have fzr : ∀ k : FP, Ev.fa k fz = k := fun k => rfl
  have sp : ∀ {a : Addr}, 0 < Ev.fa f g a → 0 < f a ∨ 0 < g a := fun {a} z => by
    have z' : 0 < f a + g a := z
    omega
  cases t with
  | im =>
    have h1' : f = fz := h1
    subst h1'
    rw [fzl]
    have ew : u = w := by cases u <;> simpa [RT.join] using e
    rw [← ew]
    exact h2
  | vl =>
    cases u with
    | im =>
      have h2' : g = fz := h2
      subst h2'
      rw [fzr]
      cases e
      exact h1
    | vl => cases e; exact fun a z => (sp z).elim (h1 a) (h2 a)
    | fr => cases e; exact fun a z => (sp z).elim (h1 a) fun y => ((h2 a).2 y).1
    | tm i => cases e; exact fun a z y => (sp z).elim (fun q => absurd (h1 a q) (by omega)) fun q => h2 a q y
  | fr =>
    cases u with
    | im =>
      have h2' : g = fz := h2
      subst h2'
      rw [fzr]
      cases e
      exact h1
    | vl => cases e; exact fun a z => (sp z).elim (fun y => ((h1 a).2 y).1) (h2 a)
    | fr => cases e; exact fun a => ⟨h rfl rfl a, fun z => (sp z).elim (h1 a).2 (h2 a).2⟩
    | tm i => cases e; exact fun a z y => (sp z).elim (fun q => absurd ((h1 a).2 q).1 (by omega)) fun q => h2 a q y
  | tm i =>
    cases u with
    | im =>
      have h2' : g = fz := h2
      subst h2'
      rw [fzr]
      cases e
      exact h1
    | vl => cases e; exact fun a z y => (sp z).elim (fun q => h1 a q y) fun q => absurd (h2 a q) (by omega)
    | fr => cases e; exact fun a z y => (sp z).elim (fun q => h1 a q y) fun q => absurd ((h2 a).2 q).1 (by omega)
    | tm j =>
      by_cases c : i = j
      · subst c
        have e' : RT.tm i = w := by simpa [RT.join] using e
        rw [← e']
        exact fun a z y => (sp z).elim (fun q => h1 a q y) fun q => h2 a q y
      · simp [RT.join, c] at e
theorem join_fr {t u : RT} (e : t.join u = some .fr) : (t = .fr ∨ t = .im) ∧ (u = .fr ∨ u = .im) := by
  cases t <;> cases u <;> simp [RT.join] at e ⊢
theorem join_im {t u : RT} (e : t.join u = some .im) : t = .im ∧ u = .im := by
  cases t <;> cases u <;> simp [RT.join] at e ⊢
theorem sum_fr : ∀ {vs : List RV} {gs : List FP} {xs : List V} {t : RT}, RepT B H ρ fs H1 ρ1 fs1 xs vs gs → joinAll vs = some t → (t = .fr ∨ t = .im) → ∀ a, sumF gs a = frSum vs gs a
  | [], _, _, _, .nil, _, _, _ => rfl
  | v :: vs, f :: gs, _, t, .cons h1 h2 h3 h4, e, ht, a => by
    unfold joinAll at e
    obtain ⟨u, e1, e2⟩ := Option.bind_eq_some_iff.mp e
    have c : (v.t = .fr ∨ v.t = .im) ∧ (u = .fr ∨ u = .im) := by
      rcases ht with rfl | rfl
      · exact join_fr e2
      · exact ⟨.inr (join_im e2).1, .inr (join_im e2).2⟩
    have ih := sum_fr h4 e1 c.2 a
    show f a + sumF gs a = (if v.t = .fr then f else fz) a + frSum vs gs a
    rw [ih]
    rcases c.1 with q | q
    · rw [if_pos q]
    · rw [q] at h2
      have h2' : f = fz := h2
      rw [if_neg (by rw [q]; exact fun z => nomatch z), h2']
theorem sum_tag : ∀ {vs : List RV} {gs : List FP} {xs : List V} {t : RT}, RepT B H ρ fs H1 ρ1 fs1 xs vs gs → joinAll vs = some t → (∀ a, frSum vs gs a ≤ 1) → TagOk H ρ fs ρ1 fs1 t (sumF gs)
  | [], _, _, t, .nil, e, _ => by
    cases e
    rfl
  | v :: vs, f :: gs, _, t, .cons h1 h2 h3 h4, e, ap => by
    unfold joinAll at e
    obtain ⟨u, e1, e2⟩ := Option.bind_eq_some_iff.mp e
    have ap' : ∀ a, frSum vs gs a ≤ 1 := fun a => by
      have h : (if v.t = .fr then f else fz) a + frSum vs gs a ≤ 1 := ap a
      omega
    refine TagOk.fa e2 h2 (sum_tag h4 e1 ap') fun q1 q2 a => ?_
    rw [sum_fr h4 e1 (.inl q2) a]
    have h : (if v.t = .fr then f else fz) a + frSum vs gs a ≤ 1 := ap a
    rw [if_pos q1] at h
    exact h
theorem RepT.repL : ∀ {vs : List RV} {gs : List FP} {xs : List V}, RepT B H ρ fs H1 ρ1 fs1 xs vs gs → RepL B.P B.w B.K H1 xs (vs.map (·.d)) (sumF gs)
  | [], _, _, .nil => .nil
  | _ :: _, _, _, .cons h1 _ _ h4 => .cons h1 h4.repL
theorem RepT.prov : ∀ {vs : List RV} {gs : List FP} {xs : List V}, RepT B H ρ fs H1 ρ1 fs1 xs vs gs → ∀ a, 0 < sumF gs a → B.H0 a = none ∨ B.A0 a
  | [], _, _, .nil, a, h => absurd h (Nat.lt_irrefl _)
  | v :: vs, f :: gs, _, .cons h1 _ h3 h4, a, h => by
    have h' : 0 < f a + sumF gs a := h
    by_cases c : 0 < f a
    · exact h3 a c
    · exact h4.prov a (by omega)
theorem RepT.len : ∀ {vs : List RV} {gs : List FP} {xs : List V}, RepT B H ρ fs H1 ρ1 fs1 xs vs gs → xs.length = vs.length
  | _, _, _, .nil => rfl
  | _, _, _, .cons _ _ _ h => by simp [h.len]
/-- a smaller part bears the tag too -/
theorem TagOk.le {t : RT} {f g : FP} (h : TagOk H ρ fs ρ1 fs1 t f) (l : ∀ a, g a ≤ f a) : TagOk H ρ fs ρ1 fs1 t g := by
  cases t with
  | im =>
    have h' : f = fz := h
    subst h'
    exact funext fun a => Nat.le_antisymm (l a) (Nat.zero_le _)
  | vl => exact fun a z => h a (Nat.lt_of_lt_of_le z (l a))
  | fr => exact fun a => ⟨Nat.le_trans (l a) (h a).1, fun z => (h a).2 (Nat.lt_of_lt_of_le z (l a))⟩
  | tm i => exact fun a z => h a (Nat.lt_of_lt_of_le z (l a))
/-- no list in it: any tag -/
theorem TagOk.fz {t : RT} : TagOk H ρ fs ρ1 fs1 t Ev.fz := by
  cases t with
  | im => rfl
  | vl => exact fun a z => absurd z (Nat.lt_irrefl _)
  | fr => exact fun a => ⟨Nat.zero_le _, fun z => absurd z (Nat.lt_irrefl _)⟩
  | tm i => exact fun a z => absurd z (Nat.lt_irrefl _)
/-- a new list at p over parts of that tag -/
theorem TagOk.new {t : RT} {f : FP} {p : Addr} (sl : Slots B H1 ρ1 σ fs1) (lv : ∀ a, H a ≠ none → H1 a ≠ none) (hp : H1 p = none) (fp : ∀ a, 0 < f a → H1 a ≠ none) (h : TagOk H ρ fs ρ1 fs1 t f) : TagOk H ρ fs ρ1 fs1 t.newL (Ev.fa (Ev.fs p) f) := by
  have z : ∀ (k : ST → Bool), sumOf k ρ1 fs1 p = 0 := fun k => Nat.eq_zero_of_not_pos fun y => by
    obtain ⟨o, e, _⟩ := sl.there k p y
    rw [hp] at e; cases e
  have fpz : f p = 0 := Nat.eq_zero_of_not_pos fun y => fp p y hp
  have sp : ∀ {a : Addr}, 0 < Ev.fa (Ev.fs p) f a → a = p ∨ 0 < f a := fun {a} y => by
    by_cases c : a = p
    · exact .inl c
    · have y' : 0 < Ev.fs p a + f a := y
      rw [fs_ne c] at y'
      exact .inr (by omega)
  have le1 : (∀ a, f a ≤ 1) → ∀ a, Ev.fa (Ev.fs p) f a ≤ 1 := fun q a => by
    show Ev.fs p a + f a ≤ 1
    by_cases c : a = p
    · subst c; rw [fs_self, fpz]
      exact Nat.le_refl _
    · rw [fs_ne c]
      have := q a
      omega
  cases t with
  | im =>
    have h' : f = Ev.fz := h
    refine fun a => ⟨le1 (fun b => by rw [h']; exact Nat.zero_le _) a, fun y => ?_⟩
    rcases sp y with c | c
    · subst c; exact ⟨z own, z frz, .inl (live_of lv hp)⟩
    · rw [h'] at c; exact absurd c (Nat.lt_irrefl _)
  | vl =>
    refine fun a y => ?_
    rcases sp y with c | c
    · subst c; exact z own
    · exact h a c
  | fr =>
    refine fun a => ⟨le1 (fun b => (h b).1) a, fun y => ?_⟩
    rcases sp y with c | c
    · subst c; exact ⟨z own, z frz, .inl (live_of lv hp)⟩
    · exact (h a).2 c
  | tm i =>
    refine fun a y y2 => ?_
    rcases sp y with c | c
    · subst c; rw [z own] at y2; exact absurd y2 (Nat.lt_irrefl _)
    · exact h a c y2
end
end Ev
end

section
set_option Elab.async false
set_option linter.all false
set_option maxRecDepth 100000
/-! Operators: what the evaluator reckons is what the layer's rules give. -/
namespace Ev
open PySem L2

def BinO.op : BinO → Operator
  | .add => .Add
  | .sub => .Sub
  | .mul => .Mult
  | .fdiv => .FloorDiv
  | .mod => .Mod
  | .pow => .Pow
/-- a result is handed on -/
def Res (B : Bs) (H : Hp) (ρ : En) (fs : List FP) (ρ' : En) (fs' : List FP) (r : RV) (H2 : Hp) (Q : VK) : Prop :=
  ∀ (z : V) (H3 : Hp) (k : FP), Same H2 H3 → Rep B.P B.w B.K H3 z r.d k → TagOk H ρ fs ρ' fs' r.t k → (∀ a, 0 < k a → B.H0 a = none ∨ B.A0 a) → Q z H3
theorem same_upd {H : Hp} {p : Addr} {o : HO} (hp : H p = none) : Same H (upd H p o) := fun b u e => by
  rw [upd_ne (ne_of_none e hp)]
  exact e

def rAddAll (K : PySem.W.Frag) : R2 := fun x y H Q => rI0 (fun i j => .int (i + j)) x y H Q ∨ (∃ i j, x = .str i ∧ y = .str j ∧ i.length + j.length ≤ sizeLine ∧ Q (.str (i ++ j)) H) ∨ rCatA K x y H Q ∨ rCat x y H Q
def rMulAll (K : PySem.W.Frag) : R2 := fun x y H Q => rI CMul (fun i j => .int (i * j)) x y H Q ∨ rRep x y H Q ∨ rRepT K x y H Q
def BinO.rd (K : PySem.W.Frag) : BinO → R2
  | .add => rAddAll K
  | .sub => rI0 fun i j => .int (i - j)
  | .mul => rMulAll K
  | .fdiv => rI CDiv fun i j => .int (i / j)
  | .mod => rI (fun _ j => 0 < j) fun i j => .int (i % j)
  | .pow => rI CPow fun i j => .int (i ^ j.toNat)
theorem bin_rule {X : Cx} (o : BinO) : OpR X (binaryOp o.op) (o.rd X.K) := by
  cases o with
  | add => exact OpR.or op_add (OpR.or op_add_str (OpR.or op_catA op_cat))
  | sub => exact op_sub
  | mul => exact OpR.or op_mul (OpR.or op_rep op_repT)
  | fdiv => exact op_fdiv
  | mod => exact op_mod
  | pow => exact op_pow

section
variable {B : Bs} {σ : St} {H H2 : Hp} {ρ ρ' : En} {fs fs' : List FP} {Q : VK}
theorem Res.imm {d : D} {z : V} {t : RT} (h : Res B H ρ fs ρ' fs' ⟨t, d⟩ H2 Q) (r : Rep B.P B.w B.K H2 z d fz) : Q z H2 :=
  h z H2 fz (Same.refl _) r TagOk.fz fun a c => absurd c (Nat.lt_irrefl _)
theorem Res.list {t : RT} {ds : List D} {vs : List V} {f : FP} (st : StR B σ H2 ρ' fs') (lv : ∀ a, H a ≠ none → H2 a ≠ none) (h : Res B H ρ fs ρ' fs' ⟨t.newL, .lst ds⟩ H2 Q) (r : RepL B.P B.w B.K H2 vs ds f) (tg : TagOk H ρ fs ρ' fs' t f)
    (pv : ∀ a, 0 < f a → B.H0 a = none ∨ B.A0 a) (p : Addr) (hp : H2 p = none) : Q (.ref p) (upd H2 p (.lst vs)) := by
  have th : ∀ a, 0 < f a → H2 a ≠ none := fun a c e => by
    obtain ⟨o, e2, _⟩ := r.there a c
    rw [e] at e2; cases e2
  refine h _ _ _ (same_upd hp) (.lst upd_same (r.kept (Same.kept (same_upd hp) f))) (TagOk.new st.sl lv hp th tg) fun a c => ?_
  by_cases e : a = p
  · subst e; exact .inl (st.b2' hp)
  · have c' : 0 < Ev.fs p a + f a := c
    rw [fs_ne e] at c'
    exact pv a (by omega)
theorem Res.listI {t : RT} {ds : List D} {vs : List V} {f : FP} (st : StR B σ H2 ρ' fs') (lv : ∀ a, H a ≠ none → H2 a ≠ none) (h : Res B H ρ fs ρ' fs' ⟨listT t ds, .lst ds⟩ H2 Q) (r : RepL B.P B.w B.K H2 vs ds f) (tg : TagOk H ρ fs ρ' fs' t f)
    (pv : ∀ a, 0 < f a → B.H0 a = none ∨ B.A0 a) (p : Addr) (hp : H2 p = none) : Q (.ref p) (upd H2 p (.lst vs)) := by
  unfold listT at h
  split at h
  · rename_i c
    have e := r.imm c
    subst e
    exact Res.list (t := .im) st lv h r TagOk.fz pv p hp
  · exact Res.list st lv h r tg pv p hp
theorem Res.tup {t : RT} {ds : List D} {vs : List V} {f : FP} (h : Res B H ρ fs ρ' fs' ⟨t, .tup ds⟩ H2 Q) (r : RepL B.P B.w B.K H2 vs ds f) (tg : TagOk H ρ fs ρ' fs' t f)
    (pv : ∀ a, 0 < f a → B.H0 a = none ∨ B.A0 a) (p : Addr) (hp : H2 p = none) : Q (.ref p) (upd H2 p (.tup vs)) :=
  h _ _ _ (same_upd hp) (.tup (.inl (.inl upd_same)) (r.kept (Same.kept (same_upd hp) f))) tg pv
/-- what the pair of operands of a step must be -/
structure Two (B : Bs) (σ : St) (H : Hp) (ρ : En) (fs : List FP) (H2 : Hp) (ρ' : En) (fs' : List FP) (x y : V) (v w : RV) (f g : FP) : Prop where
  st : StR B σ H2 ρ' fs'
  lv : ∀ a, H a ≠ none → H2 a ≠ none
  r1 : Rep B.P B.w B.K H2 x v.d f
  r2 : Rep B.P B.w B.K H2 y w.d g
  t1 : TagOk H ρ fs ρ' fs' v.t f
  t2 : TagOk H ρ fs ρ' fs' w.t g
  p1 : ∀ a, 0 < f a → B.H0 a = none ∨ B.A0 a
  p2 : ∀ a, 0 < g a → B.H0 a = none ∨ B.A0 a
  ap : v.t = .fr → w.t = .fr → ∀ a, f a + g a ≤ 1
theorem PostA.two {p : Bool} {vas : List (Option Nat)} {v w : RV} {x y : V} {gs : List FP} {H2 : Hp} (h : PostA B σ H ρ fs p vas [v, w] [x, y] H2 gs ρ' fs') : ∃ f g, gs = [f, g] ∧ Two B σ H ρ fs H2 ρ' fs' x y v w f g := by
  obtain ⟨s, r, ap, _⟩ := h
  cases r with
  | cons a1 a2 a3 r =>
    cases r with
    | cons b1 b2 b3 r =>
      cases r
      refine ⟨_, _, rfl, s.st, s.fr.live, a1, b1, a2, b2, a3, b3, fun e1 e2 a => ?_⟩
      have := ap a
      simp only [frSum, e1, e2, if_pos, fa] at this
      have z : fz a = 0 := rfl
      omega
theorem lst_inv {H : Hp} {P w K} {x : V} {ds : List D} {f : FP} (h : Rep P w K H x (.lst ds) f) : ∃ a vs g, x = .ref a ∧ H a = some (.lst vs) ∧ RepL P w K H vs ds g ∧ f = fa (Ev.fs a) g := by
  cases h with
  | lst h1 h2 => exact ⟨_, _, _, rfl, h1, h2, rfl⟩
theorem tup_inv {H : Hp} {P w K} {x : V} {ds : List D} {f : FP} (h : Rep P w K H x (.tup ds) f) : ∃ a vs, x = .ref a ∧ SqT K H a vs ∧ RepL P w K H vs ds f := by
  cases h with
  | tup h1 h2 => exact ⟨_, _, rfl, h1, h2⟩
theorem Rep.tag_in {a : Addr} {g : FP} : ∀ b, g b ≤ fa (Ev.fs a) g b := fun b => Nat.le_add_left _ _
theorem smallI_ok {i : Int} (h : smallI i = true) : -(2 ^ 64) < i ∧ i < 2 ^ 64 := by simpa [smallI] using h
theorem big_eq : big = sizeLine := by rw [sizeLine_eq]
theorem opD_ok {o : BinO} {v w r : RV} {x y : V} {f g : FP} (T : Two B σ H ρ fs H2 ρ' fs' x y v w f g) (e : opD o v w = some r) (h : Res B H ρ fs ρ' fs' r H2 Q) : o.rd B.K x y H2 Q := by
  obtain ⟨st, lv, r1, r2, t1, t2, p1, p2, ap⟩ := T
  unfold opD at e
  split at e
  · -- int + int
    cases e
    cases r1; cases r2
    exact .inl ⟨_, _, rfl, rfl, h.imm (.int _)⟩
  · -- str + str
    split at e
    · cases e
      cases r1; cases r2
      rename_i c
      exact .inr (.inl ⟨_, _, rfl, rfl, by rw [← big_eq]; exact c, h.imm (.str _)⟩)
    · cases e
  · -- tup + tup
    rename_i t a u b
    split at e
    · rename_i c
      obtain ⟨k, e1, e2⟩ := Option.map_eq_some_iff.mp e
      subst e2
      obtain ⟨a1, vs, rfl, s1, l1⟩ := tup_inv r1
      obtain ⟨a2, us, rfl, s2, l2⟩ := tup_inv r2
      have L := l1.append l2
      have TT := TagOk.fa e1 t1 t2 ap
      have PV : ∀ q, 0 < fa f g q → B.H0 q = none ∨ B.A0 q := fun q z => by
        have z' : 0 < f q + g q := z
        by_cases c2 : 0 < f q
        · exact p1 q c2
        · exact p2 q (by omega)
      refine .inr (.inr (.inl ⟨a1, a2, vs, us, rfl, rfl, s1, s2, by rw [l1.length, l2.length, ← big_eq]; exact c, fun z => ?_, fun _ z => ?_, fun _ _ p hp => Res.tup h L TT PV p hp⟩))
      · subst z
        cases l1
        exact h _ _ _ (Same.refl _) (.tup s2 L) TT PV
      · subst z
        cases l2
        refine h _ _ _ (Same.refl _) (.tup s1 (by simpa using L)) TT PV
    · cases e
  · -- lst + lst
    rename_i t a u b
    split at e
    · rename_i c
      obtain ⟨k, e1, e2⟩ := Option.map_eq_some_iff.mp e
      subst e2
      obtain ⟨a1, vs, f1, rfl, s1, l1, rfl⟩ := lst_inv r1
      obtain ⟨a2, us, g1, rfl, s2, l2, rfl⟩ := lst_inv r2
      have L := l1.append l2
      have TT := TagOk.fa e1 (t1.le Rep.tag_in) (t2.le Rep.tag_in) (fun c1 c2 q => by
        have := ap c1 c2 q
        have z1 := Rep.tag_in (a := a1) (g := f1) q
        have z2 := Rep.tag_in (a := a2) (g := g1) q
        omega)
      have PV : ∀ q, 0 < fa f1 g1 q → B.H0 q = none ∨ B.A0 q := fun q z => by
        have z' : 0 < f1 q + g1 q := z
        by_cases c2 : 0 < f1 q
        · exact p1 q (fa_right c2)
        · exact p2 q (fa_right (by omega))
      exact .inr (.inr (.inr ⟨a1, a2, vs, us, rfl, rfl, s1, s2, by rw [l1.length, l2.length, ← big_eq]; exact c, fun p hp => Res.list st lv h L TT PV p hp⟩))
    · cases e
  · cases e
    cases r1; cases r2
    exact ⟨_, _, rfl, rfl, h.imm (.int _)⟩
  · split at e
    · rename_i c
      cases e
      cases r1; cases r2
      refine .inl ⟨_, _, rfl, rfl, ?_, h.imm (.int _)⟩
      rcases Bool.or_eq_true_iff.mp c with c | c
      · exact .inl (smallI_ok c)
      · exact .inr (smallI_ok c)
    · cases e
  · -- lst * int
    rename_i t a u k
    split at e
    · rename_i c
      cases e
      simp only [Bool.and_eq_true, decide_eq_true_eq] at c
      obtain ⟨⟨c1, c2, c3⟩, c4⟩ := c
      obtain ⟨a1, vs, f1, rfl, s1, l1, rfl⟩ := lst_inv r1
      cases r2
      have l0 := l1.imm c1
      subst l0
      refine .inr (.inl ⟨a1, k, vs, rfl, rfl, s1, by omega, c3, by rw [l1.length, ← big_eq]; exact c4, fun p hp => ?_⟩)
      exact Res.list (t := .im) st lv h (l1.flat _) rfl (fun q z => absurd z (Nat.lt_irrefl _)) p hp
    · cases e
  · -- tup * int
    rename_i t a u k
    split at e
    · rename_i c
      cases e
      simp only [Bool.and_eq_true, decide_eq_true_eq, Bool.not_eq_true'] at c
      obtain ⟨⟨⟨c1, c2⟩, c3, c4⟩, c5⟩ := c
      obtain ⟨a1, vs, rfl, s1, l1⟩ := tup_inv r1
      cases r2
      have l0 := l1.imm c1
      subst l0
      refine .inr (.inr ⟨a1, k, vs, rfl, rfl, s1, fun z => ?_, c3, c4, by rw [l1.length]; exact c5, fun p hp => ?_⟩)
      · subst z
        cases l1
        cases c2
      · exact Res.tup h (l1.flat _) rfl (fun q z => absurd z (Nat.lt_irrefl _)) p hp
    · cases e
  · split at e
    · rename_i c
      cases e
      cases r1; cases r2
      exact ⟨_, _, rfl, rfl, c, h.imm (.int _)⟩
    · cases e
  · split at e
    · rename_i c
      cases e
      cases r1; cases r2
      exact ⟨_, _, rfl, rfl, c, h.imm (.int _)⟩
    · cases e
  · split at e
    · rename_i c
      cases e
      cases r1; cases r2
      simp only [Bool.and_eq_true, decide_eq_true_eq] at c
      refine ⟨_, _, rfl, rfl, ⟨c.1.1, by omega, ?_⟩, h.imm (.int _)⟩
      have := smallI_ok c.2
      omega
    · cases e
  · cases e
end
end Ev
end

section
set_option Elab.async false
set_option linter.all false
set_option maxRecDepth 100000
set_option maxHeartbeats 1000000
/-! Comparisons. -/
namespace Ev
open PySem L2
mutual
def D.py : D → PyData
  | .non => .none
  | .bl b => .bool b
  | .int i => .int i
  | .str x => .str x
  | .tup ds => .tuple (pyAll ds)
  | .lst ds => .list (pyAll ds)
  | .dic _ _ => .none
  | .ins _ _ _ => .none
  | .scr _ => .none
  | .opq _ => .none
def pyAll : List D → List PyData
  | [] => []
  | d :: ds => d.py :: pyAll ds
end
mutual
theorem fine_lay : ∀ (d : D) (n : Nat), d.fine n = true → d.py.canLay0 = true ∧ d.py.depth ≤ n + 1
  | .non, n, _ => by simp [D.py, PyData.canLay0, PyData.depth]
  | .bl _, n, _ => by simp [D.py, PyData.canLay0, PyData.depth]
  | .int _, n, _ => by simp [D.py, PyData.canLay0, PyData.depth]
  | .str x, n, h => by
    have h' : PyData.strOk x = true := by simpa [D.fine, strGood, PyData.strOk] using h
    simp [D.py, PyData.canLay0, PyData.depth, h']
  | .tup ds, n, h => by
    have q := fineAll_lay ds n (by simpa [D.fine] using h)
    simp only [D.py, PyData.canLay0, PyData.depth]
    exact ⟨q.1, by omega⟩
  | .lst ds, n, h => by
    have q := fineAll_lay ds n (by simpa [D.fine] using h)
    simp only [D.py, PyData.canLay0, PyData.depth]
    exact ⟨q.1, by omega⟩
  | .dic _ _, n, h => by simp [D.fine] at h
  | .ins _ _ _, n, h => by simp [D.fine] at h
  | .scr _, n, h => by simp [D.fine] at h
  | .opq _, n, h => by simp [D.fine] at h
theorem fineAll_lay : ∀ (ds : List D) (n : Nat), fineAll n ds = true → PyData.canLayAll0 (pyAll ds) = true ∧ PyData.depthAll (pyAll ds) ≤ n
  | [], n, _ => by simp [pyAll, PyData.canLayAll0, PyData.depthAll]
  | d :: ds, 0, h => by simp [fineAll] at h
  | d :: ds, n + 1, h => by
    have h' : d.fine n = true ∧ fineAll (n + 1) ds = true := by simpa [fineAll] using h
    have q1 := fine_lay d n h'.1
    have q2 := fineAll_lay ds (n + 1) h'.2
    simp only [pyAll, PyData.canLayAll0, PyData.depthAll, q1.1, q2.1, Bool.and_self, true_and]
    omega
end
theorem fine_shaped {d : D} (h : d.fine 60 = true) : SeqAt.shaped d.py = true := by
  obtain ⟨h1, h2⟩ := fine_lay d 60 h
  unfold SeqAt.shaped
  rw [h1, Bool.true_and]
  exact decide_eq_true (by omega)
mutual
theorem eqv_py : ∀ (a b : D) (n m : Nat), a.fine n = true → b.fine m = true → PyData.eqv a.py b.py = a.eqv b
  | .non, b, n, m, _, hb => by cases b <;> simp [D.fine] at hb <;> simp [D.py, PyData.eqv, D.eqv]
  | .bl x, b, n, m, _, hb => by
    cases b <;> simp [D.fine] at hb <;> simp [D.py, PyData.eqv, D.eqv]
    all_goals first
      | rfl
      | exact Bool.beq_eq_decide_eq _ _
  | .int x, b, n, m, _, hb => by
    cases b <;> simp [D.fine] at hb <;> simp [D.py, PyData.eqv, D.eqv]
    all_goals first
      | rfl
      | exact Bool.beq_eq_decide_eq _ _
  | .str x, b, n, m, _, hb => by
    cases b <;> simp [D.fine] at hb <;> simp [D.py, PyData.eqv, D.eqv]
    all_goals first
      | rfl
      | exact Bool.beq_eq_decide_eq _ _
  | .tup xs, b, n, m, ha, hb => by
    cases b <;> simp [D.fine] at ha hb <;> simp [D.py, PyData.eqv, D.eqv]
    exact eqvAll_py xs _ n m ha hb
  | .lst xs, b, n, m, ha, hb => by
    cases b <;> simp [D.fine] at ha hb <;> simp [D.py, PyData.eqv, D.eqv]
    exact eqvAll_py xs _ n m ha hb
  | .dic _ _, b, n, m, ha, _ => by simp [D.fine] at ha
  | .ins _ _ _, b, n, m, ha, _ => by simp [D.fine] at ha
  | .scr _, b, n, m, ha, _ => by simp [D.fine] at ha
  | .opq _, b, n, m, ha, _ => by simp [D.fine] at ha
theorem eqvAll_py : ∀ (as bs : List D) (n m : Nat), fineAll n as = true → fineAll m bs = true → PyData.eqvAll (pyAll as) (pyAll bs) = eqvAll as bs
  | [], [], _, _, _, _ => by simp [pyAll, PyData.eqvAll, eqvAll]
  | [], _ :: _, _, _, _, _ => by simp [pyAll, PyData.eqvAll, eqvAll]
  | _ :: _, [], _, _, _, _ => by simp [pyAll, PyData.eqvAll, eqvAll]
  | a :: as, b :: bs, 0, _, ha, _ => by simp [fineAll] at ha
  | a :: as, b :: bs, n + 1, 0, _, hb => by simp [fineAll] at hb
  | a :: as, b :: bs, n + 1, m + 1, ha, hb => by
    have ha' : a.fine n = true ∧ fineAll (n + 1) as = true := by simpa [fineAll] using ha
    have hb' : b.fine m = true ∧ fineAll (m + 1) bs = true := by simpa [fineAll] using hb
    simp only [pyAll, PyData.eqvAll, eqvAll]
    rw [eqv_py a b n m ha'.1 hb'.1, eqvAll_py as bs (n + 1) (m + 1) ha'.2 hb'.2]
end
theorem any_py (x : D) (n m : Nat) (hx : x.fine n = true) : ∀ (ds : List D), fineAll m ds = true → ((pyAll ds).any fun z => PyData.eqv z x.py) = ds.any fun d => d.eqv x
  | [], _ => rfl
  | d :: ds, h => by
    cases m with
    | zero => simp [fineAll] at h
    | succ m =>
      have h' : d.fine m = true ∧ fineAll (m + 1) ds = true := by simpa [fineAll] using h
      simp only [pyAll, List.any_cons]
      rw [eqv_py d x m n h'.1 hx, any_py x n (m + 1) hx ds h'.2]
section
variable {P : Program} {w : World} {K : PySem.W.Frag} {H : Hp}
mutual
theorem Rep.dp : ∀ {d : D} {v : V} {f : FP} {n : Nat}, Rep P w K H v d f → d.fine n = true → Dp K H v d.py
  | .non, _, _, _, .non, _ => .non
  | .bl _, _, _, _, .bl _, _ => .bl _
  | .int _, _, _, _, .int _, _ => .int _
  | .str _, _, _, _, .str _, _ => .str _
  | .tup ds, _, _, n, .tup h1 h2, e => .tup h1 (h2.dp (n := n) (by simpa [D.fine] using e))
  | .lst ds, _, _, n, .lst h1 h2, e => .lst (.inl (.inl h1)) (h2.dp (n := n) (by simpa [D.fine] using e))
  | .dic _ _, _, _, _, _, e => by simp [D.fine] at e
  | .ins _ _ _, _, _, _, _, e => by simp [D.fine] at e
  | .scr _, _, _, _, _, e => by simp [D.fine] at e
  | .opq _, _, _, _, _, e => by simp [D.fine] at e
theorem RepL.dp : ∀ {ds : List D} {vs : List V} {f : FP} {n : Nat}, RepL P w K H vs ds f → fineAll n ds = true → DpAll K H vs (pyAll ds)
  | [], _, _, _, .nil, _ => .nil
  | _ :: _, _, _, 0, .cons _ _, e => by simp [fineAll] at e
  | d :: ds, _, _, n + 1, .cons h1 h2, e => by
    have e' : d.fine n = true ∧ fineAll (n + 1) ds = true := by simpa [fineAll] using e
    exact .cons (h1.dp e'.1) (h2.dp e'.2)
end
end

/-! ### keys -/
section
variable {X : Cx} {pins : List (Addr × Obj)} {σ : St} {H : Hp} {s : Shared}
mutual
theorem key_is (I : Inv X pins σ H s) : ∀ {d : D} {v : V} {u : Value} {f : FP} {n : Nat}, Rep X.prog X.w X.K H v d f → d.keyed n = true → RelV v u → NestedIs s.heap d.nk u
  | .non, _, _, _, _, .non, _, r => by cases r; exact .none
  | .bl b, _, _, _, _, .bl _, _, r => by cases r; exact .bool rfl
  | .int i, _, _, _, _, .int _, _, r => by obtain ⟨t, rfl⟩ := r; exact .int _ _
  | .str x, _, _, _, _, .str _, _, r => by obtain ⟨t, rfl⟩ := r; exact .text _ _
  | .tup ds, _, _, _, n, .tup h1 h2, e, r => by
    cases r
    obtain ⟨its, rv, ⟨o, ho, hc, m, hd⟩, hz⟩ := I.tuple h1
    exact .tup ho hc hd (by simpa using keys_are I h2 (n := n) (by simpa [D.keyed] using e) rv)
  | .lst _, _, _, _, _, _, e, _ => by simp [D.keyed] at e
  | .dic _ _, _, _, _, _, _, e, _ => by simp [D.keyed] at e
  | .ins _ _ _, _, _, _, _, _, e, _ => by simp [D.keyed] at e
  | .scr _, _, _, _, _, _, e, _ => by simp [D.keyed] at e
  | .opq _, _, _, _, _, _, e, _ => by simp [D.keyed] at e
theorem keys_are (I : Inv X pins σ H s) : ∀ {ds : List D} {vs : List V} {us : List Value} {f : FP} {n : Nat}, RepL X.prog X.w X.K H vs ds f → keyedAll n ds = true → Vals vs us → NestedAll s.heap (nkAll ds) us
  | [], _, _, _, _, .nil, _, r => by cases r; exact .nil
  | _ :: _, _, _, _, 0, .cons _ _, e, _ => by simp [keyedAll] at e
  | d :: ds, _, _, _, n + 1, .cons h1 h2, e, r => by
    have e' : d.keyed n = true ∧ keyedAll (n + 1) ds = true := by simpa [keyedAll] using e
    cases r with
    | cons r1 r2 => exact .cons (key_is I h1 e'.1 r1) (keys_are I h2 e'.2 r2)
end
end
mutual
theorem nk_depth : ∀ (d : D) (n : Nat), d.keyed n = true → d.nk.depth ≤ n + 1
  | .non, _, _ => by simp [D.nk, NestedKey.depth]
  | .bl _, _, _ => by simp [D.nk, NestedKey.depth]
  | .int _, _, _ => by simp [D.nk, NestedKey.depth]
  | .str _, _, _ => by simp [D.nk, NestedKey.depth]
  | .tup ds, n, h => by
    have q := nkAll_depth ds n (by simpa [D.keyed] using h)
    simp only [D.nk, NestedKey.depth]
    omega
  | .lst _, n, h => by simp [D.keyed] at h
  | .dic _ _, n, h => by simp [D.keyed] at h
  | .ins _ _ _, n, h => by simp [D.keyed] at h
  | .scr _, n, h => by simp [D.keyed] at h
  | .opq _, n, h => by simp [D.keyed] at h
theorem nkAll_depth : ∀ (ds : List D) (n : Nat), keyedAll n ds = true → NestedKey.depthAll (nkAll ds) ≤ n
  | [], _, _ => by simp [nkAll, NestedKey.depthAll]
  | _ :: _, 0, h => by simp [keyedAll] at h
  | d :: ds, n + 1, h => by
    have h' : d.keyed n = true ∧ keyedAll (n + 1) ds = true := by simpa [keyedAll] using h
    have q1 := nk_depth d n h'.1
    have q2 := nkAll_depth ds (n + 1) h'.2
    simp only [nkAll, NestedKey.depthAll]
    omega
end
/-! == of keys is equality of the keys that they are -/
mutual
theorem nk_eqv : ∀ (a b : D) (n m : Nat), a.keyed n = true → b.keyed m = true → a.eqv b = decide (a.nk = b.nk)
  | .non, b, n, m, _, hb => by cases b <;> simp [D.keyed] at hb <;> simp [D.nk, D.eqv]
  | .bl x, b, n, m, _, hb => by
    cases b <;> simp [D.keyed] at hb <;> simp [D.nk, D.eqv]
    rename_i y
    cases x <;> cases y <;> decide
  | .int x, b, n, m, _, hb => by cases b <;> simp [D.keyed] at hb <;> simp [D.nk, D.eqv]
  | .str x, b, n, m, _, hb => by cases b <;> simp [D.keyed] at hb <;> simp [D.nk, D.eqv]
  | .tup xs, b, n, m, ha, hb => by
    cases b <;> simp [D.keyed] at ha hb <;> simp [D.nk, D.eqv]
    exact nkAll_eqv xs _ n m ha hb
  | .lst _, b, n, m, ha, _ => by simp [D.keyed] at ha
  | .dic _ _, b, n, m, ha, _ => by simp [D.keyed] at ha
  | .ins _ _ _, b, n, m, ha, _ => by simp [D.keyed] at ha
  | .scr _, b, n, m, ha, _ => by simp [D.keyed] at ha
  | .opq _, b, n, m, ha, _ => by simp [D.keyed] at ha
theorem nkAll_eqv : ∀ (as bs : List D) (n m : Nat), keyedAll n as = true → keyedAll m bs = true → eqvAll as bs = decide (nkAll as = nkAll bs)
  | [], [], _, _, _, _ => by simp [eqvAll, nkAll]
  | [], _ :: _, _, _, _, _ => by simp [eqvAll, nkAll]
  | _ :: _, [], _, _, _, _ => by simp [eqvAll, nkAll]
  | a :: as, b :: bs, 0, _, ha, _ => by simp [keyedAll] at ha
  | a :: as, b :: bs, n + 1, 0, _, hb => by simp [keyedAll] at hb
  | a :: as, b :: bs, n + 1, m + 1, ha, hb => by
    have ha' : a.keyed n = true ∧ keyedAll (n + 1) as = true := by simpa [keyedAll] using ha
    have hb' : b.keyed m = true ∧ keyedAll (m + 1) bs = true := by simpa [keyedAll] using hb
    simp only [eqvAll, nkAll, List.cons.injEq]
    rw [nk_eqv a b n m ha'.1 hb'.1, nkAll_eqv as bs (n + 1) (m + 1) ha'.2 hb'.2, Bool.decide_and]
end
end Ev
end

section
set_option Elab.async false
set_option linter.all false
set_option maxRecDepth 100000
set_option maxHeartbeats 1000000
/-! Dicts of tuples (nested), of plain keys. -/
namespace Ev
open PySem L2

theorem keyed_leaf {d : D} {n m : Nat} (h : d.keyed n = true) (t : d.isTup = false) : d.keyed m = true := by
  cases d <;> simp [D.keyed, D.isTup] at h t ⊢
theorem leaf_key {d : D} {n : Nat} (h : d.keyed n = true) (t : d.isTup = false) : d.leaf.key = d.nk := by
  cases d <;> simp [D.keyed, D.isTup] at h t <;> rfl
theorem leaf_eqv {a b : D} {n m : Nat} (ha : a.keyed n = true) (hb : b.keyed m = true) (ta : a.isTup = false) (tb : b.isTup = false) : a.eqv b = decide (a.leaf = b.leaf) := by
  rw [nk_eqv a b n m ha hb, ← leaf_key ha ta, ← leaf_key hb tb]
  by_cases e : a.leaf = b.leaf
  · rw [decide_eq_true e, decide_eq_true (congrArg Leaf.key e)]
  · rw [decide_eq_false e, decide_eq_false fun q => e (Leaf.key_inj q)]
theorem keyedAll_mem : ∀ {ds : List D} {n : Nat} {d : D}, keyedAll n ds = true → d ∈ ds → ∃ m, d.keyed m = true
  | [], _, _, _, h => by cases h
  | d :: ds, 0, _, h, _ => by simp [keyedAll] at h
  | d :: ds, n + 1, x, h, hm => by
    have h' : d.keyed n = true ∧ keyedAll (n + 1) ds = true := by simpa [keyedAll] using h
    rcases List.mem_cons.mp hm with rfl | hm
    · exact ⟨n, h'.1⟩
    · exact keyedAll_mem h'.2 hm
theorem keyAt_lt {k : D} : ∀ {ks : List D} {j : Nat}, keyAt k ks = some j → j < ks.length
  | [], _, h => by simp [keyAt] at h
  | d :: ds, j, h => by
    unfold keyAt at h
    split at h
    · cases h; exact Nat.zero_lt_succ _
    · obtain ⟨i, e1, e2⟩ := Option.map_eq_some_iff.mp h
      subst e2
      exact Nat.succ_lt_succ (keyAt_lt e1)
theorem fit_keyed {k : D} {ks : List D} (h : keyFit k ks = true) : k.keyed 7 = true := (Bool.and_eq_true_iff.mp h).1
theorem fit_tup {k : D} {ks : List D} (h : keyFit k ks = true) : ∀ k' ∈ ks, k'.isTup = k.isTup := fun k' hk => by
  have := List.all_eq_true.mp (Bool.and_eq_true_iff.mp h).2 k' hk
  exact eq_of_beq this
/-! finding in a list of pairs -/
theorem find_at {α : Type} [DecidableEq α] (g : D → α) (k : D) : ∀ (ks : List D) (us : List Value) (kvs : List (α × Value)), kvs.map (·.1) = ks.map g → kvs.map (·.2) = us → (∀ k' ∈ ks, k'.eqv k = decide (g k' = g k)) →
    valueAt kvs (g k) = (keyAt k ks).bind fun j => us[j]?
  | [], _, [], _, _, _ => rfl
  | [], _, _ :: _, h, _, _ => by simp at h
  | _ :: _, _, [], h, _, _ => by simp at h
  | k' :: ks, us, kv :: kvs, h1, h2, hq => by
    subst h2
    simp only [List.map_cons, List.cons.injEq] at h1
    obtain ⟨e1, e2⟩ := h1
    have q := hq k' (by simp)
    have ih := find_at g k ks (kvs.map (·.2)) kvs e2 rfl fun z hz => hq z (by simp [hz])
    unfold valueAt keyAt
    rw [List.find?_cons, q, ← e1]
    by_cases c : kv.1 = g k
    · simp [c]
    · simp only [decide_eq_false c, Bool.false_eq_true, if_false]
      rw [show (List.find? (fun kv => decide (kv.1 = g k)) kvs).map (·.2) = valueAt kvs (g k) from rfl, ih]
      cases keyAt k ks <;> simp
theorem keyAt_none_of {k : D} : ∀ {ks : List D}, keyAt k ks = none → ∀ k' ∈ ks, k'.eqv k = false
  | [], _, _, h => by cases h
  | d :: ds, h, k', hk => by
    unfold keyAt at h
    split at h
    · cases h
    · rename_i c
      rcases List.mem_cons.mp hk with rfl | hk
      · simpa using c
      · exact keyAt_none_of (Option.map_eq_none_iff.mp h) k' hk
/-- storing in a list of pairs -/
theorem stored_at {α : Type} [DecidableEq α] (g : D → α) (k : D) (v : Value) : ∀ (ks : List D) (kvs : List (α × Value)), kvs.map (·.1) = ks.map g → (kvs.map (·.1)).Nodup → (∀ k' ∈ ks, k'.eqv k = decide (g k' = g k)) →
    (match keyAt k ks with
     | some j => (stored kvs (g k) v).map (·.1) = ks.map g ∧ (stored kvs (g k) v).map (·.2) = (kvs.map (·.2)).set j v
     | none => (stored kvs (g k) v).map (·.1) = ks.map g ++ [g k] ∧ (stored kvs (g k) v).map (·.2) = kvs.map (·.2) ++ [v])
  | [], [], _, _, _ => by simp [keyAt, stored]
  | [], _ :: _, h, _, _ => by simp at h
  | _ :: _, [], h, _, _ => by simp at h
  | k' :: ks, kv :: kvs, h1, nd, hq => by
    simp only [List.map_cons, List.cons.injEq] at h1
    obtain ⟨e1, e2⟩ := h1
    have q := hq k' (by simp)
    simp only [List.map_cons, List.nodup_cons] at nd
    have ih := stored_at g k v ks kvs e2 nd.2 fun z hz => hq z (by simp [hz])
    unfold keyAt
    rw [q, ← e1]
    by_cases c : kv.1 = g k
    · simp only [c, decide_true, if_true]
      have hs : stored (kv :: kvs) (g k) v = (kv.1, v) :: kvs := by
        unfold stored
        rw [if_pos (by simp [c])]
        simp only [List.map_cons, c, if_true, List.cons.injEq, true_and]
        conv => rhs; rw [← List.map_id kvs]
        refine List.map_congr_left fun z hz => ?_
        rw [if_neg]
        · rfl
        · intro e
          exact nd.1 (by rw [c, ← e]; exact List.mem_map_of_mem hz)
      rw [hs]
      exact ⟨by simp only [List.map_cons, e2, e1], by simp only [List.map_cons, List.set_cons_zero]⟩
    · simp only [decide_eq_false c, Bool.false_eq_true, if_false]
      have hs : stored (kv :: kvs) (g k) v = kv :: stored kvs (g k) v := by
        unfold stored
        by_cases z : kvs.any (fun kv => decide (kv.1 = g k)) = true
        · rw [if_pos z, if_pos (by rw [List.any_cons, z, Bool.or_true])]
          simp [c]
        · rw [if_neg z, if_neg (by rw [List.any_cons, decide_eq_false c, Bool.false_or]; exact z)]
          rfl
      rw [hs]
      cases e3 : keyAt k ks with
      | none =>
        rw [e3] at ih
        exact ⟨by simp only [Option.map_none, List.map_cons, List.cons_append, ih.1, e1], by simp only [List.map_cons, List.cons_append, ih.2]⟩
      | some j =>
        rw [e3] at ih
        exact ⟨by simp only [List.map_cons, ih.1, e1], by simp only [List.map_cons, List.set_cons_succ, ih.2]⟩

section
variable {P : Program} {w : World} {K : PySem.W.Frag} {H : Hp}
/-- one item of a list of data replaced -/
theorem RepL.set : ∀ {ds : List D} {vs : List V} {f : FP} {j : Nat} {d : D}, RepL P w K H vs ds f → ds[j]? = some d → ∃ (v : V) (g : FP), vs[j]? = some v ∧ Rep P w K H v d g ∧ (∀ a, g a ≤ f a) ∧
    ∀ (v' : V) (d' : D) (g' : FP), Rep P w K H v' d' g' → ∃ f', RepL P w K H (vs.set j v') (ds.set j d') f' ∧ ∀ a, f' a + g a = f a + g' a
  | [], _, _, _, _, .nil, e => by simp at e
  | _ :: _, _, _, 0, _, .cons (f := f) (g := g) h1 h2, e => by
    simp at e; subst e
    exact ⟨_, f, rfl, h1, fun a => Nat.le_add_right _ _, fun v' d' g' r => ⟨_, .cons r h2, fun a => by show g' a + g a + f a = f a + g a + g' a; omega⟩⟩
  | _ :: _, _, _, j + 1, _, .cons (f := f) (g := g) h1 h2, e => by
    obtain ⟨v, g0, e1, r, l, st⟩ := h2.set (j := j) (by simpa using e)
    refine ⟨v, g0, by simpa using e1, r, fun a => Nat.le_trans (l a) (Nat.le_add_left _ _), fun v' d' g' r' => ?_⟩
    obtain ⟨f', q1, q2⟩ := st v' d' g' r'
    exact ⟨_, .cons h1 q1, fun a => by have := q2 a; show f a + f' a + g0 a = f a + g a + g' a; omega⟩
theorem vals_get {vs : List V} {us : List Value} (r : Vals vs us) {j : Nat} {v : V} (e : vs[j]? = some v) : ∃ u, us[j]? = some u ∧ RelV v u := r.get e
end

section
variable {X : Cx} {pins : List (Addr × Obj)} {σ : St} {H : Hp} {s : Shared}
/-- the heap's own word of a dict -/
theorem dic_heap (I : Inv X pins σ H s) {y : V} {ks ds : List D} {g : FP} (r : Rep X.prog X.w X.K H y (.dic ks ds) g) : ∃ (a : Addr) (vs : List V) (f : FP), y = .ref a ∧ g = fa (Ev.fs a) f ∧ RepL X.prog X.w X.K H vs ds f ∧ (a == sysModules) = false ∧ ds.length = ks.length ∧ ks.length ≤ sizeLine ∧
    ((∃ (ob : Obj) (xs : List (NestedKey × Addr × Value)), H a = some (.ext (DE.phi X.prog X.w a (.tp ob xs))) ∧ s.heap.get? a = some ob ∧ s.heap.DictOfH (nestedKind X.prog X.w) a xs ∧ xs.map (·.1) = ks.map D.nk ∧ ks.all D.isTup = true ∧ keyedAll 8 ks = true ∧
        RepL X.prog X.w X.K H (xs.map fun x => V.ref x.2.1) ks fz ∧ Vals vs (xs.map (·.2.2))) ∨
     (∃ (ob : Obj) (xs : List (Leaf × Value)), H a = some (.ext (DE.phi X.prog X.w a (.lf ob xs))) ∧ s.heap.DictOf (leafKind X.prog X.w) a xs ∧ xs.map (·.1) = ks.map D.leaf ∧ ks.all (fun k => !k.isTup) = true ∧ keyedAll 1 ks = true ∧
        Vals vs (xs.map (·.2)))) := by
  cases r with
  | @dicT a ob xs ks ds vs f h1 h2 h3 h4 h5 h6 h7 h8 h9 =>
    obtain ⟨⟨es, ep, q1, q2, q3, q4, q5⟩, _, _⟩ := (show ObjOk X.prog X.w H s.heap a (.ext _) from I.hok a _ h1)
    have hl : xs.length = ks.length := by have := congrArg List.length h4; simpa using this
    have hd : ds.length = ks.length := by
      have e1 := h9.length
      have e2 := h8.length
      simp at e2
      omega
    refine ⟨a, vs, f, rfl, rfl, h9, h2, hd, by omega, .inl ⟨ob, xs, h1, q1, ⟨ob, es, ep, q1, q2, q3, q4, fun x hx => ?_, q5⟩, h4, h5, h6, h7, h8⟩⟩
    -- each key stands
    have key : ∀ (xs : List (NestedKey × Addr × Value)) (ks : List D), xs.map (·.1) = ks.map D.nk → keyedAll 8 ks = true → RepL X.prog X.w X.K H (xs.map fun x => V.ref x.2.1) ks fz → ∀ x ∈ xs, (nestedKind X.prog X.w).is s.heap x.1 x.2.1 := by
      intro xs
      induction xs with
      | nil => intro ks _ _ _ x hx; cases hx
      | cons x0 xs ih =>
        intro ks e1 e2 e3 x hx
        cases ks with
        | nil => simp at e1
        | cons k ks =>
          simp only [List.map_cons, List.cons.injEq] at e1
          have e2' : k.keyed 7 = true ∧ keyedAll 8 ks = true := by simpa [keyedAll] using e2
          obtain ⟨rr, rt⟩ := RepL.uncons0 e3
          rcases List.mem_cons.mp hx with rfl | hx
          · have z := key_is I rr e2'.1 (u := Value.ref x.2.1) rfl
            have dd := nk_depth k 7 e2'.1
            rw [← e1.1] at z dd
            exact ⟨z, dd⟩
          · exact ih ks e1.2 e2'.2 rt x hx
    exact key xs ks h4 h6 h7 x hx
  | @dicL a ob xs ks ds vs f h1 h2 h3 h4 h5 h6 h7 h8 =>
    obtain ⟨⟨q0, q⟩, _, _⟩ := (show ObjOk X.prog X.w H s.heap a (.ext _) from I.hok a _ h1)
    have hl : xs.length = ks.length := by have := congrArg List.length h4; simpa using this
    have hd : ds.length = ks.length := by
      have e1 := h8.length
      have e2 := h7.length
      simp at e2
      omega
    exact ⟨a, vs, f, rfl, rfl, h8, h2, hd, by omega, .inr ⟨ob, xs, h1, q, h4, h6, h5, h7⟩⟩

theorem all_eq_nil {ks : List D} {b : Bool} (h1 : ∀ k' ∈ ks, k'.isTup = b) (h2 : ∀ k' ∈ ks, k'.isTup = !b) : ks = [] := by
  cases ks with
  | nil => rfl
  | cons k ks =>
    have a1 := h1 k (by simp)
    have a2 := h2 k (by simp)
    rw [a1] at a2
    cases b <;> cases a2
/-- the dict as one of tuples -/
theorem dic_T (I : Inv X pins σ H s) {y : V} {ks ds : List D} {g : FP} {k : D} (r : Rep X.prog X.w X.K H y (.dic ks ds) g) (fit : keyFit k ks = true) (t : k.isTup = true) : ∃ (a : Addr) (vs : List V) (f : FP) (xs : List (NestedKey × Addr × Value)), y = .ref a ∧ g = fa (Ev.fs a) f ∧ RepL X.prog X.w X.K H vs ds f ∧
    (a == sysModules) = false ∧ ds.length = ks.length ∧ ks.length ≤ sizeLine ∧ (∃ φ, H a = some (.ext φ)) ∧ s.heap.DictOfH (nestedKind X.prog X.w) a xs ∧ xs.map (·.1) = ks.map D.nk ∧ ks.all D.isTup = true ∧ keyedAll 8 ks = true ∧
        RepL X.prog X.w X.K H (xs.map fun x => V.ref x.2.1) ks fz ∧ Vals vs (xs.map (·.2.2)) := by
  obtain ⟨a, vs, f, e1, e2, l, hs, hd, hz, q⟩ := dic_heap I r
  rcases q with ⟨ob, xs, h1, -, h2, h3, h4, h5, h6, h7⟩ | ⟨ob, xs, h1, h2, h3, h4, h5, h6⟩
  · exact ⟨a, vs, f, xs, e1, e2, l, hs, hd, hz, ⟨_, h1⟩, h2, h3, h4, h5, h6, h7⟩
  · have z : ks = [] := all_eq_nil (b := true) (fun k' hk => (fit_tup fit k' hk).trans t) fun k' hk => by simpa using List.all_eq_true.mp h4 k' hk
    subst z
    have zx : xs = [] := by simpa using h3
    subst zx
    obtain ⟨o, es, ep, q1, q2, q3, q4, q5, q6⟩ := h2
    refine ⟨a, vs, f, [], e1, e2, l, hs, hd, hz, ⟨_, h1⟩, ⟨o, es, ep, q1, q2, q3, ?_, fun x hx => by simp at hx, by simp⟩, rfl, rfl, rfl, .nil, h6⟩
    generalize hes : es.toList = le at q5
    cases q5
    rfl
theorem dic_L (I : Inv X pins σ H s) {y : V} {ks ds : List D} {g : FP} {k : D} (r : Rep X.prog X.w X.K H y (.dic ks ds) g) (fit : keyFit k ks = true) (t : k.isTup = false) : ∃ (a : Addr) (vs : List V) (f : FP) (xs : List (Leaf × Value)), y = .ref a ∧ g = fa (Ev.fs a) f ∧ RepL X.prog X.w X.K H vs ds f ∧
    (a == sysModules) = false ∧ ds.length = ks.length ∧ ks.length ≤ sizeLine ∧ (∃ φ, H a = some (.ext φ)) ∧ s.heap.DictOf (leafKind X.prog X.w) a xs ∧ xs.map (·.1) = ks.map D.leaf ∧ ks.all (fun k => !k.isTup) = true ∧ keyedAll 1 ks = true ∧ Vals vs (xs.map (·.2)) := by
  obtain ⟨a, vs, f, e1, e2, l, hs, hd, hz, q⟩ := dic_heap I r
  rcases q with ⟨ob, xs, h1, -, h2, h3, h4, h5, h6, h7⟩ | ⟨ob, xs, h1, h2, h3, h4, h5, h6⟩
  · have z : ks = [] := all_eq_nil (b := false) (fun k' hk => (fit_tup fit k' hk).trans t) fun k' hk => List.all_eq_true.mp h4 k' hk
    subst z
    have zx : xs = [] := by simpa using h3
    subst zx
    obtain ⟨o, es, ep, q1, q2, q3, q4, q5, q6⟩ := h2
    have he : es = #[] := by
      have : es.toList = [] := by simpa using q4
      simpa using this
    subst he
    exact ⟨a, vs, f, [], e1, e2, l, hs, hd, hz, ⟨_, h1⟩, ⟨o, #[], ep, q1, q2, q3, fun e he => by simp at he, .nil, by simp⟩, rfl, rfl, rfl, by simpa using h7⟩
  · exact ⟨a, vs, f, xs, e1, e2, l, hs, hd, hz, ⟨_, h1⟩, h2, h3, h4, h5, h6⟩
theorem leaf_is {v : V} {u : Value} {d : D} {f : FP} {n : Nat} (r : Rep X.prog X.w X.K H v d f) (k : d.keyed n = true) (t : d.isTup = false) (ru : RelV v u) : (leafKind X.prog X.w).is d.leaf u = true := by
  show Leaf.isOf d.leaf u = true
  cases r <;> simp [D.keyed, D.isTup] at k t
  · cases ru; rfl
  · cases ru; simp [D.leaf, Leaf.isOf]
  · obtain ⟨t, rfl⟩ := ru; simp [D.leaf, Leaf.isOf]
  · obtain ⟨t, rfl⟩ := ru; simp [D.leaf, Leaf.isOf, Value.isStrOf]
theorem nest_is (I : Inv X pins σ H s) {a : Addr} {d : D} {f : FP} (r : Rep X.prog X.w X.K H (.ref a) d f) (k : d.keyed 7 = true) : (nestedKind X.prog X.w).is s.heap d.nk a :=
  ⟨key_is I r k (u := Value.ref a) rfl, nk_depth d 7 k⟩
theorem tup_ref {v : V} {d : D} {f : FP} (r : Rep X.prog X.w X.K H v d f) (t : d.isTup = true) : ∃ a, v = .ref a := by
  cases r <;> simp [D.isTup] at t
  exact ⟨_, rfl⟩
theorem eqv_nk {k : D} {ks : List D} (fit : keyFit k ks = true) (hk : keyedAll 8 ks = true) : ∀ k' ∈ ks, k'.eqv k = decide (k'.nk = k.nk) := fun k' h => by
  obtain ⟨m, hm⟩ := keyedAll_mem hk h
  exact nk_eqv k' k m 7 hm (fit_keyed fit)
theorem eqv_leaf {k : D} {ks : List D} (fit : keyFit k ks = true) (t : k.isTup = false) (hk : keyedAll 1 ks = true) : ∀ k' ∈ ks, k'.eqv k = decide (k'.leaf = k.leaf) := fun k' h => by
  obtain ⟨m, hm⟩ := keyedAll_mem hk h
  exact leaf_eqv hm (fit_keyed fit) ((fit_tup fit k' h).trans t) t
theorem pairsH_fst (xs : List (NestedKey × Addr × Value)) : (pairsH xs).map (·.1) = xs.map (·.1) := by simp [pairsH, Function.comp_def]
theorem pairsH_snd (xs : List (NestedKey × Addr × Value)) : (pairsH xs).map (·.2) = xs.map (·.2.2) := by simp [pairsH, Function.comp_def]
theorem isSome_bind_get {ks : List D} {k : D} {us : List Value} (h : us.length = ks.length) : ((keyAt k ks).bind fun j => us[j]?).isSome = (keyAt k ks).isSome := by
  cases e : keyAt k ks with
  | none => rfl
  | some j =>
    have := keyAt_lt e
    simp [h, this]

/-! ### in -/
def rInDic (B : Program × World × PySem.W.Frag) (neg : Bool) : R2 := fun x y H Q => ∃ d ks ds f g, Rep B.1 B.2.1 B.2.2 H x d f ∧ Rep B.1 B.2.1 B.2.2 H y (.dic ks ds) g ∧ keyFit d ks = true ∧ Q (.bl (if neg then !(keyAt d ks).isSome else (keyAt d ks).isSome)) H
theorem in_dic (hu : X.A.units + 16 < cLine) : OpR X (compareOp .In) (rInDic (X.prog, X.w, X.K) false) := by
  intro pins s σ H x y v u Q I rx ry h
  obtain ⟨d, ks, ds, f, g, r1, r2, fit, q⟩ := h
  cases t : d.isTup with
  | true =>
    obtain ⟨a, vs, f', xs, rfl, -, -, hs, hd, hz, -, hm, e1, e2, e3, -, rv⟩ := dic_T I r2 fit t
    obtain ⟨b, rfl⟩ := tup_ref r1 t
    cases rx; cases ry
    refine wpAny_in_heap (knd := nestedKind X.prog X.w) (by show X.A.units + 1 + 8 < cLine; omega) (nest_is I r1 (fit_keyed fit)) hs hm ⟨.bl _, H, I.tok _, ?_, q⟩
    have z := find_at D.nk d ks (xs.map (·.2.2)) (pairsH xs) (by rw [pairsH_fst]; exact e1) (pairsH_snd xs) (eqv_nk fit e3)
    rw [valueAt_pairsH] at z
    have z2 := congrArg Option.isSome z
    rw [Option.isSome_map, isSome_bind_get (by have := congrArg List.length e1; simpa using this)] at z2
    rw [z2]
    rfl
  | false =>
    obtain ⟨a, vs, f', xs, rfl, -, -, hs, hd, hz, -, hm, e1, e2, e3, rv⟩ := dic_L I r2 fit t
    cases ry
    refine wpAny_in_of (leaf_is r1 (fit_keyed fit) t rx) hs hm.mapOf ⟨.bl _, H, I.tok _, ?_, q⟩
    have z := find_at D.leaf d ks (xs.map (·.2)) xs e1 rfl (eqv_leaf fit t e3)
    rw [z, isSome_bind_get (by have := congrArg List.length e1; simpa using this)]
    rfl
theorem notin_dic (hu : X.A.units + 16 < cLine) : OpR X (compareOp .NotIn) (rInDic (X.prog, X.w, X.K) true) := by
  intro pins s σ H x y v u Q I rx ry h
  obtain ⟨d, ks, ds, f, g, r1, r2, fit, q⟩ := h
  cases t : d.isTup with
  | true =>
    obtain ⟨a, vs, f', xs, rfl, -, -, hs, hd, hz, -, hm, e1, e2, e3, -, rv⟩ := dic_T I r2 fit t
    obtain ⟨b, rfl⟩ := tup_ref r1 t
    cases rx; cases ry
    show wpAny _ _ (do return Value.bool (!(← contains (.ref a) (.ref b)))) _ _ s
    refine wpAny_bind (wpAny_contains_heap (knd := nestedKind X.prog X.w) (by show X.A.units + 1 + 8 < cLine; omega) (nest_is I r1 (fit_keyed fit)) hs hm (wpAny_pure ⟨.bl _, H, I.tok _, ?_, q⟩))
    have z := find_at D.nk d ks (xs.map (·.2.2)) (pairsH xs) (by rw [pairsH_fst]; exact e1) (pairsH_snd xs) (eqv_nk fit e3)
    rw [valueAt_pairsH] at z
    have z2 := congrArg Option.isSome z
    rw [Option.isSome_map, isSome_bind_get (by have := congrArg List.length e1; simpa using this)] at z2
    rw [z2]
    rfl
  | false =>
    obtain ⟨a, vs, f', xs, rfl, -, -, hs, hd, hz, -, hm, e1, e2, e3, rv⟩ := dic_L I r2 fit t
    cases ry
    refine wpAny_notIn_of (leaf_is r1 (fit_keyed fit) t rx) hs hm.mapOf ⟨.bl _, H, I.tok _, ?_, q⟩
    have z := find_at D.leaf d ks (xs.map (·.2)) xs e1 rfl (eqv_leaf fit t e3)
    rw [z, isSome_bind_get (by have := congrArg List.length e1; simpa using this)]
    rfl
/-! ### d[k] -/
def rIxDic (B : Program × World × PySem.W.Frag) : R2 := fun x y H Q => ∃ k ks ds f g j d, Rep B.1 B.2.1 B.2.2 H x (.dic ks ds) f ∧ Rep B.1 B.2.1 B.2.2 H y k g ∧ keyFit k ks = true ∧ keyAt k ks = some j ∧ ds[j]? = some d ∧
  ∀ v h, Rep B.1 B.2.1 B.2.2 H v d h → (∀ a, h a ≤ f a) → Q v H
theorem ix_dic (hu : X.A.units + 16 < cLine) : IxR X (rIxDic (X.prog, X.w, X.K)) := by
  intro value slice pins s σ H x y v u Q I rx ry h hsub
  obtain ⟨k, ks, ds, f, g, j, d, r2, r1, fit, hj, hd, q⟩ := h
  have get : ∀ {vs : List V} {f' : FP} {us : List Value}, RepL X.prog X.w X.K H vs ds f' → (∀ a, f' a ≤ f a) → Vals vs us → ∃ u0 v0, us[j]? = some u0 ∧ RelV v0 u0 ∧ Q v0 H := fun l le rv => by
    obtain ⟨v0, g0, e0, r0, l0⟩ := l.get hd
    obtain ⟨u0, e1, e2⟩ := rv.get e0
    exact ⟨u0, v0, e1, e2, q v0 g0 r0 fun a => Nat.le_trans (l0 a) (le a)⟩
  cases t : k.isTup with
  | true =>
    obtain ⟨a, vs, f', xs, rfl, rfl, l, hs, hdl, hz, -, hm, e1, e2, e3, -, rv⟩ := dic_T I r2 fit t
    obtain ⟨b, rfl⟩ := tup_ref r1 t
    cases rx; cases ry
    obtain ⟨u0, v0, q1, q2, q3⟩ := get l (fun a => Nat.le_add_left _ _) rv
    have z := find_at D.nk k ks (xs.map (·.2.2)) (pairsH xs) (by rw [pairsH_fst]; exact e1) (pairsH_snd xs) (eqv_nk fit e3)
    rw [hj] at z
    have z' : valueAt (pairsH xs) k.nk = some u0 := z.trans q1
    rw [valueAt_pairsH] at z'
    obtain ⟨p, hp, hp2⟩ := Option.map_eq_some_iff.mp z'
    refine PyProof.Rows.tail_any hm.typeIs PySem.F.slot_dict_getitem.lookup (wpAny_getItem_heap (knd := nestedKind X.prog X.w) (by show X.A.units + 1 + 8 < cLine; omega) (nest_is I r1 (fit_keyed fit)) hm hp ?_) hsub
    rw [hp2]
    exact ⟨v0, H, I.tok _, q2, q3⟩
  | false =>
    obtain ⟨a, vs, f', xs, rfl, rfl, l, hs, hdl, hz, -, hm, e1, e2, e3, rv⟩ := dic_L I r2 fit t
    cases rx
    obtain ⟨u0, v0, q1, q2, q3⟩ := get l (fun a => Nat.le_add_left _ _) rv
    have z := find_at D.leaf k ks (xs.map (·.2)) xs e1 rfl (eqv_leaf fit t e3)
    rw [hj] at z
    exact PyProof.Rows.tail_any hm.typeIs PySem.F.slot_dict_getitem.lookup (wpAny_getItem_of (leaf_is r1 (fit_keyed fit) t ry) hm.mapOf (z.trans q1) ⟨v0, H, I.tok _, q2, q3⟩) hsub
/-! ### len(d) -/
theorem len_dic : CallR X (.builtin "len") (fun xs H Q => ∃ x ks ds f, xs = [x] ∧ Rep X.prog X.w X.K H x (.dic ks ds) f ∧ Q (.int ks.length) H) := by
  intro pins s σ H xs us Q I r h
  obtain ⟨x, ks, ds, f, rfl, r2, q⟩ := h
  obtain ⟨u, rfl, rx⟩ := vals1 r
  obtain ⟨a, vs, f', rfl, -, -, hs, hdl, hz, c⟩ := dic_heap I r2
  cases rx
  rw [sizeLine_eq] at hz
  rcases c with ⟨ob, xs, -, -, hm, e1, -⟩ | ⟨ob, xs, -, hm, e1, -⟩
  · have hl : xs.length = ks.length := by have := congrArg List.length e1; simpa using this
    refine call_len_dictH hs hm (by omega) ?_
    rw [hl]
    exact ⟨.int ks.length, H, I.tok _, ⟨_, rfl⟩, q⟩
  · have hl : xs.length = ks.length := by have := congrArg List.length e1; simpa using this
    refine call_len_dict hs hm (by omega) ?_
    rw [hl]
    exact ⟨.int ks.length, H, I.tok _, ⟨_, rfl⟩, q⟩
/-! ### {} -/
def dicO : Obj := { cls := .type "dict", data := .dict #[] }
def tDicNew (P : Program) (w : World) : TE := fun _ H Q => ∀ p, H p = none → (p == sysModules) = false → Q (.ref p) (upd H p (.ext (DE.phi P w p (.tp dicO []))))
theorem pe_dicNew {pos : Pos} : PE X (.Dict [] [] pos) (tDicNew X.prog X.w) := ⟨fun pins s σ H Q I h =>
  wpAny_Dict_empty (by
    have e0 : (s.heap.push { cls := .type "dict", data := .dict #[] }).get? s.heap.objs.size = some { cls := .type "dict", data := .dict #[] } := Heap.get?_push_size _ rfl
    refine ⟨.ref s.heap.objs.size, _, I.laid (a := s.heap.objs.size) (o := .ext (DE.phi X.prog X.w s.heap.objs.size (.tp dicO []))) (t' := s.toks) (fun _ _ q => Heap.get?_push_of_some _ q) (Nat.le_refl _) ⟨?_, ⟨_, e0⟩, ?_⟩, rfl, h _ (I.hok.fresh (Nat.le_refl _)) ?_⟩
    · exact ⟨#[], 0, e0, ⟨rfl, rfl, rfl⟩, rfl, rfl, by simp⟩
    · rintro h1 h2 ⟨es, ep, q1, q2⟩ k
      exact ⟨es, ep, k _ q1, q2⟩
    · exact (dk_empty (P := X.prog) (w := X.w) (H := H) s.heap I.big).2.1)⟩
end
end Ev
end

section
set_option Elab.async false
set_option linter.all false
set_option maxRecDepth 100000
set_option maxHeartbeats 1000000
/-! d[k] = v. -/
namespace Ev
open PySem L2

theorem keyedAll_append {n : Nat} : ∀ {ks : List D} {k : D}, keyedAll (n + 1) ks = true → k.keyed n = true → keyedAll (n + 1) (ks ++ [k]) = true
  | [], k, _, h => by simp [keyedAll, h]
  | d :: ds, k, h, hk => by
    have h' : d.keyed n = true ∧ keyedAll (n + 1) ds = true := by simpa [keyedAll] using h
    have := keyedAll_append h'.2 hk
    simp [keyedAll, h'.1, this]
/-- all else is as it was -/
theorem kept_upd {H : Hp} {a : Addr} {o o' : HO} {f : FP} (h : H a = some o') (w : wr o') (hf : f a = 0) : Kept H (upd H a o) f := fun b u e z => by
  by_cases c : b = a
  · subst c
    rcases z with z | z
    · omega
    · rw [h] at e
      cases e
      exact absurd w z
  · rw [upd_ne c]; exact e
theorem phi_stable {P : Program} {w : World} {a : Addr} {q : DE} : ∀ h1 h2 : Heap, DE.phi P w a q h1 → (∀ o, h1.get? a = some o → h2.get? a = some o) → DE.phi P w a q h2 := by
  intro h1 h2 h k
  cases q with
  | tp o xs =>
    obtain ⟨es, ep, q1, q2⟩ := h
    exact ⟨es, ep, k _ q1, q2⟩
  | lf o xs =>
    obtain ⟨q0, o', es, ep, q1, q2⟩ := h
    exact ⟨k _ q0, o', es, ep, k _ q1, q2⟩
theorem phi_there {P : Program} {w : World} {a : Addr} {q : DE} {h : Heap} (x : DE.phi P w a q h) : ∃ o, h.get? a = some o := by
  cases q with
  | tp o xs => obtain ⟨_, _, e, _⟩ := x; exact ⟨o, e⟩
  | lf o xs => exact ⟨o, x.1⟩
section
variable {P : Program} {w : World} {K : PySem.W.Frag} {H : Hp}
/-- the values of a dict behind a store -/
theorem put_vals {k d : D} {ks ds : List D} {vs : List V} {f fv : FP} {v : V} (l : RepL P w K H vs ds f) (hd : ds.length = ks.length) (rv : Rep P w K H v d fv) :
    ∃ (vs' : List V) (f' old : FP), (match keyAt k ks with | some j => vs' = vs.set j v | none => vs' = vs ++ [v]) ∧ RepL P w K H vs' (dicPut k d ks ds).2 f' ∧ (∀ b, old b ≤ f b) ∧ ∀ b, f' b + old b = f b + fv b := by
  unfold dicPut
  cases e : keyAt k ks with
  | none => exact ⟨_, _, fz, rfl, l.append (.cons rv .nil), fun b => Nat.zero_le _, fun b => by show f b + (fv b + 0) + 0 = f b + fv b; omega⟩
  | some j =>
    have hj : j < ds.length := by rw [hd]; exact keyAt_lt e
    obtain ⟨v0, g, -, -, le, st⟩ := l.set (j := j) (List.getElem?_eq_getElem hj)
    obtain ⟨f', q1, q2⟩ := st v d fv rv
    exact ⟨_, f', g, rfl, q1, le, q2⟩
end
section
variable {X : Cx} {pins : List (Addr × Obj)} {σ : St} {H : Hp} {s : Shared}
def rPutDic (B : Program × World × PySem.W.Frag) : TSet := fun o i v H Q => ∃ a ks ds g k d fk fv, o = .ref a ∧ Rep B.1 B.2.1 B.2.2 H o (.dic ks ds) g ∧ Rep B.1 B.2.1 B.2.2 H i k fk ∧ keyFit k ks = true ∧ k.imm = true ∧ ks.length < big ∧ Rep B.1 B.2.1 B.2.2 H v d fv ∧ g a ≤ 1 ∧ fv a = 0 ∧
  ∀ (o' : HO) (g' old : FP), wr o' → Rep B.1 B.2.1 B.2.2 (upd H a o') (.ref a) (.dic (dicPut k d ks ds).1 (dicPut k d ks ds).2) g' → (∀ b, old b ≤ g b) → (∀ b, g' b + old b = g b + fv b) → Q (upd H a o')
theorem put_dic (hu : X.A.units + 16 < cLine) : PSet X (rPutDic (X.prog, X.w, X.K)) := by
  intro pins s σ H o i v ov iv u Q I ro ri rv h
  obtain ⟨a, ks, ds, g, k, d, fk, fv, rfl, r1, rk, fit, kim, hz, rd, ga, fva, q⟩ := h
  cases ro
  have fk0 : fk = fz := rk.imm kim
  subst fk0
  cases t : k.isTup with
  | true =>
    obtain ⟨a', vs, f, xs, ea, rfl, l, hs, hd, -, ⟨φ, hφ⟩, hm, e1, e2, e3, e4, rvs⟩ := dic_T I r1 fit t
    cases ea
    obtain ⟨b, rfl⟩ := tup_ref rk t
    cases ri
    have fa0 : f a = 0 := by
      have h1 : fa (Ev.fs a) f a = Ev.fs a a + f a := rfl
      rw [h1, fs_self] at ga
      omega
    have hlx : xs.length = ks.length := by have := congrArg List.length e1; simpa using this
    have hzx : xs.length ≤ sizeLine := by rw [hlx, ← big_eq]; omega
    refine thn (wpAny_setItem_heap (hsz := hzx) (knd := nestedKind X.prog X.w) (by show X.A.units + 1 + 8 < cLine; omega) (nest_is I rk (fit_keyed fit)) hm (Q := fun _ s' => ∃ h', h'.DictOfH (nestedKind X.prog X.w) a (storedH xs k.nk b u) ∧ Heap.SameBut a s.heap h' ∧ s' = { s with heap := h', toks := s.toks + (nestedKind X.prog X.w).draws k.nk }) fun h' dd' sb => ⟨h', dd', sb, rfl⟩) fun _ s' ⟨h', dd', sb, es⟩ => ?_
    subst es
    obtain ⟨ob, es, ep, p1, p2, p3, p4, p5, p6⟩ := id dd'
    have nd : ((pairsH xs).map (·.1)).Nodup := by
      rw [pairsH_fst]
      obtain ⟨_, _, _, _, _, _, _, _, z⟩ := hm
      exact z
    have stor := stored_at D.nk k u ks (pairsH xs) (by rw [pairsH_fst]; exact e1) nd (eqv_nk fit e3)
    rw [← pairsH_storedH xs k.nk b u, pairsH_fst, pairsH_snd, pairsH_snd] at stor
    have fnd := find_at D.nk k ks (xs.map (·.2.2)) (pairsH xs) (by rw [pairsH_fst]; exact e1) (pairsH_snd xs) (eqv_nk fit e3)
    rw [valueAt_pairsH] at fnd
    have fs2 := congrArg Option.isSome fnd
    rw [Option.isSome_map, isSome_bind_get (by simpa using hlx)] at fs2
    obtain ⟨vs', f', old, ev, l', le, sum⟩ := put_vals (k := k) l hd rd
    have kp : ∀ {c : FP}, c a = 0 → Kept H (upd H a (.ext (DE.phi X.prog X.w a (.tp ob (storedH xs k.nk b u))))) c := fun hc => kept_upd hφ trivial hc
    have keyRefs : RepL X.prog X.w X.K H ((storedH xs k.nk b u).map fun x => V.ref x.2.1) (dicPut k d ks ds).1 fz := by
      unfold storedH dicPut
      rw [fs2]
      cases e5 : keyAt k ks with
      | none =>
        simp only [Option.isSome_none, Bool.false_eq_true, if_false, List.map_append, List.map_cons, List.map_nil]
        exact (e4.append (.cons rk .nil)).cast fun c => rfl
      | some j =>
        simp only [Option.isSome_some, if_true, List.map_map]
        have : (xs.map ((fun x : NestedKey × Addr × Value => V.ref x.2.1) ∘ putAt k.nk u)) = xs.map fun x => V.ref x.2.1 := by
          refine List.map_congr_left fun x _ => ?_
          simp only [Function.comp_apply, putAt]
          split <;> rfl
        rw [this]
        exact e4
    have newRep : Rep X.prog X.w X.K (upd H a (.ext (DE.phi X.prog X.w a (.tp ob (storedH xs k.nk b u))))) (.ref a) (.dic (dicPut k d ks ds).1 (dicPut k d ks ds).2) (fa (Ev.fs a) f') := by
      have f'a : f' a = 0 := by have := sum a; omega
      refine .dicT (xs := storedH xs k.nk b u) (vs := vs') upd_same hs ?_ ?_ ?_ ?_ (keyRefs.kept (kp rfl)) ?_ (l'.kept (kp f'a))
      · have : (storedH xs k.nk b u).length ≤ xs.length + 1 := by
          unfold storedH
          split <;> simp
        have := big_eq
        omega
      · unfold dicPut
        cases e5 : keyAt k ks with
        | none => rw [e5] at stor; simpa using stor.1
        | some j => rw [e5] at stor; exact stor.1
      · unfold dicPut
        cases e5 : keyAt k ks with
        | none => simp [e2, t]
        | some j => exact e2
      · unfold dicPut
        cases e5 : keyAt k ks with
        | none => exact keyedAll_append e3 (fit_keyed fit)
        | some j => exact e3
      · cases e5 : keyAt k ks with
        | none =>
          rw [e5] at stor ev
          rw [stor.2, ev]
          exact rvs.append (.cons rv .nil)
        | some j =>
          rw [e5] at stor ev
          rw [stor.2, ev]
          exact Vals.set rv j rvs
    refine ⟨_, d_write (ob := .ext (DE.phi X.prog X.w a (.tp ob (storedH xs k.nk b u)))) (t' := s.toks + (nestedKind X.prog X.w).draws k.nk) I (by rw [hφ]; exact True.intro) sb ⟨ob, p1⟩ ⟨⟨es, ep, p1, p2, p3, p4, p6⟩, ⟨ob, p1⟩, phi_stable⟩, q _ (fa (Ev.fs a) f') old trivial newRep (fun c => Nat.le_trans (le c) (Nat.le_add_left _ _)) fun c => ?_⟩
    have := sum c
    show Ev.fs a c + f' c + old c = Ev.fs a c + f c + fv c
    omega
  | false =>
    obtain ⟨a', vs, f, xs, ea, rfl, l, hs, hd, -, ⟨φ, hφ⟩, hm, e1, e2, e3, rvs⟩ := dic_L I r1 fit t
    cases ea
    have fa0 : f a = 0 := by
      have h1 : fa (Ev.fs a) f a = Ev.fs a a + f a := rfl
      rw [h1, fs_self] at ga
      omega
    have hlx : xs.length = ks.length := by have := congrArg List.length e1; simpa using this
    have hzx : xs.length ≤ sizeLine := by rw [hlx, ← big_eq]; omega
    refine thn (wpAny_setItem_pairs (hsz := hzx) (leaf_is rk (fit_keyed fit) t ri) hm (Q := fun _ s' => ∃ h', h'.DictOf (leafKind X.prog X.w) a (stored xs k.leaf u) ∧ Heap.SameBut a s.heap h' ∧ s' = { s with heap := h', toks := s.toks + 1 }) fun h' dd' sb => ⟨h', dd', sb, rfl⟩) fun _ s' ⟨h', dd', sb, es⟩ => ?_
    subst es
    obtain ⟨ob, es, ep, p1, p2⟩ := id dd'
    have nd : (xs.map (·.1)).Nodup := by
      obtain ⟨_, _, _, _, _, _, _, _, z⟩ := hm
      exact z
    have stor := stored_at D.leaf k u ks xs e1 nd (eqv_leaf fit t e3)
    obtain ⟨vs', f', old, ev, l', le, sum⟩ := put_vals (k := k) l hd rd
    have kp : ∀ {c : FP}, c a = 0 → Kept H (upd H a (.ext (DE.phi X.prog X.w a (.lf ob (stored xs k.leaf u))))) c := fun hc => kept_upd hφ trivial hc
    have newRep : Rep X.prog X.w X.K (upd H a (.ext (DE.phi X.prog X.w a (.lf ob (stored xs k.leaf u))))) (.ref a) (.dic (dicPut k d ks ds).1 (dicPut k d ks ds).2) (fa (Ev.fs a) f') := by
      have f'a : f' a = 0 := by have := sum a; omega
      refine .dicL (xs := stored xs k.leaf u) (vs := vs') upd_same hs ?_ ?_ ?_ ?_ ?_ (l'.kept (kp f'a))
      · have : (stored xs k.leaf u).length ≤ xs.length + 1 := by
          unfold stored
          split <;> simp
        have := big_eq
        omega
      · unfold dicPut
        cases e5 : keyAt k ks with
        | none => rw [e5] at stor; simpa using stor.1
        | some j => rw [e5] at stor; exact stor.1
      · unfold dicPut
        cases e5 : keyAt k ks with
        | none => exact keyedAll_append e3 (keyed_leaf (fit_keyed fit) t)
        | some j => exact e3
      · unfold dicPut
        cases e5 : keyAt k ks with
        | none => simp only [List.all_append, e2, List.all_cons, t, List.all_nil]; rfl
        | some j => exact e2
      · cases e5 : keyAt k ks with
        | none =>
          rw [e5] at stor ev
          rw [stor.2, ev]
          exact rvs.append (.cons rv .nil)
        | some j =>
          rw [e5] at stor ev
          rw [stor.2, ev]
          exact Vals.set rv j rvs
    refine ⟨_, d_write (ob := .ext (DE.phi X.prog X.w a (.lf ob (stored xs k.leaf u)))) (t' := s.toks + 1) I (by rw [hφ]; exact True.intro) sb ⟨ob, p1⟩ ⟨⟨p1, dd'⟩, ⟨ob, p1⟩, phi_stable⟩, q _ (fa (Ev.fs a) f') old trivial newRep (fun c => Nat.le_trans (le c) (Nat.le_add_left _ _)) fun c => ?_⟩
    have := sum c
    show Ev.fs a c + f' c + old c = Ev.fs a c + f c + fv c
    omega
end
end Ev
end

section
set_option Elab.async false
set_option linter.all false
set_option maxRecDepth 100000
set_option maxHeartbeats 1000000
/-! Comparisons, subscripts, slices, built-ins by data. -/
namespace Ev
open PySem L2

abbrev BB := Program × World × PySem.W.Frag
def BB.rep (B : BB) (H : Hp) (v : V) (d : D) (f : FP) : Prop := Rep B.1 B.2.1 B.2.2 H v d f
def CmpO.op : CmpO → CmpOp
  | .lt => .Lt
  | .le => .LtE
  | .gt => .Gt
  | .ge => .GtE
  | .eq => .Eq
  | .ne => .NotEq
  | .is_ => .Is
  | .isn => .IsNot
  | .in_ => .In
  | .nin => .NotIn
def CmpO.rd (B : BB) (o : CmpO) : R2 := fun x y H Q => ∃ a b f g k, Rep B.1 B.2.1 B.2.2 H x a f ∧ Rep B.1 B.2.1 B.2.2 H y b g ∧ cmpD o a b = some k ∧ Q (.bl k) H
section
variable {X : Cx}
theorem decV_int {i j : Int} : decide (V.int i = V.int j) = decide (i = j) := by by_cases h : i = j <;> simp [h]
theorem decV_str {i j : Str} : decide (V.str i = V.str j) = decide (i = j) := by by_cases h : i = j <;> simp [h]
theorem decV_bl {i j : Bool} : decide (V.bl i = V.bl j) = (i == j) := by cases i <;> cases j <;> rfl
theorem eq_rule (hu : X.A.units + 64 < cLine) {neg : Bool} {op : CmpOp} (h1 : OpR X (compareOp op) (fun x y H Q => scal x y = true ∧ Q (.bl (if neg then !decide (x = y) else decide (x = y))) H))
    (h2 : OpR X (compareOp op) (fun x y H Q => ∃ d e, Dp X.K H x d ∧ Dp X.K H y e ∧ SeqAt.shaped d = true ∧ SeqAt.shaped e = true ∧ Q (.bl (if neg then !PyData.eqv d e else PyData.eqv d e)) H)) :
    OpR X (compareOp op) (fun x y H Q => ∃ a b f g k, Rep X.prog X.w X.K H x a f ∧ Rep X.prog X.w X.K H y b g ∧ eqD a b = some k ∧ Q (.bl (if neg then !k else k)) H) := by
  intro pins s σ H x y v u Q I rx ry h
  obtain ⟨a, b, f, g, k, r1, r2, e, q⟩ := h
  unfold eqD at e
  split at e
  · cases e
    cases r1; cases r2
    exact h1 pins s σ H _ _ v u Q I rx ry ⟨rfl, by rw [decV_int]; exact q⟩
  · cases e
    cases r1; cases r2
    exact h1 pins s σ H _ _ v u Q I rx ry ⟨rfl, by rw [decV_str]; exact q⟩
  · cases e
    cases r1; cases r2
    exact h1 pins s σ H _ _ v u Q I rx ry ⟨rfl, by rw [decV_bl]; exact q⟩
  · split at e
    · rename_i c
      cases e
      obtain ⟨c1, c2⟩ := Bool.and_eq_true_iff.mp c
      exact h2 pins s σ H x y v u Q I rx ry ⟨a.py, b.py, r1.dp c1, r2.dp c2, fine_shaped c1, fine_shaped c2, by rw [eqv_py a b 60 60 c1 c2]; exact q⟩
    · cases e
theorem in_tupD (hu : X.A.units + 65 < cLine) : OpR X (compareOp .In) (fun x y H Q => ∃ d ds, Dp X.K H x d ∧ Dp X.K H y (.tuple ds) ∧ SeqAt.shaped d = true ∧ SeqAt.shaped (.tuple ds) = true ∧ Q (.bl (ds.any fun z => PyData.eqv z d)) H) := by
  intro pins s σ H x y v u Q I rx ry h
  obtain ⟨d, ds, hd, he, sd, se, q⟩ := h
  obtain ⟨as, r1⟩ := Dp.reads I d x v hd rx
  obtain ⟨bs, r2⟩ := Dp.reads I (.tuple ds) y u he ry
  exact SeqAt.in_tuple_reads r2 r1 (SeqAt.canLay_of_shaped se) (SeqAt.canLay_of_shaped sd) (PyProof.Rows.room_in_shaped sd hu) ⟨.bl _, H, I, rfl, q⟩
theorem notin_tupD (hu : X.A.units + 65 < cLine) : OpR X (compareOp .NotIn) (fun x y H Q => ∃ d ds, Dp X.K H x d ∧ Dp X.K H y (.tuple ds) ∧ SeqAt.shaped d = true ∧ SeqAt.shaped (.tuple ds) = true ∧ Q (.bl (!ds.any fun z => PyData.eqv z d)) H) := by
  intro pins s σ H x y v u Q I rx ry h
  obtain ⟨d, ds, hd, he, sd, se, q⟩ := h
  obtain ⟨as, r1⟩ := Dp.reads I d x v hd rx
  obtain ⟨bs, r2⟩ := Dp.reads I (.tuple ds) y u he ry
  exact SeqAt.notIn_tuple_reads r2 r1 (SeqAt.canLay_of_shaped se) (SeqAt.canLay_of_shaped sd) (PyProof.Rows.room_in_shaped sd hu) ⟨.bl _, H, I, rfl, q⟩
theorem fineAll_shaped {ds : List D} (h : fineAll 60 ds = true) : SeqAt.shaped (.list (pyAll ds)) = true ∧ SeqAt.shaped (.tuple (pyAll ds)) = true := by
  obtain ⟨h1, h2⟩ := fineAll_lay ds 60 h
  constructor
  · unfold SeqAt.shaped
    simp only [PyData.canLay0, h1, PyData.depth, Bool.true_and]
    exact decide_eq_true (by omega)
  · unfold SeqAt.shaped
    simp only [PyData.canLay0, h1, PyData.depth, Bool.true_and]
    exact decide_eq_true (by omega)
theorem in_rule (hu : X.A.units + 70 < cLine) : OpR X (compareOp .In) (fun x y H Q => ∃ a b f g k, Rep X.prog X.w X.K H x a f ∧ Rep X.prog X.w X.K H y b g ∧ inD a b = some k ∧ Q (.bl k) H) := by
  intro pins s σ H x y v u Q I rx ry h
  obtain ⟨a, b, f, g, k, r1, r2, e, q⟩ := h
  unfold inD at e
  split at e
  · rename_i ds
    split at e
    · rename_i c
      cases e
      obtain ⟨c1, c2⟩ := Bool.and_eq_true_iff.mp c
      exact in_tupD (by omega) pins s σ H x y v u Q I rx ry ⟨a.py, pyAll ds, r1.dp c1, r2.dp (n := 60) (by simpa [D.fine] using c2), fine_shaped c1, (fineAll_shaped c2).2, by rw [any_py a 60 60 c1 ds c2]; exact q⟩
    · cases e
  · rename_i ds
    split at e
    · rename_i c
      cases e
      obtain ⟨c1, c2⟩ := Bool.and_eq_true_iff.mp c
      exact op_inD (by omega) pins s σ H x y v u Q I rx ry ⟨a.py, pyAll ds, r1.dp c1, r2.dp (n := 60) (by simpa [D.fine] using c2), fine_shaped c1, (fineAll_shaped c2).1, by rw [any_py a 60 60 c1 ds c2]; exact q⟩
    · cases e
  · split at e
    · rename_i c
      cases e
      exact in_dic (by omega) pins s σ H x y v u Q I rx ry ⟨a, _, _, f, g, r1, r2, c, q⟩
    · cases e
  · cases e
theorem notin_rule (hu : X.A.units + 70 < cLine) : OpR X (compareOp .NotIn) (fun x y H Q => ∃ a b f g k, Rep X.prog X.w X.K H x a f ∧ Rep X.prog X.w X.K H y b g ∧ inD a b = some k ∧ Q (.bl (!k)) H) := by
  intro pins s σ H x y v u Q I rx ry h
  obtain ⟨a, b, f, g, k, r1, r2, e, q⟩ := h
  unfold inD at e
  split at e
  · rename_i ds
    split at e
    · rename_i c
      cases e
      obtain ⟨c1, c2⟩ := Bool.and_eq_true_iff.mp c
      exact notin_tupD (by omega) pins s σ H x y v u Q I rx ry ⟨a.py, pyAll ds, r1.dp c1, r2.dp (n := 60) (by simpa [D.fine] using c2), fine_shaped c1, (fineAll_shaped c2).2, by rw [any_py a 60 60 c1 ds c2]; exact q⟩
    · cases e
  · rename_i ds
    split at e
    · rename_i c
      cases e
      obtain ⟨c1, c2⟩ := Bool.and_eq_true_iff.mp c
      exact op_notInD (by omega) pins s σ H x y v u Q I rx ry ⟨a.py, pyAll ds, r1.dp c1, r2.dp (n := 60) (by simpa [D.fine] using c2), fine_shaped c1, (fineAll_shaped c2).1, by rw [any_py a 60 60 c1 ds c2]; exact q⟩
    · cases e
  · split at e
    · rename_i c
      cases e
      exact notin_dic (by omega) pins s σ H x y v u Q I rx ry ⟨a, _, _, f, g, r1, r2, c, q⟩
    · cases e
  · cases e
theorem rep_non {P w K} {H : Hp} {x : V} {d : D} {f : FP} {b : Bool} (r : Rep P w K H x d f) (h : isNonD d = some b) : decide (x = .non) = b := by
  cases r <;> cases h <;> first
    | rfl
    | exact decide_eq_false (fun z => nomatch z)
theorem cmp_rule (hu : X.A.units + 70 < cLine) (o : CmpO) : OpR X (compareOp o.op) (o.rd (X.prog, X.w, X.K)) := by
  intro pins s σ H x y v u Q I rx ry h
  obtain ⟨a, b, f, g, k, r1, r2, e, q⟩ := h
  unfold cmpD at e
  split at e
  · cases e; cases r1; cases r2
    exact op_lt pins s σ H _ _ v u Q I rx ry ⟨_, _, rfl, rfl, q⟩
  · cases e; cases r1; cases r2
    exact op_le pins s σ H _ _ v u Q I rx ry ⟨_, _, rfl, rfl, q⟩
  · cases e; cases r1; cases r2
    exact op_gt pins s σ H _ _ v u Q I rx ry ⟨_, _, rfl, rfl, q⟩
  · cases e; cases r1; cases r2
    exact op_ge pins s σ H _ _ v u Q I rx ry ⟨_, _, rfl, rfl, q⟩
  · exact eq_rule (neg := false) (by omega) op_eq (op_eqD (by omega)) pins s σ H x y v u Q I rx ry ⟨a, b, f, g, k, r1, r2, e, q⟩
  · obtain ⟨k', e1, e2⟩ := Option.map_eq_some_iff.mp e
    subst e2
    exact eq_rule (neg := true) (by omega) op_ne (op_neD (by omega)) pins s σ H x y v u Q I rx ry ⟨a, b, f, g, k', r1, r2, e1, q⟩
  · cases r2
    exact op_isN pins s σ H _ _ v u Q I rx ry ⟨rfl, by rw [rep_non r1 e]; exact q⟩
  · cases r2
    obtain ⟨k', e1, e2⟩ := Option.map_eq_some_iff.mp e
    subst e2
    exact op_notN pins s σ H _ _ v u Q I rx ry ⟨rfl, by rw [rep_non r1 e1]; exact q⟩
  · cases e; cases r1; cases r2
    exact op_isBl pins s σ H _ _ v u Q I rx ry ⟨_, _, rfl, rfl, by rw [← Bool.beq_eq_decide_eq]; exact q⟩
  · cases e; cases r1; cases r2
    exact op_notBl pins s σ H _ _ v u Q I rx ry ⟨_, _, rfl, rfl, by rw [← Bool.beq_eq_decide_eq]; exact q⟩
  · exact in_rule hu pins s σ H x y v u Q I rx ry ⟨a, b, f, g, k, r1, r2, e, q⟩
  · obtain ⟨k', e1, e2⟩ := Option.map_eq_some_iff.mp e
    subst e2
    exact notin_rule hu pins s σ H x y v u Q I rx ry ⟨a, b, f, g, k', r1, r2, e1, q⟩
  · cases e
end
end Ev
end

section
set_option Elab.async false
set_option linter.all false
set_option maxRecDepth 100000
set_option maxHeartbeats 1000000
/-! Subscripts, slices, built-ins, methods by data. -/
namespace Ev
open PySem L2

section
variable {P : Program} {w : World} {K : PySem.W.Frag} {H : Hp}
theorem atI_some {α : Type} {xs : List α} {i : Int} {d : α} (h : atI xs i = some d) : ∃ j, ixN xs.length i = some j ∧ xs[j]? = some d := by
  unfold atI at h
  obtain ⟨j, e1, e2⟩ := Option.bind_eq_some_iff.mp h
  exact ⟨j, e1, e2⟩
theorem RepL.atI {ds : List D} {vs : List V} {f : FP} {i : Int} {d : D} (l : RepL P w K H vs ds f) (h : L2.atI ds i = some d) : ∃ v g, L2.atI vs i = some v ∧ Rep P w K H v d g ∧ ∀ a, g a ≤ f a := by
  obtain ⟨j, e1, e2⟩ := atI_some h
  obtain ⟨v, g, e3, r, le⟩ := l.get e2
  exact ⟨v, g, by unfold L2.atI; rw [l.length, e1]; exact e3, r, le⟩
theorem ints_rep : ∀ {ds : List D} {ns : List Int} {vs : List V} {f : FP}, RepL P w K H vs ds f → intsOf ds = some ns → vs = ns.map V.int
  | [], ns, _, _, .nil, e => by cases e; rfl
  | d :: ds, ns, v :: vs, _, .cons h1 h2, e => by
    cases d <;> simp only [intsOf] at e <;> try cases e
    obtain ⟨ms, e1, rfl⟩ := Option.map_eq_some_iff.mp e
    cases h1
    rw [ints_rep h2 e1]
    rfl
theorem bls_rep : ∀ {ds : List D} {ns : List Bool} {vs : List V} {f : FP}, RepL P w K H vs ds f → blsOf ds = some ns → vs = ns.map V.bl
  | [], ns, _, _, .nil, e => by cases e; rfl
  | d :: ds, ns, v :: vs, _, .cons h1 h2, e => by
    cases d <;> simp only [blsOf] at e <;> try cases e
    obtain ⟨ms, e1, rfl⟩ := Option.map_eq_some_iff.mp e
    cases h1
    rw [bls_rep h2 e1]
    rfl
theorem strs_rep : ∀ {ds : List D} {ns : List Str} {vs : List V} {f : FP}, RepL P w K H vs ds f → strsOf ds = some ns → vs = ns.map V.str
  | [], ns, _, _, .nil, e => by cases e; rfl
  | d :: ds, ns, v :: vs, _, .cons h1 h2, e => by
    cases d <;> simp only [strsOf] at e <;> try cases e
    obtain ⟨ms, e1, rfl⟩ := Option.map_eq_some_iff.mp e
    cases h1
    rw [strs_rep h2 e1]
    rfl
theorem strs_repL : ∀ (ys : List Str), RepL P w K H (ys.map V.str) (ys.map D.str) fz
  | [] => .nil
  | y :: ys => (RepL.cons (.str y) (strs_repL ys)).cast fun _ => rfl
end
theorem maxI_ge : ∀ (ns : List Int) (m : Int), m ≤ maxI m ns ∧ (∀ y ∈ ns, y ≤ maxI m ns) ∧ (maxI m ns = m ∨ maxI m ns ∈ ns)
  | [], m => ⟨Int.le_refl _, fun y h => (by cases h), .inl rfl⟩
  | x :: xs, m => by
    obtain ⟨h1, h2, h3⟩ := maxI_ge xs (if m < x then x else m)
    refine ⟨?_, fun y hy => ?_, ?_⟩
    · show m ≤ maxI (if m < x then x else m) xs
      by_cases c : m < x
      · rw [if_pos c] at h1 ⊢; omega
      · rw [if_neg c] at h1 ⊢; exact h1
    · show y ≤ maxI (if m < x then x else m) xs
      rcases List.mem_cons.mp hy with rfl | hy
      · by_cases c : m < y
        · rw [if_pos c] at h1 ⊢; exact h1
        · rw [if_neg c] at h1 ⊢; omega
      · exact h2 y hy
    · show maxI (if m < x then x else m) xs = m ∨ maxI (if m < x then x else m) xs ∈ x :: xs
      by_cases c : m < x
      · rw [if_pos c] at h3 ⊢
        rcases h3 with e | e
        · exact .inr (by rw [e]; simp)
        · exact .inr (by simp [e])
      · rw [if_neg c] at h3 ⊢
        rcases h3 with e | e
        · exact .inl e
        · exact .inr (by simp [e])

section
variable {X : Cx}
/-! ### subscripts -/
def rIdx (B : BB) : R2 := fun x y H Q => ∃ t v k f g r, Rep B.1 B.2.1 B.2.2 H x v f ∧ Rep B.1 B.2.1 B.2.2 H y k g ∧ idxD ⟨t, v⟩ k = some r ∧ ∀ z h, Rep B.1 B.2.1 B.2.2 H z r.d h → (∀ a, h a ≤ f a) → Q z H
theorem idx_rule (hu : X.A.units + 16 < cLine) : IxR X (rIdx (X.prog, X.w, X.K)) := by
  intro value slice pins s σ H x y v u Q I rx ry h hsub
  obtain ⟨t, v0, k, f, g, r, r1, r2, e, q⟩ := h
  unfold idxD at e
  split at e
  · obtain ⟨d, e1, rfl⟩ := Option.map_eq_some_iff.mp e
    rename_i e0
    cases e0
    obtain ⟨a, vs, rfl, s1, l1⟩ := tup_inv r1
    cases r2
    obtain ⟨z, g, z1, z2, z3⟩ := l1.atI e1
    exact ix_tup value slice pins s σ H _ _ v u Q I rx ry ⟨a, vs, _, z, rfl, rfl, s1, z1, q z g z2 z3⟩ hsub
  · obtain ⟨d, e1, rfl⟩ := Option.map_eq_some_iff.mp e
    rename_i e0
    cases e0
    obtain ⟨a, vs, f1, rfl, s1, l1, rfl⟩ := lst_inv r1
    cases r2
    obtain ⟨z, g, z1, z2, z3⟩ := l1.atI e1
    exact ix_list value slice pins s σ H _ _ v u Q I rx ry ⟨a, vs, _, z, rfl, rfl, .inl (.inl s1), z1, q z g z2 fun b => Nat.le_trans (z3 b) (Nat.le_add_left _ _)⟩ hsub
  · obtain ⟨n, e1, rfl⟩ := Option.map_eq_some_iff.mp e
    rename_i e0
    cases e0
    cases r1
    rename_i s1
    cases r2
    obtain ⟨j, z1, z2⟩ := atI_some e1
    exact ix_list value slice pins s σ H _ _ v u Q I rx ry ⟨_, _, _, .int n, rfl, rfl, SqF.sq s1, by unfold L2.atI; rw [List.length_map, z1]; simp [z2], q _ fz (.int n) fun b => Nat.zero_le _⟩ hsub
  · split at e
    · rename_i c
      obtain ⟨j, e1, e2⟩ := Option.bind_eq_some_iff.mp e
      obtain ⟨d, e3, rfl⟩ := Option.map_eq_some_iff.mp e2
      rename_i e0
      cases e0
      exact ix_dic hu value slice pins s σ H x y v u Q I rx ry ⟨_, _, _, f, g, j, d, r1, r2, c, e1, e3, q⟩ hsub
    · cases e
  · cases e
/-! ### slices -/
def rSlc (B : Bs) : V → Option Int → Option Int → Hp → VK → Prop := fun x lo hi H2 Q => ∃ σ H ρ fs ρ' fs' v f r, StR B σ H2 ρ' fs' ∧ (∀ a, H a ≠ none → H2 a ≠ none) ∧ Rep B.P B.w B.K H2 x v.d f ∧ TagOk H ρ fs ρ' fs' v.t f ∧ (∀ a, 0 < f a → B.H0 a = none ∨ B.A0 a) ∧
  slcO v lo hi = some r ∧ Res B H ρ fs ρ' fs' r H2 Q
theorem slc_rule {B : Bs} (eP : X.prog = B.P) (ew : X.w = B.w) (eK : X.K = B.K) : SlR X (rSlc B) := by
  intro pins s σ H x v vl vu lo hi sl Q I rx hs pl pu h
  obtain ⟨σ0, H0, ρ, fs, ρ', fs', v0, f, r, st, lv, r1, tg, pv, e, q⟩ := h
  unfold slcO at e
  split at e
  · cases e
    obtain ⟨a, vs, rfl, s1, l1⟩ := tup_inv r1
    rw [← eK] at s1
    obtain ⟨g, l2, le⟩ := l1.cut lo hi
    refine sl_tupA pins s σ H _ v vl vu lo hi sl Q I rx hs pl pu ⟨a, vs, rfl, s1, fun c => ?_, fun _ p hp => Res.tup q l2 (tg.le le) (fun b z => pv b (Nat.lt_of_lt_of_le z (le b))) p hp⟩
    have hw : cutV vs lo hi = vs := by
      unfold cutV
      rw [c.1, c.2]
      simp
    rw [hw] at l2
    exact q _ _ _ (Same.refl _) (.tup (by rw [← eK]; exact s1) l2) (tg.le le) (fun b z => pv b (Nat.lt_of_lt_of_le z (le b)))
  · cases e
    obtain ⟨a, vs, f1, rfl, s1, l1, rfl⟩ := lst_inv r1
    obtain ⟨g, l2, le⟩ := l1.cut lo hi
    have le' : ∀ b, g b ≤ fa (Ev.fs a) f1 b := fun b => Nat.le_trans (le b) (Nat.le_add_left _ _)
    exact sl_list pins s σ H _ v vl vu lo hi sl Q I rx hs pl pu ⟨a, vs, rfl, .inl (.inl s1), fun p hp => Res.listI st lv q l2 (tg.le le') (fun b z => pv b (Nat.lt_of_lt_of_le z (le' b))) p hp⟩
  · split at e
    · rename_i c
      cases e
      cases r1
      exact sl_str pins s σ H _ v vl vu lo hi sl Q I rx hs pl pu ⟨_, rfl, by rw [← big_eq]; exact c, q.imm (.str _)⟩
    · cases e
  · cases e
/-! ### built-ins -/
def BI.val : BI → Value
  | .len => .builtin "len"
  | .isi _ => .builtin "isinstance"
  | .max2 => .builtin "max"
  | .min2 => .builtin "min"
  | .maxl => .builtin "max"
  | .abs => .builtin "abs"
  | .sum => .builtin "sum"
  | .all => .builtin "all"
  | .tuple => .type "tuple"
  | .list => .type "list"
  | .int => .type "int"
  | .bool => .type "bool"
  | .str => .type "str"
  | .dict => .type "dict"
def Ty.nm : Ty → String
  | .int => "int"
  | .bool => "bool"
  | .tuple => "tuple"
  | .str => "str"
  | .list => "list"
/-- the arguments as they come: isinstance has its class behind the value -/
def BI.args (b : BI) (xs : List V) : List V := match b with
  | .isi T => xs ++ [.ty T.nm]
  | _ => xs
theorem rep_ty {K : PySem.W.Frag} {P w} {H : Hp} {x : V} {d : D} {f : FP} {T : Ty} (r : Rep P w K H x d f) (h : d.known = true) : ∃ t, TyX K H x (.type t) ∧ PySem.W.kitOne K (.type t) (.type T.nm) = some (d.isT T) := by
  cases r with
  | non => exact ⟨_, .base .non, by cases T <;> first | exact kit_ty (r := true) (by decide +kernel) | exact kit_ty (r := false) (by decide +kernel)⟩
  | bl b => exact ⟨_, .base (.bl b), by cases T <;> first | exact kit_ty (r := true) (by decide +kernel) | exact kit_ty (r := false) (by decide +kernel)⟩
  | int i => exact ⟨_, .base (.int i), by cases T <;> first | exact kit_ty (r := true) (by decide +kernel) | exact kit_ty (r := false) (by decide +kernel)⟩
  | str x => exact ⟨_, .base (.str x), by cases T <;> first | exact kit_ty (r := true) (by decide +kernel) | exact kit_ty (r := false) (by decide +kernel)⟩
  | tup h1 h2 =>
    refine ⟨"tuple", ?_, by cases T <;> first | exact kit_ty (r := true) (by decide +kernel) | exact kit_ty (r := false) (by decide +kernel)⟩
    rcases h1 with (h1 | ⟨o, h1⟩) | ⟨o, its, n, k, c, _⟩
    · exact .base (.tup h1)
    · exact .fTuple h1
    · exact .kTuple k c
  | lst h1 h2 => exact ⟨"list", .base (.lst h1), by cases T <;> first | exact kit_ty (r := true) (by decide +kernel) | exact kit_ty (r := false) (by decide +kernel)⟩
  | dicT => cases h
  | dicL => cases h
  | ins => cases h
  | scr => cases h
  | opq => cases h

theorem rt1 {B : Bs} {H0 H : Hp} {ρ0 ρ : En} {fs0 fs : List FP} {xs : List V} {v : RV} {gs : List FP} (r : RepT B H0 ρ0 fs0 H ρ fs xs [v] gs) : ∃ x f, xs = [x] ∧ Rep B.P B.w B.K H x v.d f ∧ TagOk H0 ρ0 fs0 ρ fs v.t f ∧ ∀ a, 0 < f a → B.H0 a = none ∨ B.A0 a := by
  cases r with
  | cons h1 h2 h3 h4 => cases h4; exact ⟨_, _, rfl, h1, h2, h3⟩
theorem rt2 {B : Bs} {H0 H : Hp} {ρ0 ρ : En} {fs0 fs : List FP} {xs : List V} {v v' : RV} {gs : List FP} (r : RepT B H0 ρ0 fs0 H ρ fs xs [v, v'] gs) : ∃ x y f g, xs = [x, y] ∧ Rep B.P B.w B.K H x v.d f ∧ Rep B.P B.w B.K H y v'.d g := by
  cases r with
  | cons h1 h2 h3 h4 =>
    cases h4 with
    | cons k1 k2 k3 k4 => cases k4; exact ⟨_, _, _, _, rfl, h1, k1⟩
theorem Res.of_nrm {B : Bs} {H : Hp} {ρ : En} {fs : List FP} {ρ' : En} {fs' : List FP} {v : RV} {H2 : Hp} {Q : VK} (q : Res B H ρ fs ρ' fs' v.nrm H2 Q) : Res B H ρ fs ρ' fs' v H2 Q := fun z H3 k s r t p => by
  refine q z H3 k s ?_ ?_ p
  · unfold RV.nrm
    split <;> exact r
  · unfold RV.nrm
    split
    · rename_i c
      exact r.imm c
    · exact t
def rBi (B : Bs) (b : BI) : List V → Hp → VK → Prop := fun ys H2 Q => ∃ σ H ρ fs ρ' fs' xs vs gs r, StR B σ H2 ρ' fs' ∧ (∀ a, H a ≠ none → H2 a ≠ none) ∧ RepT B H ρ fs H2 ρ' fs' xs vs gs ∧ ys = b.args xs ∧ biD b vs = some r ∧ Res B H ρ fs ρ' fs' r H2 Q
theorem bi_rule {B : Bs} (eP : X.prog = B.P) (ew : X.w = B.w) (eK : X.K = B.K) (hc : X.calm = true) (b : BI) : CallR X b.val (rBi B b) := by
  intro pins s σ H ys us Q I r h
  obtain ⟨σ0, H0, ρ, fs, ρ', fs', xs, vs, gs, rr, st, lv, rt, ey, e, q⟩ := h
  subst ey
  unfold biD at e
  split at e
  · -- len tup
    cases e
    obtain ⟨x, f, rfl, r1, -, -⟩ := rt1 rt
    obtain ⟨a, ws, rfl, s1, l1⟩ := tup_inv r1
    rw [← eK] at s1
    exact call_len_seq pins s σ H _ us Q I r ⟨a, ws, rfl, .inr s1, by rw [l1.length]; exact q.imm (.int _)⟩
  · cases e
    obtain ⟨x, f, rfl, r1, -, -⟩ := rt1 rt
    obtain ⟨a, ws, f1, rfl, s1, l1, rfl⟩ := lst_inv r1
    exact call_len_seq pins s σ H _ us Q I r ⟨a, ws, rfl, .inl (.inl (.inl s1)), by rw [l1.length]; exact q.imm (.int _)⟩
  · cases e
    obtain ⟨x, f, rfl, r1, -, -⟩ := rt1 rt
    cases r1
    rename_i s1
    rw [← eK] at s1
    exact call_len_seq pins s σ H _ us Q I r ⟨_, _, rfl, .inl (SqF.sq s1), by rw [List.length_map]; exact q.imm (.int _)⟩
  · split at e
    · rename_i c
      cases e
      obtain ⟨x, f, rfl, r1, -, -⟩ := rt1 rt
      cases r1
      exact call_len_str pins s σ H _ us Q I r ⟨_, rfl, by rw [← big_eq]; exact c, q.imm (.int _)⟩
    · cases e
  · cases e
    obtain ⟨x, f, rfl, r1, -, -⟩ := rt1 rt
    have r1' := r1
    rw [← eP, ← ew, ← eK] at r1'
    exact len_dic pins s σ H _ us Q I r ⟨_, _, _, _, rfl, r1', q.imm (.int _)⟩
  · split at e
    · rename_i c
      cases e
      obtain ⟨x, f, rfl, r1, -, -⟩ := rt1 rt
      rename_i T t d
      obtain ⟨ty, t1, t2⟩ := rep_ty (K := X.K) (T := T) (P := B.P) (w := B.w) (by rw [eK]; exact r1) c
      exact call_isi pins s σ H _ us Q I r ⟨x, .ty T.nm, _, _, _, rfl, .ty _, t1, t2, q.imm (.bl _)⟩
    · cases e
  · cases e
    obtain ⟨x, y, f, g, rfl, r1, r2⟩ := rt2 rt
    cases r1; cases r2
    exact call_max2 hc pins s σ H _ us Q I r ⟨_, _, rfl, q.imm (.int _)⟩
  · cases e
    obtain ⟨x, y, f, g, rfl, r1, r2⟩ := rt2 rt
    cases r1; cases r2
    exact call_min2 hc pins s σ H _ us Q I r ⟨_, _, rfl, q.imm (.int _)⟩
  · -- max of a list
    split at e
    · rename_i n ns c
      cases e
      obtain ⟨x, f, rfl, r1, -, -⟩ := rt1 rt
      obtain ⟨a, ws, f1, rfl, s1, l1, rfl⟩ := lst_inv r1
      have ew' := ints_rep l1 c
      subst ew'
      refine cr_max hc pins s σ H _ us Q I r ⟨a, n :: ns, rfl, .inl (.inl s1), Nat.zero_lt_succ _, fun m hm hle => ?_⟩
      obtain ⟨m1, m2, m3⟩ := maxI_ge ns n
      have em : m = maxI n ns := by
        have a1 : m ≤ maxI n ns := by
          rcases List.mem_cons.mp hm with rfl | hm
          · exact m1
          · exact m2 m hm
        have a2 : maxI n ns ≤ m := hle _ (by rcases m3 with e | e <;> simp [e])
        omega
      rw [em]
      exact q.imm (.int _)
    · cases e
  · cases e
    obtain ⟨x, f, rfl, r1, -, -⟩ := rt1 rt
    cases r1
    exact call_abs pins s σ H _ us Q I r ⟨_, rfl, q.imm (.int _)⟩
  · obtain ⟨ns, c, rfl⟩ := Option.map_eq_some_iff.mp e
    obtain ⟨x, f, rfl, r1, -, -⟩ := rt1 rt
    obtain ⟨a, ws, f1, rfl, s1, l1, rfl⟩ := lst_inv r1
    have ew' := ints_rep l1 c
    subst ew'
    exact cr_sum hc pins s σ H _ us Q I r ⟨a, ns, rfl, .inl (.inl s1), q.imm (.int _)⟩
  · obtain ⟨ns, c, rfl⟩ := Option.map_eq_some_iff.mp e
    obtain ⟨x, f, rfl, r1, -, -⟩ := rt1 rt
    obtain ⟨a, ws, f1, rfl, s1, l1, rfl⟩ := lst_inv r1
    have ew' := bls_rep l1 c
    subst ew'
    exact cr_all hc pins s σ H _ us Q I r ⟨a, ns, rfl, .inl (.inl s1), q.imm (.bl _)⟩
  · -- tuple of a list
    cases e
    obtain ⟨x, f, rfl, r1, tg, pv⟩ := rt1 rt
    obtain ⟨a, ws, f1, rfl, s1, l1, rfl⟩ := lst_inv r1
    exact call_tuple_of pins s σ H _ us Q I r ⟨a, ws, rfl, .inl ⟨.inl (.inl s1), fun p hp => Res.tup (Res.of_nrm q) l1 (tg.le Rep.tag_in) (fun b z => pv b (fa_right z)) p hp⟩⟩
  · cases e
    obtain ⟨x, f, rfl, r1, tg, pv⟩ := rt1 rt
    obtain ⟨a, ws, rfl, s1, l1⟩ := tup_inv r1
    have s1' := s1
    rw [← eK] at s1'
    exact call_tuple_of pins s σ H _ us Q I r ⟨a, ws, rfl, .inr ⟨s1', (Res.of_nrm q) _ _ _ (Same.refl _) (.tup s1 l1) tg pv⟩⟩
  · cases e
    obtain ⟨x, f, rfl, r1, tg, pv⟩ := rt1 rt
    obtain ⟨a, ws, f1, rfl, s1, l1, rfl⟩ := lst_inv r1
    exact call_list_of pins s σ H _ us Q I r ⟨a, ws, rfl, .inl (.inl (.inl s1)), fun p hp => Res.list st lv q l1 (tg.le Rep.tag_in) (fun b z => pv b (fa_right z)) p hp⟩
  · cases e
    obtain ⟨x, f, rfl, r1, tg, pv⟩ := rt1 rt
    obtain ⟨a, ws, rfl, s1, l1⟩ := tup_inv r1
    rw [← eK] at s1
    exact call_list_of pins s σ H _ us Q I r ⟨a, ws, rfl, .inr s1, fun p hp => Res.list st lv q l1 tg pv p hp⟩
  · cases e
    obtain ⟨x, f, rfl, r1, -, -⟩ := rt1 rt
    cases r1
    exact call_int1 pins s σ H _ us Q I r (.inl ⟨_, rfl, q.imm (.int _)⟩)
  · cases e
    obtain ⟨x, f, rfl, r1, -, -⟩ := rt1 rt
    cases r1
    exact call_int1 pins s σ H _ us Q I r (.inr ⟨_, rfl, q.imm (.int _)⟩)
  · cases e
    obtain ⟨x, f, rfl, r1, -, -⟩ := rt1 rt
    cases r1
    exact call_bool1 pins s σ H _ us Q I r (.inl ⟨_, rfl, q.imm (.bl _)⟩)
  · cases e
    obtain ⟨x, f, rfl, r1, -, -⟩ := rt1 rt
    cases r1
    exact call_bool1 pins s σ H _ us Q I r (.inr ⟨_, rfl, q.imm (.bl _)⟩)
  · split at e
    · rename_i c
      cases e
      obtain ⟨x, f, rfl, r1, -, -⟩ := rt1 rt
      cases r1
      exact call_str_int pins s σ H _ us Q I r ⟨_, rfl, c, q.imm (.str _)⟩
    · cases e
  · cases e
/-! ### methods -/
def rMt (B : Bs) (m : Mt) : V → List V → Hp → VK → Prop := fun x xs H2 Q => ∃ σ H ρ fs ρ' fs' v f vs gs r, StR B σ H2 ρ' fs' ∧ (∀ a, H a ≠ none → H2 a ≠ none) ∧ Rep B.P B.w B.K H2 x v.d f ∧ RepT B H ρ fs H2 ρ' fs' xs vs gs ∧ mtD m v vs = some r ∧ Res B H ρ fs ρ' fs' r H2 Q
def Mt.nm : Mt → Str
  | .join => "join"
  | .split => "split"
  | .count => "count"
  | .index => "index"
  | .replace => "replace"
theorem join_rule {B : Bs} : MtR X "str.join" (rMt B .join) := by
  intro pins s σ H x xs v us Q I rx rs h
  obtain ⟨σ0, H0, ρ, fs, ρ', fs', v0, f, vs, gs, r, st, lv, r1, rt, e, q⟩ := h
  unfold mtD at e
  split at e
  · obtain ⟨ys, c, e1⟩ := Option.bind_eq_some_iff.mp e
    split at e1
    · rename_i c2
      cases e1
      obtain ⟨y, g, rfl, r2, -, -⟩ := rt1 rt
      obtain ⟨a, ws, f1, rfl, s1, l1, rfl⟩ := lst_inv r2
      have ew' := strs_rep l1 c
      subst ew'
      cases r1
      exact mt_join pins s σ H _ _ v us Q I rx rs ⟨_, a, ys, rfl, rfl, .inl (.inl (.inl s1)), c2, q.imm (.str _)⟩
    · cases e1
  · exact absurd (by assumption : Mt.join = Mt.split) (by decide)
  · exact absurd (by assumption : Mt.join = Mt.replace) (by decide)
  · cases e
theorem split_rule {B : Bs} : MtR X "str.split" (rMt B .split) := by
  intro pins s σ H x xs v us Q I rx rs h
  obtain ⟨σ0, H0, ρ, fs, ρ', fs', v0, f, vs, gs, r, st, lv, r1, rt, e, q⟩ := h
  unfold mtD at e
  split at e
  · exact absurd (by assumption : Mt.split = Mt.join) (by decide)
  · split at e
    · rename_i c
      cases e
      obtain ⟨y, g, rfl, r2, -, -⟩ := rt1 rt
      cases r1; cases r2
      exact mt_split pins s σ H _ _ v us Q I rx rs ⟨_, _, rfl, rfl, beq_eq_false_iff_ne.mpr c.1, by rw [← big_eq]; exact c.2, fun p hp => Res.list (t := .im) st lv q (strs_repL _) rfl (fun b z => absurd z (Nat.lt_irrefl _)) p hp⟩
    · cases e
  · exact absurd (by assumption : Mt.split = Mt.replace) (by decide)
  · cases e
end
end Ev
end

section
set_option Elab.async false
set_option linter.all false
set_option maxRecDepth 100000
set_option maxHeartbeats 1000000
/-! The small syntax against the text's own. -/
namespace Ev
open PySem L2

structure Info where
  N : List Str
  fns : List Str
  gls : List Str
  xcs : List Str
def seen (sc : Scope) (x : Str) : Bool := match sc.names.lookup x with
  | some .local => true
  | some .cell => true
  | some .free => true
  | _ => false
def stor (sc : Scope) (x : Str) : Bool := match sc.names.lookup x with
  | some .local => true
  | some .cell => true
  | _ => false
def glob (sc : Scope) (x : Str) : Bool := (match sc.names.lookup x with
  | some .globalImplicit => true
  | _ => false) && !(x == ("__debug__" : Str))
def slotB (I : Info) (sc : Scope) (i : Nat) (x : Str) : Bool := decide (I.N[i]? = some x) && seen sc x && !(x == ("__debug__" : Str)) && !(x == ("__classdict__" : Str))
def bslotB (I : Info) (wr : Scope) (i : Nat) (x : Str) : Bool := decide (I.N[i]? = some x) && stor wr x
def BI.name : BI → Str
  | .len => "len"
  | .isi _ => "isinstance"
  | .max2 => "max"
  | .min2 => "min"
  | .maxl => "max"
  | .abs => "abs"
  | .sum => "sum"
  | .all => "all"
  | .tuple => "tuple"
  | .list => "list"
  | .int => "int"
  | .bool => "bool"
  | .str => "str"
  | .dict => "dict"
def Ty.name : Ty → Str
  | .int => "int"
  | .bool => "bool"
  | .tuple => "tuple"
  | .str => "str"
  | .list => "list"
def opB : BinO → Operator → Bool
  | .add, .Add => true
  | .sub, .Sub => true
  | .mul, .Mult => true
  | .fdiv, .FloorDiv => true
  | .mod, .Mod => true
  | .pow, .Pow => true
  | _, _ => false
def cmpB : CmpO → CmpOp → Bool
  | .lt, .Lt => true
  | .le, .LtE => true
  | .gt, .Gt => true
  | .ge, .GtE => true
  | .eq, .Eq => true
  | .ne, .NotEq => true
  | .is_, .Is => true
  | .isn, .IsNot => true
  | .in_, .In => true
  | .nin, .NotIn => true
  | _, _ => false
/-- the class behind a value in isinstance -/
def tailB (sc : Scope) (b : BI) (es : List Expr) : Bool := match b, es with
  | .isi T, [.Name x _] => decide (x = T.name) && glob sc x
  | .isi _, _ => false
  | _, [] => true
  | _, _ => false
/-- what `super` cannot be -/
def plainO : Expr → Bool
  | .Name _ _ => true
  | .Constant _ _ _ => true
  | .Subscript _ _ _ => true
  | _ => false
/-- what d.values() may be asked of -/
def valO : Expr → Bool
  | .Name _ _ => true
  | .Call (.Name _ _) (_ :: _) _ _ => true
  | _ => false
/-- a target: its names are stored -/
def chkg (I : Info) (wr : Scope) : TG → Expr → Bool
  | .nm i _, e => (match e with
    | .Name x _ => bslotB I wr i x
    | _ => false)
  | .one a, e => (match e with
    | .Tuple [t] _ _ => chkg I wr a t
    | _ => false)
  | .tp a b, e => (match e with
    | .Tuple (t :: u :: r) k p => chkg I wr a t && chkg I wr b (.Tuple (u :: r) k p)
    | _ => false)
def ownP (I : Info) (own : List Nat) : List (Str × Nat) := own.filterMap fun i => (I.N[i]?).map fun x => (x, i)
/-- pairs go to a pair of names -/
def okT : IT → Expr → Bool
  | .enu _, .Tuple _ _ _ => true
  | .enu _, _ => false
  | _, _ => true
mutual
def chk (I : Info) (rd wr : Scope) : ME → Expr → Bool
  | .var i, e => (match e with
    | .Name x _ => slotB I rd i x
    | _ => false)
  | .mv i, e => (match e with
    | .Name x _ => slotB I rd i x
    | _ => false)
  | .lit d, e => (match d, e with
    | .int i, .Constant (.int j) _ _ => decide (i = j)
    | .str x, .Constant (.str y) _ _ => decide (x = y)
    | .bl x, .Constant (.bool y) _ _ => x == y
    | .non, .Constant .none _ _ => true
    | _, _ => false)
  | .glob n, e => (match e with
    | .Name x _ => decide (I.gls[n]? = some x) && glob rd x
    | _ => false)
  | .tup as, e => (match e with
    | .Tuple es _ _ => chks I rd wr as es && decide (es.length ≤ 1000)
    | _ => false)
  | .lst as, e => (match e with
    | .List es _ => chks I rd wr as es && decide (es.length ≤ 1000)
    | _ => false)
  | .dic0, e => (match e with
    | .Dict [] [] _ => true
    | _ => false)
  | .dic kvs, e => (match e with
    | .Dict ks vs _ => chkd I rd wr kvs ks vs && decide (ks.length ≤ 15) && !ks.isEmpty
    | _ => false)
  | .dpr a, e => (match e with
    | .Call (.Name x _) [y] [] _ => decide (x = ("dict" : Str)) && glob rd x && chk I rd wr a y
    | _ => false)
  | .lrg a, e => (match e with
    | .Call (.Name x _) [.Call (.Name y _) [z] [] _] [] _ => decide (x = ("list" : Str)) && decide (y = ("range" : Str)) && glob rd x && glob rd y && chk I rd wr a z
    | _ => false)
  | .srt a b, e => (match e with
    | .Call (.Name x _) [y] [] _ => decide (x = ("sorted" : Str)) && glob rd x && chk I rd wr a y
    | _ => false)
  | .bin o a b, e => (match e with
    | .BinOp x op y _ => opB o op && chk I rd wr a x && chk I rd wr b y
    | _ => false)
  | .neg a, e => (match e with
    | .UnaryOp .USub x _ => chk I rd wr a x
    | _ => false)
  | .not a, e => (match e with
    | .UnaryOp .Not x _ => chk I rd wr a x
    | _ => false)
  | .cmp o a b, e => (match e with
    | .Compare x [op] [y] _ => cmpB o op && chk I rd wr a x && chk I rd wr b y
    | _ => false)
  | .chn o o' a b c, e => (match e with
    | .Compare x [op, op'] [y, z] _ => cmpB o op && cmpB o' op' && chk I rd wr a x && chk I rd wr b y && chk I rd wr c z
    | _ => false)
  | .and a b, e => (match e with
    | .BoolOp .And [x, y] _ => chk I rd wr a x && chk I rd wr b y
    | .BoolOp .And (x :: y :: z :: r) p => chk I rd wr a x && chk I rd wr b (.BoolOp .And (y :: z :: r) p)
    | _ => false)
  | .or a b, e => (match e with
    | .BoolOp .Or [x, y] _ => chk I rd wr a x && chk I rd wr b y
    | .BoolOp .Or (x :: y :: z :: r) p => chk I rd wr a x && chk I rd wr b (.BoolOp .Or (y :: z :: r) p)
    | _ => false)
  | .ite c a b, e => (match e with
    | .IfExp t x y _ => chkt I rd wr c t && chk I rd wr a x && chk I rd wr b y
    | _ => false)
  | .idx a i, e => (match e with
    | .Subscript x y _ => chk I rd wr a x && chk I rd wr i y
    | _ => false)
  | .slc a bl l bh h, e => (match e with
    | .Subscript x (.Slice lo hi none _) _ => chk I rd wr a x && (match lo with
        | none => !bl && (match l with
          | .lit .non => true
          | _ => false)
        | some y => bl && chk I rd wr l y) && (match hi with
        | none => !bh && (match h with
          | .lit .non => true
          | _ => false)
        | some y => bh && chk I rd wr h y)
    | _ => false)
  | .rev a, e => (match e with
    | .Subscript x (.Slice none none (some (.UnaryOp .USub (.Constant (.int 1) _ _) _)) _) _ => chk I rd wr a x
    | _ => false)
  | .call f as, e => (match e with
    | .Call (.Name x _) (y :: ys) [] _ => decide (I.fns[f]? = some x) && glob rd x && chks I rd wr as (y :: ys)
    | _ => false)
  | .callm f as, e => (match e with
    | .Call (.Name x _) (y :: ys) [] _ => decide (I.fns[f]? = some x) && glob rd x && chks I rd wr as (y :: ys)
    | _ => false)
  | .bi b as, e => (match e, as with
    | .Call (.Name x _) (y :: ys) [] _, .cons a .nil => decide (x = b.name) && decide (b ≠ .dict) && glob rd x && chk I rd wr a y && tailB rd b ys
    | .Call (.Name x _) [y, y'] [] _, .cons a (.cons a' .nil) => decide (x = b.name) && decide (b ≠ .dict) && glob rd x && chk I rd wr a y && chk I rd wr a' y' && (match b with
        | .isi _ => false
        | _ => true)
    | _, _ => false)
  | .mth m o as, e => (match e with
    | .Call (.Attribute x nm ap) [y] [] cp => decide (nm = m.nm) && decide (m = .join ∨ m = .split) && (ap.endLine == cp.line) && plainO x && chk I rd wr o x && (match as with
      | .cons a .nil => chk I rd wr a y
      | _ => false)
    | _ => false)
  | .ixo o a, e => (match e, o with
    | .Call (.Attribute (.Name x _) nm ap) [y] [] cp, .glob n => decide (nm = ("index" : Str)) && (ap.endLine == cp.line) && decide (I.gls[n]? = some x) && glob rd x && chk I rd wr a y
    | _, _ => false)
  | .lc e0 tg own it c, e => (match e with
    | .ListComp x [⟨t, iter, ifs, 0⟩] scope _ => chki I rd wr it iter && okT it t && chkg I scope tg t && decide ((ownP I own).map (·.2) = own) && decide (∀ i ∈ tg.slots, i ∈ own) && blkC I.N rd scope (ownP I own) && chk I (relS scope rd) scope e0 x && (match ifs with
        | [] => (match c with
          | .tt => true
          | _ => false)
        | [y] => chkt I (relS scope rd) scope c y
        | _ => false)
    | _ => false)
  | .lc2 e0 tg own it tg' own' it' c, e => (match e with
    | .ListComp x [⟨t, iter, [], 0⟩, ⟨t', iter', ifs, 0⟩] scope _ => chki I rd wr it iter && okT it t && chkg I scope tg t && decide ((ownP I own).map (·.2) = own) && decide (∀ i ∈ tg.slots, i ∈ own) && blkC I.N rd scope (ownP I own) && decide (∀ i ∈ own', i ∈ own) && decide (∀ i ∈ tg'.slots, i ∈ own') && chki I (relS scope rd) scope it' iter' && okT it' t' && chkg I scope tg' t' && chk I (relS scope rd) scope e0 x && (match ifs with
        | [] => (match c with
          | .tt => true
          | _ => false)
        | [y] => chkt I (relS scope rd) scope c y
        | _ => false)
    | _ => false)
  | .mpop i, e => (match e with
    | .Call (.Attribute (.Name x _) nm ap) [] [] cp => decide (nm = ("pop" : Str)) && (ap.endLine == cp.line) && slotB I rd i x
    | _ => false)
def chks (I : Info) (rd wr : Scope) : MEs → List Expr → Bool
  | .nil, [] => true
  | .cons a as, e :: es => chk I rd wr a e && chks I rd wr as es
  | _, _ => false
def chkd (I : Info) (rd wr : Scope) : MEs → List (Option Expr) → List Expr → Bool
  | .nil, [], [] => true
  | .cons a (.cons b r), some x :: ks, y :: vs => chk I rd wr a x && chk I rd wr b y && chkd I rd wr r ks vs
  | _, _, _ => false
def chki (I : Info) (rd wr : Scope) : IT → Expr → Bool
  | .seq a, e => chk I rd wr a e
  | .rng as, e => (match e with
    | .Call (.Name x _) [y] [] _ => decide (x = ("range" : Str)) && glob rd x && chks I rd wr as [y]
    | .Call (.Name x _) [y, z] [] _ => decide (x = ("range" : Str)) && glob rd x && chks I rd wr as [y, z]
    | _ => false)
  | .enu a, e => (match e with
    | .Call (.Name x _) [y] [] _ => decide (x = ("enumerate" : Str)) && glob rd x && chk I rd wr a y
    | _ => false)
  | .zip _ _, _ => false
  | .vals a, e => (match e with
    | .Call (.Attribute x nm ap) [] [] cp => decide (nm = ("values" : Str)) && (ap.endLine == cp.line) && chk I rd wr a x && valO x
    | _ => false)
/-- a test -/
def chkt (I : Info) (rd wr : Scope) : MT → Expr → Bool
  | .tt, _ => false
  | .val a, e => (match e with
    | .BoolOp _ _ _ => false
    | .UnaryOp .Not _ _ => false
    | .IfExp _ _ _ _ => false
    | _ => chk I rd wr a e)
  | .and a b, e => (match e with
    | .BoolOp .And [x, y] _ => chkt I rd wr a x && chkt I rd wr b y
    | .BoolOp .And (x :: y :: z :: r) p => chkt I rd wr a x && chkt I rd wr b (.BoolOp .And (y :: z :: r) p)
    | _ => false)
  | .or a b, e => (match e with
    | .BoolOp .Or [x, y] _ => chkt I rd wr a x && chkt I rd wr b y
    | .BoolOp .Or (x :: y :: z :: r) p => chkt I rd wr a x && chkt I rd wr b (.BoolOp .Or (y :: z :: r) p)
    | _ => false)
  | .not a, e => (match e with
    | .UnaryOp .Not x _ => chkt I rd wr a x
    | _ => false)
end
end Ev
end

section
set_option Elab.async false
set_option linter.all false
set_option maxRecDepth 100000
set_option maxHeartbeats 1000000
/-! Readings of the small syntax; functions' promises; targets. -/
namespace Ev
open PySem L2

/-! ### what a function promises -/
section
variable (P : Program) (w : World) (K : PySem.W.Frag)
inductive ArgsR (H : Hp) : List Mode → List V → List D → List FP → Prop
  | nil : ArgsR H [] [] [] []
  | cons {m : Mode} {ms : List Mode} {v : V} {vs : List V} {d : D} {ds : List D} {f : FP} {fs : List FP} : Rep P w K H v d f → (m = .im → f = fz) → ArgsR H ms vs ds fs → ArgsR H (m :: ms) (v :: vs) (d :: ds) (f :: fs)
def mSum (p : Mode → Bool) : List Mode → List FP → FP
  | m :: ms, f :: fs => fa (if p m then f else fz) (mSum p ms fs)
  | _, _ => fz
def isRf : Mode → Bool
  | .rf => true
  | _ => false
def isVl : Mode → Bool
  | .vl => true
  | _ => false
inductive OutsR (H : Hp) : List Mode → List V → List D → List FP → Prop
  | nil : OutsR H [] [] [] []
  | skip {m : Mode} {ms : List Mode} {v : V} {vs : List V} {ds : List D} {fs : List FP} : isRf m = false → OutsR H ms vs ds fs → OutsR H (m :: ms) (v :: vs) ds fs
  | rf {ms : List Mode} {v : V} {vs : List V} {d : D} {ds : List D} {f : FP} {fs : List FP} : Rep P w K H v d f → OutsR H ms vs ds fs → OutsR H (.rf :: ms) (v :: vs) (d :: ds) (f :: fs)
structure FnFr (ms : List Mode) (vs : List V) (H : Hp) (fs : List FP) (outs : List D) (H' : Hp) (gs : List FP) : Prop where
  keep : ∀ a o, H a = some o → mSum isRf ms fs a = 0 → H' a = some o
  live : ∀ a, H a ≠ none → H' a ≠ none
  outs : OutsR P w K H' ms vs outs gs
  le : ∀ a, sumF gs a ≤ 1
  frm : ∀ a, 0 < sumF gs a → H a = none ∨ 0 < mSum isRf ms fs a
  prv : ∀ a, 0 < sumF gs a → H a = none ∨ 0 < sumF fs a
def FnTag (ms : List Mode) (H : Hp) (fs : List FP) (gs : List FP) (t : RT) (f : FP) : Prop := match t with
  | .im => f = fz
  | .vl => ∀ a, 0 < f a → sumF gs a = 0 ∧ (H a = none ∨ 0 < sumF fs a)
  | .fr => ∀ a, f a ≤ 1 ∧ (0 < f a → sumF gs a = 0 ∧ (H a = none ∨ 0 < mSum isRf ms fs a))
  | .tm _ => False
def spF (exV : Nat → Value) (F : Fn) : Sp := fun vs H Q E => ∃ ds fs, ArgsR P w K H F.modes vs ds fs ∧ (∀ a, mSum isRf F.modes fs a ≤ 1) ∧ (∀ a, 0 < mSum isRf F.modes fs a → mSum isVl F.modes fs a = 0) ∧
  match F.sem ds with
  | .ret v outs => ∀ x H' f gs, FnFr P w K F.modes vs H fs outs H' gs → Rep P w K H' x v.d f → FnTag F.modes H fs gs v.t f → Q x H'
  | .ex c outs => ∀ H' gs, FnFr P w K F.modes vs H fs outs H' gs → E (exV c) none H'
  | .no => False
end

/-! ### readings -/
section
variable (G : Tab) (C : Nat → Option D) (exV : Nat → Value) (B : Bs) (W : WX)
def RunR {α : Type} (σ : St) (H : Hp) (ρ : En) (fs : List FP) (r : R α) (Qok : α → En → Prop) : Prop := match r with
  | .ok a ρ' => Qok a ρ'
  | .ex c ρ' => ∀ H' fs', Step B σ H ρ fs false H' ρ' fs' → W (exV c) none σ H'
  | .no => False
def tEv (m : ME) : TE := fun σ H Q => ∃ ρ fs, StR B σ H ρ fs ∧ RunR exV B W σ H ρ fs (ev G C m ρ) fun v ρ' => ∀ x H' f fs', PostE B σ H ρ fs m.pure m.slot? v x H' f ρ' fs' → Q x H'
def tEvs (as : MEs) : TA := fun σ H Q => ∃ ρ fs, StR B σ H ρ fs ∧ RunR exV B W σ H ρ fs (evs G C as ρ) fun vs ρ' => ∀ xs H' gs fs', PostA B σ H ρ fs as.pure as.slots vs xs H' gs ρ' fs' → Q xs H'
def tEvt (t : MT) : TT := fun σ H Q => ∃ ρ fs, StR B σ H ρ fs ∧ RunR exV B W σ H ρ fs (evt G C t ρ) fun b ρ' => ∀ H' fs', Step B σ H ρ fs t.pure H' ρ' fs' → Q b H'
end
section
variable {G : Tab} {C : Nat → Option D} {exV : Nat → Value} {B : Bs} {W : WX} {σ : St} {H H1 : Hp} {ρ ρ1 : En} {fs fs1 : List FP} {p : Bool}
theorem RunR.bind {α β : Type} {r : R α} {k : α → En → R β} {Q : β → En → Prop} (h : RunR exV B W σ H ρ fs (r.bind k) Q) : RunR exV B W σ H ρ fs r fun a ρ' => RunR exV B W σ H ρ fs (k a ρ') Q := by
  cases r <;> exact h
theorem RunR.mono {α : Type} {r : R α} {Q Q' : α → En → Prop} (h : RunR exV B W σ H ρ fs r Q) (q : ∀ a ρ', Q a ρ' → Q' a ρ') : RunR exV B W σ H ρ fs r Q' := by
  cases r with
  | ok a ρ' => exact q _ _ h
  | ex c ρ' => exact h
  | no => exact h
theorem RunR.later {α : Type} {r : R α} {Q : α → En → Prop} (h : RunR exV B W σ H ρ fs r Q) (s : Step B σ H ρ fs p H1 ρ1 fs1) : RunR exV B W σ H1 ρ1 fs1 r Q := by
  cases r with
  | ok a ρ' => exact h
  | ex c ρ' => exact fun H' fs' s' => h H' fs' ((s.trans s').weak fun z => by cases z)
  | no => exact h
theorem RunR.of {α : Type} {o : Option α} {ρ' : En} {Q : α → En → Prop} (h : RunR exV B W σ H ρ fs (R.of ρ' o) Q) : ∃ a, o = some a ∧ Q a ρ' := by
  cases o with
  | none => exact h.elim
  | some a => exact ⟨a, rfl, h⟩
theorem RunR.ite {α : Type} {c : Bool} {r : R α} {Q : α → En → Prop} (h : RunR exV B W σ H ρ fs (if c = true then r else .no) Q) : c = true ∧ RunR exV B W σ H ρ fs r Q := by
  by_cases q : c = true
  · rw [if_pos q] at h; exact ⟨q, h⟩
  · rw [if_neg q] at h; exact h.elim
end

/-- a tuple of the module -/
def TupK (K : PySem.W.Frag) (d : D) (v : V) : Prop := d.isTup = true → ∃ b o, v = .ref b ∧ K.lookup b = some o ∧ o.cls = .type "tuple" ∧ o.dict = none
/-! ### the context -/
structure Gd (I : Info) (G : Tab) (C : Nat → Option D) (exV : Nat → Value) (B : Bs) (k : Nat) (rd wr : Scope) (W : WX) (X : Cx) : Prop where
  eP : X.prog = B.P
  ew : X.w = B.w
  eK : X.K = B.K
  eN : X.N = I.N
  nd : X.N.Nodup
  esc : X.env.scope = rd
  sto : ∀ x, stor wr x = true → Loc rd x ∧ (X.fn x = true ∨ rd.names.lookup x = some .local)
  calm : X.calm = true
  room : Room k X.A
  blt : ∀ x : Str, x ∈ ([("len" : Str), "isinstance", "max", "min", "abs", "sum", "all", "tuple", "list", "int", "bool", "str", "range", "enumerate", "dict", "sorted", "zip"] : List Str) → X.mg x = none
  glo : ∀ n x, I.gls[n]? = some x → ∃ d u v, C n = some d ∧ X.mg x = some u ∧ RelV v u ∧ (∀ H, Rep B.P B.w B.K H v d fz) ∧ TupK B.K d v
  fun_ : ∀ n x, I.fns[n]? = some x → ∃ F f fd ps, G n = some F ∧ X.mg x = some (.ref f) ∧ PySem.W.keepIn X.K (.ref f) = true ∧ Binds X.K fd ps [] ∧ FnOk X.prog X.w X.K X.mg X.base (L2.CX X.prog X.w) k f fd ps (spF X.prog X.w X.K exV F)
  takes : Takes X W
theorem seen_vis {sc : Scope} {x : Str} (h : seen sc x = true) : Vis sc x := by
  unfold seen at h
  split at h
  · exact .inl (by assumption)
  · exact .inr (.inl (by assumption))
  · exact .inr (.inr (by assumption))
  · cases h
theorem glob_gl {X : Cx} {sc : Scope} {x : Str} (e : X.env.scope = sc) (h : glob sc x = true) : Gl X x ∧ (x == ("__debug__" : Str)) = false := by
  obtain ⟨h1, h2⟩ := Bool.and_eq_true_iff.mp h
  refine ⟨?_, by simpa using h2⟩
  show X.env.scope.names.lookup x = some .globalImplicit
  rw [e]
  split at h1
  · assumption
  · cases h1

/-! ### targets -/
/-- what a value to be stored must be -/
def TagS (B : Bs) (ρ : En) (fs : List FP) (t : RT) (f : FP) : Prop := match t with
  | .im => f = fz
  | .vl => ∀ a, 0 < f a → sumOf own ρ fs a = 0
  | .fr => ∀ a, f a ≤ 1 ∧ (0 < f a → sumOf own ρ fs a = 0 ∧ sumOf frz ρ fs a = 0 ∧ (B.H0 a = none ∨ 0 < B.M0 a))
  | .tm _ => True
structure BPost (B : Bs) (σ : St) (H : Hp) (ρ : En) (fs : List FP) (f : FP) (σ' : St) (ρ' : En) (fs' : List FP) : Prop where
  st : StR B σ' H ρ' fs'
  own : ∀ a, sumOf own ρ' fs' a ≤ sumOf own ρ fs a + f a
  chg : ∀ a, sumOf chg ρ' fs' a ≤ sumOf chg ρ fs a + f a
  frz : ∀ a, sumOf frz ρ' fs' a ≤ sumOf frz ρ fs a + f a
  lk : ∀ (i : Nat) (d : D), ρ[i]? = some (some ⟨.lk, d⟩) → ρ'[i]? = some (some ⟨.lk, d⟩) ∧ fs'[i]? = fs[i]? ∧ σ'[i]? = σ[i]?
  rf : ∀ (i : Nat) (d : D), ρ'[i]? = some (some ⟨.rf, d⟩) → (∃ d0, ρ[i]? = some (some ⟨.rf, d0⟩)) ∧ σ'[i]? = σ[i]?
section
variable {B : Bs} {σ : St} {H : Hp} {ρ : En} {fs : List FP}
theorem own_frz {t : ST} (h : own t = true) : frz t = false := by cases t <;> first | rfl | cases h
/-- a value is stored at a slot that may be stored -/
theorem store_slot {i : Nat} {t : ST} {d : D} {v : V} {f : FP} (st : StR B σ H ρ fs) (hfree : ρ.free i = true) (r : Rep B.P B.w B.K H v d f) (hrf : t ≠ .rf) (him : t = .im → f = fz) (hvl : t = .vl → ∀ a, 0 < f a → sumOf own ρ fs a = 0)
    (hmu : own t = true → ∀ a, f a ≤ 1 ∧ (0 < f a → sumOf own ρ fs a = 0 ∧ sumOf frz ρ fs a = 0 ∧ (B.H0 a = none ∨ 0 < B.M0 a))) (pv : ∀ a, 0 < f a → B.H0 a = none ∨ B.A0 a) :
    BPost B σ H ρ fs f (σ.set i (some v)) (ρ.set i (some ⟨t, d⟩)) (fs.set i f) := by
  -- the slot as it was
  obtain ⟨s, hs, hnl⟩ : ∃ s, ρ[i]? = some s ∧ ∀ d', s ≠ some ⟨.lk, d'⟩ := by
    unfold En.free at hfree
    split at hfree
    · cases hfree
    · cases hfree
    · rename_i s h1 h2 h3
      exact ⟨s, h3, fun d' e => h2 d' e⟩
    · cases hfree
  obtain ⟨o, g, ho, hg, sl⟩ := st.sl.get hs
  have S := fun (p : ST → Bool) a => sum_set p ρ fs i s (some ⟨t, d⟩) g f hs hg a
  have cle : ∀ (p : ST → Bool) a, ctr p (some ⟨t, d⟩) f a ≤ f a := fun p a => ctr_le p _ f a
  refine ⟨⟨st.sl.set (.val r him), fun a => ?_, fun a h => ?_, st.b1, st.b2, fun f' hf a z => ?_, fun a h => ?_⟩, fun a => ?_, fun a => ?_, fun a => ?_, fun j d' e => ?_, fun j d' e => ?_⟩
  · -- at most one owner
    have h1 := S own a
    have h2 := st.m1 a
    by_cases c : own t = true
    · obtain ⟨q1, q2⟩ := hmu c a
      by_cases z : 0 < f a
      · have := (q2 z).1
        have := cle own a
        omega
      · have := cle own a
        omega
    · have : ctr own (some ⟨t, d⟩) f a = 0 := by
        show (if own t = true then f else fz) a = 0
        rw [if_neg c]
        rfl
      omega
  · have h1 := S own a
    have h2 := S frz a
    by_cases c : own t = true
    · have z0 : ctr frz (some ⟨t, d⟩) f a = 0 := by
        show (if frz t = true then f else fz) a = 0
        rw [own_frz c]
        rfl
      by_cases z : 0 < f a
      · have := ((hmu c a).2 z).2.1
        omega
      · have := cle own a
        have : 0 < sumOf own ρ fs a := by omega
        have := st.mn a this
        omega
    · have z0 : ctr own (some ⟨t, d⟩) f a = 0 := by
        show (if own t = true then f else fz) a = 0
        rw [if_neg c]
        rfl
      have ho : 0 < sumOf own ρ fs a := by omega
      have hf0 := st.mn a ho
      by_cases z : 0 < ctr frz (some ⟨t, d⟩) f a
      · have tv : t = .vl := by
          cases t <;> first | rfl | (exfalso; simp [ctr, frz, fz] at z)
        have := hvl tv a (Nat.lt_of_lt_of_le z (cle frz a))
        omega
      · omega
  · rcases List.mem_or_eq_of_mem_set hf with hf | rfl
    · exact st.b3 f' hf a z
    · exact pv a z
  · have h1 := S own a
    by_cases c : 0 < sumOf own ρ fs a
    · exact st.b4 a c
    · have z : 0 < ctr own (some ⟨t, d⟩) f a := by omega
      by_cases c2 : own t = true
      · exact ((hmu c2 a).2 (Nat.lt_of_lt_of_le z (cle own a))).2.2
      · exfalso
        have : ctr own (some ⟨t, d⟩) f a = 0 := by
          show (if own t = true then f else fz) a = 0
          rw [if_neg c2]
          rfl
        omega
  · have h1 := S own a; have := cle own a; omega
  · have h1 := S chg a; have := cle chg a; omega
  · have h1 := S frz a; have := cle frz a; omega
  · have ne : i ≠ j := fun q => by
      subst q
      rw [hs] at e
      exact hnl d' (Option.some.inj e)
    exact ⟨by rw [List.getElem?_set_ne ne]; exact e, by rw [List.getElem?_set_ne ne], by rw [List.getElem?_set_ne ne]⟩
  · by_cases q : i = j
    · subst q
      rw [List.getElem?_set_self (List.getElem?_eq_some_iff.mp hs).1] at e
      cases e
      exact absurd rfl hrf
    · rw [List.getElem?_set_ne q] at e
      exact ⟨⟨d', e⟩, List.getElem?_set_ne q⟩
theorem BPost.trans {σ1 σ2 : St} {ρ1 ρ2 : En} {fs1 fs2 : List FP} {f g : FP} (a : BPost B σ H ρ fs f σ1 ρ1 fs1) (b : BPost B σ1 H ρ1 fs1 g σ2 ρ2 fs2) : BPost B σ H ρ fs (fa f g) σ2 ρ2 fs2 where
  st := b.st
  own := fun x => by have h1 := a.own x; have h2 := b.own x; show _ ≤ _ + (f x + g x); omega
  chg := fun x => by have h1 := a.chg x; have h2 := b.chg x; show _ ≤ _ + (f x + g x); omega
  frz := fun x => by have h1 := a.frz x; have h2 := b.frz x; show _ ≤ _ + (f x + g x); omega
  lk := fun i d e => by
    obtain ⟨e1, e2, e3⟩ := a.lk i d e
    obtain ⟨e4, e5, e6⟩ := b.lk i d e1
    exact ⟨e4, e5.trans e2, e6.trans e3⟩
  rf := fun i d e => by
    obtain ⟨⟨d1, e1⟩, e2⟩ := b.rf i d e
    obtain ⟨e3, e4⟩ := a.rf i d1 e1
    exact ⟨e3, e2.trans e4⟩
theorem TagS.le {t : RT} {f g : FP} (h : TagS B ρ fs t f) (l : ∀ a, g a ≤ f a) : TagS B ρ fs t g := by
  cases t with
  | im =>
    have h' : f = fz := h
    subst h'
    exact funext fun a => Nat.le_antisymm (l a) (Nat.zero_le _)
  | vl => exact fun a z => h a (Nat.lt_of_lt_of_le z (l a))
  | fr => exact fun a => ⟨Nat.le_trans (l a) (h a).1, fun z => (h a).2 (Nat.lt_of_lt_of_le z (l a))⟩
  | tm i => exact trivial
/-- the tag of the rest, when a part is stored -/
theorem TagS.next {t : RT} {f g : FP} {σ1 : St} {ρ1 : En} {fs1 : List FP} (h : TagS B ρ fs t (fa f g)) (b : BPost B σ H ρ fs f σ1 ρ1 fs1) (h0 : t = .vl → ∀ a, sumOf Ev.own ρ1 fs1 a ≤ sumOf Ev.own ρ fs a) : TagS B ρ1 fs1 t g := by
  cases t with
  | im =>
    have h' : fa f g = fz := h
    exact funext fun a => by
      have q : f a + g a = 0 := congrFun h' a
      show g a = 0
      omega
  | vl =>
    intro a z
    have := h a (fa_right z)
    have := h0 rfl a
    omega
  | fr =>
    intro a
    have q : f a + g a ≤ 1 := (h a).1
    refine ⟨by omega, fun z => ?_⟩
    obtain ⟨q1, q2, q3⟩ := (h a).2 (fa_right z)
    have := b.own a
    have := b.frz a
    exact ⟨by omega, by omega, q3⟩
  | tm i => exact trivial
/-- the condition of a store, by the result's tag -/
theorem slot_ok {i : Nat} {o : Bool} {t : RT} {s : ST} {d : D} {v : V} {f : FP} (st : StR B σ H ρ fs) (hfree : ρ.free i = true) (e : t.slot o d = some s) (r : Rep B.P B.w B.K H v d f) (tg : TagS B ρ fs t f) (pv : ∀ a, 0 < f a → B.H0 a = none ∨ B.A0 a) :
    BPost B σ H ρ fs f (σ.set i (some v)) (ρ.put i (some ⟨s, d⟩)) (fs.set i f) ∧ (t = .vl → ∀ a, sumOf own (ρ.put i (some ⟨s, d⟩)) (fs.set i f) a ≤ sumOf own ρ fs a) := by
  have noOwn : own s = false → ∀ a, sumOf own (ρ.put i (some ⟨s, d⟩)) (fs.set i f) a ≤ sumOf own ρ fs a := fun q a => by
    obtain ⟨s0, hs⟩ : ∃ s0, ρ[i]? = some s0 := by
      unfold En.free at hfree
      split at hfree
      · cases hfree
      · cases hfree
      · exact ⟨_, by assumption⟩
      · cases hfree
    obtain ⟨o', g, ho, hg, sl⟩ := st.sl.get hs
    have h1 := sum_set own ρ fs i s0 (some ⟨s, d⟩) g f hs hg a
    have z0 : ctr own (some ⟨s, d⟩) f a = 0 := by
      show (if own s = true then f else fz) a = 0
      rw [q]
      rfl
    show sumOf own (ρ.set i _) _ a ≤ _
    omega
  cases t with
  | im =>
    cases e
    have tg' : f = fz := tg
    exact ⟨store_slot st hfree r (fun z => nomatch z) (fun _ => tg') (fun z => nomatch z) (fun z => nomatch z) pv, fun z => nomatch z⟩
  | vl =>
    have e' : (if o = true then none else some ST.vl) = some s := e
    split at e'
    · cases e'
    · cases e'
      exact ⟨store_slot st hfree r (fun z => nomatch z) (fun z => nomatch z) (fun _ => tg) (fun z => nomatch z) pv, fun _ => noOwn rfl⟩
  | fr =>
    have e' : (if o = true then some ST.mu else some ST.vl) = some s := e
    split at e'
    · cases e'
      exact ⟨store_slot st hfree r (fun z => nomatch z) (fun z => nomatch z) (fun z => nomatch z) (fun _ => tg) pv, fun z => nomatch z⟩
    · cases e'
      exact ⟨store_slot st hfree r (fun z => nomatch z) (fun z => nomatch z) (fun _ a z => ((tg a).2 z).1) (fun z => nomatch z) pv, fun z => nomatch z⟩
  | tm j =>
    have e' : (if d.imm = true then some ST.im else none) = some s := e
    split at e'
    · rename_i c
      cases e'
      exact ⟨store_slot st hfree r (fun z => nomatch z) (fun _ => r.imm c) (fun z => nomatch z) (fun z => nomatch z) pv, fun z => nomatch z⟩
    · cases e'
end
section
variable {I : Info} {G : Tab} {C : Nat → Option D} {exV : Nat → Value} {B : Bs} {k : Nat} {rd wr : Scope} {W : WX} {X : Cx}
/-- nothing but the slots is is changed -/
def Off (is : List Nat) (σ : St) (ρ : En) (fs : List FP) (σ' : St) (ρ' : En) (fs' : List FP) : Prop := (σ'.length = σ.length ∧ ρ'.length = ρ.length ∧ fs'.length = fs.length) ∧ ∀ j, j ∉ is → σ'[j]? = σ[j]? ∧ ρ'[j]? = ρ[j]? ∧ fs'[j]? = fs[j]?
theorem Off.trans {is js : List Nat} {σ σ1 σ2 : St} {ρ ρ1 ρ2 : En} {fs fs1 fs2 : List FP} (a : Off is σ ρ fs σ1 ρ1 fs1) (b : Off js σ1 ρ1 fs1 σ2 ρ2 fs2) : Off (is ++ js) σ ρ fs σ2 ρ2 fs2 :=
  ⟨⟨b.1.1.trans a.1.1, b.1.2.1.trans a.1.2.1, b.1.2.2.trans a.1.2.2⟩, fun j hj => by
    have h1 := a.2 j fun q => hj (by simp [q])
    have h2 := b.2 j fun q => hj (by simp [q])
    exact ⟨h2.1.trans h1.1, h2.2.1.trans h1.2.1, h2.2.2.trans h1.2.2⟩⟩
def gB (B : Bs) (tg : TG) : L2.TG := fun v σ H Q => ∃ t ρ fs d f ρ', StR B σ H ρ fs ∧ Rep B.P B.w B.K H v d f ∧ TagS B ρ fs t f ∧ (∀ a, 0 < f a → B.H0 a = none ∨ B.A0 a) ∧ bindT tg t d ρ = some ρ' ∧
  ∀ σ' fs', BPost B σ H ρ fs f σ' ρ' fs' → (t = .vl → ∀ a, sumOf own ρ' fs' a ≤ sumOf own ρ fs a) → Off tg.slots σ ρ fs σ' ρ' fs' → Q σ' H
def gBs (B : Bs) (tg : TG) : L2.TGs := fun vs σ H Q => ∃ t ρ fs ds f ρ', StR B σ H ρ fs ∧ RepL B.P B.w B.K H vs ds f ∧ TagS B ρ fs t f ∧ (∀ a, 0 < f a → B.H0 a = none ∨ B.A0 a) ∧ bindT tg t (.tup ds) ρ = some ρ' ∧
  ∀ σ' fs', BPost B σ H ρ fs f σ' ρ' fs' → (t = .vl → ∀ a, sumOf own ρ' fs' a ≤ sumOf own ρ fs a) → Off tg.slots σ ρ fs σ' ρ' fs' → Q σ' H
theorem PG.weak {X : Cx} {e : Expr} {t t' : L2.TG} (h : PG X e t) (q : ∀ v σ H Q, t' v σ H Q → t v σ H Q) : PG X e t' := ⟨fun pins s σ H v u Q I r hq => h.run pins s σ H v u Q I r (q v σ H Q hq)⟩
theorem PGs.weak {X : Cx} {e : List Expr} {t t' : L2.TGs} (h : PGs X e t) (q : ∀ v σ H Q, t' v σ H Q → t v σ H Q) : PGs X e t' := ⟨fun pins s σ H v u Q I r hq => h.run pins s σ H v u Q I r (q v σ H Q hq)⟩
theorem chkg_plain {tg : TG} {e : Expr} {env : Env} {r : List Expr} (h : chkg I wr tg e = true) : assignEach (e :: r) env = (false, assign e env) :: assignEach r env := by
  cases tg <;> cases e <;> simp [chkg] at h <;> rfl
theorem chkg_list : ∀ (tg : TG) (es : List Expr) (k : Nat) (p : Pos) (env : Env), chkg I wr tg (.Tuple es k p) = true → (assignEach es env).length = es.length ∧ (assignEach es env).findIdx? (·.1) = none
  | .nm i o, es, k, p, env, h => by simp [chkg] at h
  | .one a, es, k, p, env, h => by
    match es, h with
    | [t], h =>
      have h' : chkg I wr a t = true := by simpa [chkg] using h
      rw [chkg_plain h']
      exact ⟨rfl, rfl⟩
  | .tp a b, es, k, p, env, h => by
    match es, h with
    | t :: u :: r, h =>
      have h' : chkg I wr a t = true ∧ chkg I wr b (.Tuple (u :: r) k p) = true := by simpa [chkg] using h
      obtain ⟨q1, q2⟩ := chkg_list b (u :: r) k p env h'.2
      rw [chkg_plain h'.1]
      refine ⟨by simp [q1], ?_⟩
      rw [List.findIdx?_cons, q2]
      rfl
theorem bind_len : ∀ {tg : TG} {es : List Expr} {k : Nat} {p : Pos} {t : RT} {ds : List D} {ρ ρ' : En}, chkg I wr tg (.Tuple es k p) = true → bindT tg t (.tup ds) ρ = some ρ' → ds.length = es.length
  | .nm i o, es, k, p, t, ds, ρ, ρ', h, e => by simp [chkg] at h
  | .one a, es, k, p, t, ds, ρ, ρ', h, e => by
    match es, h with
    | [u], h =>
      match ds, e with
      | [], e => cases e
      | [d], e => rfl
      | d :: d' :: ds, e => cases e
  | .tp a b, es, k, p, t, ds, ρ, ρ', h, e => by
    match es, h with
    | x :: y :: r, h =>
      have h' : chkg I wr a x = true ∧ chkg I wr b (.Tuple (y :: r) k p) = true := by simpa [chkg] using h
      match ds, e with
      | [], e => cases e
      | d :: ds, e =>
        unfold bindT at e
        obtain ⟨ρ1, e1, e2⟩ := Option.bind_eq_some_iff.mp e
        have := bind_len h'.2 e2
        simpa using this
theorem pg_of_pgs (g : Gd I G C exV B k rd wr W X) {tg : TG} {es : List Expr} {n : Nat} {p : Pos} (h : chkg I wr tg (.Tuple es n p) = true) (hn : ∀ i o, tg ≠ .nm i o) (q : PGs X es (gBs B tg)) : PG X (.Tuple es n p) (gB B tg) := by
  obtain ⟨q1, q2⟩ := chkg_list tg es n p X.env h
  refine PG.weak (pg_tup (n := es.length) g.calm q q1 q2) fun v σ H Q z => ?_
  obtain ⟨t, ρ, fs, d, f, ρ', st, r, ts, pv, e, z⟩ := z
  have go : ∀ ds, d = .tup ds → gTup X.K es.length (gBs B tg) v σ H Q := fun ds ed => by
    subst ed
    cases r with
    | tup r1 r2 =>
      refine ⟨_, _, rfl, ?_, ?_, t, ρ, fs, ds, f, ρ', st, r2, ts, pv, e, z⟩
      · rw [g.eK]; exact r1
      · rw [r2.length]; exact bind_len h e
  cases tg with
  | nm i o => exact absurd rfl (hn i o)
  | one a =>
    cases d <;> first | exact go _ rfl | (exfalso; simp [bindT] at e)
  | tp a b =>
    cases d <;> first | exact go _ rfl | (exfalso; simp [bindT] at e)
theorem tg_ok (g : Gd I G C exV B k rd wr W X) : ∀ (tg : TG), (∀ e, chkg I wr tg e = true → PG X e (gB B tg)) ∧ ∀ es k p, chkg I wr tg (.Tuple es k p) = true → PGs X es (gBs B tg)
  | .nm i o => by
    refine ⟨fun e h => ?_, fun es k p h => by simp [chkg] at h⟩
    unfold chkg at h
    split at h
    · rename_i x pos
      obtain ⟨h1, h2⟩ := Bool.and_eq_true_iff.mp h
      obtain ⟨l, hf⟩ := g.sto x h2
      refine PG.weak (pg_name (i := i) g.nd (by rw [g.eN]; exact of_decide_eq_true h1) (by rw [g.esc]; exact l) (by rw [g.esc]; exact hf)) fun v σ H Q q => ?_
      obtain ⟨t, ρ, fs, d, f, ρ', st, r, ts, pv, e, q⟩ := q
      unfold bindT at e
      split at e
      · rename_i fr
        obtain ⟨s, e1, rfl⟩ := Option.map_eq_some_iff.mp e
        obtain ⟨b, b2⟩ := slot_ok st fr e1 r ts pv
        exact q _ _ b b2 ⟨⟨List.length_set, List.length_set, List.length_set⟩, fun j hj => by
          have ne : i ≠ j := fun q => hj (by simp [TG.slots, q])
          exact ⟨List.getElem?_set_ne ne, List.getElem?_set_ne ne, List.getElem?_set_ne ne⟩⟩
      · cases e
    · cases h
  | .one a => by
    have one : ∀ es k p, chkg I wr (.one a) (.Tuple es k p) = true → PGs X es (gBs B (.one a)) := fun es k p h => by
      match es, h with
      | [u], h =>
        have h' : chkg I wr a u = true := by simpa [chkg] using h
        refine PGs.weak (pgs_cons ((tg_ok g a).1 u h') pgs_nil (by rw [chkg_plain h']; rfl)) fun vs σ H Q q => ?_
        obtain ⟨t, ρ, fs, ds, f, ρ', st, r, ts, pv, e, q⟩ := q
        match ds, e, r with
        | [], e, r => cases e
        | d :: d' :: ds, e, r => cases e
        | [d], e, .cons (v := v) (f := f1) r1 r2 =>
          cases r2
          have ez : fa f1 fz = f1 := rfl
          rw [ez] at ts pv q
          exact ⟨v, [], rfl, t, ρ, fs, d, f1, ρ', st, r1, ts, pv, e, fun σ' fs' b b2 b3 => ⟨rfl, q σ' fs' b b2 b3⟩⟩
    refine ⟨fun e h => ?_, one⟩
    have h0 := h
    unfold chkg at h
    split at h
    · exact pg_of_pgs g h0 (fun _ _ z => by cases z) (one _ _ _ h0)
    · cases h
  | .tp a b => by
    have tp : ∀ es k p, chkg I wr (.tp a b) (.Tuple es k p) = true → PGs X es (gBs B (.tp a b)) := fun es k p h => by
      match es, h with
      | x :: y :: r, h =>
        have h' : chkg I wr a x = true ∧ chkg I wr b (.Tuple (y :: r) k p) = true := by simpa [chkg] using h
        refine PGs.weak (pgs_cons ((tg_ok g a).1 x h'.1) ((tg_ok g b).2 (y :: r) k p h'.2) (by rw [chkg_plain h'.1]; rfl)) fun vs σ H Q q => ?_
        obtain ⟨t, ρ, fs, ds, f, ρ', st, rr, ts, pv, e, q⟩ := q
        match ds, e, rr with
        | [], e, rr => cases e
        | d :: ds, e, .cons (v := v) (vs := vs) (f := f1) (g := f2) r1 r2 =>
          unfold bindT at e
          obtain ⟨ρ1, e1, e2⟩ := Option.bind_eq_some_iff.mp e
          refine ⟨v, vs, rfl, t, ρ, fs, d, f1, ρ1, st, r1, ts.le fun a => Nat.le_add_right _ _, fun a z => pv a (fa_left z), e1, fun σ1 fs1 b1 c1 o1 => ?_⟩
          refine ⟨t, ρ1, fs1, ds, f2, ρ', b1.st, r2, ts.next b1 c1, fun a z => pv a (fa_right z), e2, fun σ2 fs2 b2 c2 o2 => ?_⟩
          exact q σ2 fs2 (b1.trans b2) (fun et a => Nat.le_trans (c2 et a) (c1 et a)) (o1.trans o2)
    refine ⟨fun e h => ?_, tp⟩
    have h0 := h
    unfold chkg at h
    split at h
    · exact pg_of_pgs g h0 (fun _ _ z => by cases z) (tp _ _ _ h0)
    · cases h
end
end Ev
end

section
set_option Elab.async false
set_option linter.all false
set_option maxRecDepth 100000
set_option maxHeartbeats 1000000
/-! Expressions, one form at a time. -/
namespace Ev
open PySem L2

/-! ### no star, no `super` -/
section
variable {I : Info} {rd wr : Scope}
theorem chk_plain {m : ME} {e : Expr} (h : chk I rd wr m e = true) (es : List Expr) (env : Env) : starEach (e :: es) env = (false, eval e env) :: starEach es env := by
  cases e <;> first | rfl | (exfalso; cases m <;> simp [chk] at h)
theorem chks_star : ∀ {as : MEs} {es : List Expr}, chks I rd wr as es = true → ∀ env, starEach es env = es.map fun e => (false, eval e env)
  | .nil, [], _, _ => rfl
  | .nil, _ :: _, h, _ => by simp [chks] at h
  | .cons _ _, [], h, _ => by simp [chks] at h
  | .cons a as, e :: es, h, env => by
    have h' : chk I rd wr a e = true ∧ chks I rd wr as es = true := by simpa [chks] using h
    rw [chk_plain h'.1, chks_star h'.2]
    rfl
theorem back_plain {es : List Expr} {env : Env} {pos : Pos} (h : starEach es env = es.map fun e => (false, eval e env)) : (backTo pos (starEach es env)).any (·.1) = false := by
  rw [h]
  unfold backTo
  induction es with
  | nil => rfl
  | cons e es ih => simp
theorem base_plain {o : Expr} {nm : Str} {env : Env} (h : plainO o = true) (w : Sem Value) : attributeBase o nm env w = w := by
  cases o <;> first | rfl | cases h
theorem chks_len : ∀ {as : MEs} {es : List Expr}, chks I rd wr as es = true → as.slots.length = es.length
  | .nil, [], _ => rfl
  | .nil, _ :: _, h => by simp [chks] at h
  | .cons _ _, [], h => by simp [chks] at h
  | .cons a as, e :: es, h => by
    have h' : chk I rd wr a e = true ∧ chks I rd wr as es = true := by simpa [chks] using h
    simp [MEs.slots, chks_len h'.2]
end
theorem VarOk.len {σ : St} : ∀ {vas : List (Option Nat)} {xs : List V}, VarOk σ vas xs → xs.length = vas.length
  | _, _, .nil => rfl
  | _, _, .cons _ h => by simp [h.len]

theorem PE.weak {X : Cx} {e : Expr} {t t' : TE} (h : PE X e t) (q : ∀ σ H Q, t' σ H Q → t σ H Q) : PE X e t' := ⟨fun pins s σ H Q I hq => h.run pins s σ H Q I (q σ H Q hq)⟩
theorem PT.weak {X : Cx} {e : Expr} {t t' : TT} (h : PT X e t) (q : ∀ σ H Q, t' σ H Q → t σ H Q) : PT X e t' := ⟨fun pins s σ H Q I hq => h.run pins s σ H Q I (q σ H Q hq)⟩
theorem PW.weak {X : Cx} {e : Expr} {t t' : TT} (h : PW X e t) (q : ∀ σ H Q, t' σ H Q → t σ H Q) : PW X e t' := ⟨fun wh pins s σ H Q I hq => h.run wh pins s σ H Q I (q σ H Q hq)⟩
theorem PA.weak {X : Cx} {e : List Expr} {t t' : TA} (h : PA X e t) (q : ∀ σ H Q, t' σ H Q → t σ H Q) : PA X e t' := ⟨fun p pins s σ H Q I hq => h.run p pins s σ H Q I (q σ H Q hq)⟩

section
variable {G : Tab} {C : Nat → Option D} {exV : Nat → Value} {B : Bs} {W : WX} {σ : St} {H : Hp} {ρ : En} {fs : List FP}
theorem then_e {m : ME} {α : Type} {k : RV → En → R α} {K : α → En → Prop} {Q : VK} (st : StR B σ H ρ fs) (h : RunR exV B W σ H ρ fs ((ev G C m ρ).bind k) K)
    (hq : ∀ v ρ1 x H1 f fs1, PostE B σ H ρ fs m.pure m.slot? v x H1 f ρ1 fs1 → RunR exV B W σ H1 ρ1 fs1 (k v ρ1) K → Q x H1) : tEv G C exV B W m σ H Q :=
  ⟨ρ, fs, st, (RunR.bind h).mono fun v ρ' q x H' f fs' P => hq v ρ' x H' f fs' P (q.later P.stp)⟩
theorem then_s {m : MEs} {α : Type} {k : List RV → En → R α} {K : α → En → Prop} {Q : List V → Hp → Prop} (st : StR B σ H ρ fs) (h : RunR exV B W σ H ρ fs ((evs G C m ρ).bind k) K)
    (hq : ∀ vs ρ1 xs H1 gs fs1, PostA B σ H ρ fs m.pure m.slots vs xs H1 gs ρ1 fs1 → RunR exV B W σ H1 ρ1 fs1 (k vs ρ1) K → Q xs H1) : tEvs G C exV B W m σ H Q :=
  ⟨ρ, fs, st, (RunR.bind h).mono fun v ρ' q x H' f fs' P => hq v ρ' x H' f fs' P (q.later P.stp)⟩
theorem then_t {m : MT} {α : Type} {k : Bool → En → R α} {K : α → En → Prop} {Q : Bool → Hp → Prop} (st : StR B σ H ρ fs) (h : RunR exV B W σ H ρ fs ((evt G C m ρ).bind k) K)
    (hq : ∀ b ρ1 H1 fs1, Step B σ H ρ fs m.pure H1 ρ1 fs1 → RunR exV B W σ H1 ρ1 fs1 (k b ρ1) K → Q b H1) : tEvt G C exV B W m σ H Q :=
  ⟨ρ, fs, st, (RunR.bind h).mono fun v ρ' q H' fs' P => hq v ρ' H' fs' P (q.later P)⟩
/-- what an expression's end asks -/
abbrev KE (B : Bs) (σ : St) (H : Hp) (ρ : En) (fs : List FP) (p : Bool) (va : Option Nat) (Q : VK) (v : RV) (ρ' : En) : Prop := ∀ x H' f fs', PostE B σ H ρ fs p va v x H' f ρ' fs' → Q x H'
theorem res_of {p : Bool} {Q : VK} {r : RV} {H2 : Hp} {ρ2 : En} {fs2 : List FP} (S : Step B σ H ρ fs p H2 ρ2 fs2) (k : KE B σ H ρ fs p none Q r ρ2) : Res B H ρ fs ρ2 fs2 r H2 Q :=
  fun z H3 k' sm rep tg pv => k z H3 k' fs2 ⟨S.andSame sm, rep, tg, pv, fun _ e => nomatch e⟩
/-- an end told from an earlier start -/
theorem KE.late {p q : Bool} {va : Option Nat} {Q : VK} {v : RV} {H1 : Hp} {ρ1 ρ2 : En} {fs1 : List FP} (S : Step B σ H ρ fs p H1 ρ1 fs1) (k : KE B σ H ρ fs (p && q) none Q v ρ2) : KE B σ H1 ρ1 fs1 q va Q v ρ2 :=
  fun x H' f fs' P => k x H' f fs' ⟨S.trans P.stp, P.rep, P.tag.back S, P.prov, fun _ e => nomatch e⟩
theorem KE.late' {p q r : Bool} {va : Option Nat} {Q : VK} {v : RV} {H1 : Hp} {ρ1 ρ2 : En} {fs1 : List FP} (S : Step B σ H ρ fs p H1 ρ1 fs1) (k : KE B σ H ρ fs r none Q v ρ2) (h : r = true → p = true ∧ q = true) : KE B σ H1 ρ1 fs1 q va Q v ρ2 :=
  fun x H' f fs' P => k x H' f fs' ⟨(S.trans P.stp).weak fun e => by obtain ⟨e1, e2⟩ := h e; rw [e1, e2]; rfl, P.rep, P.tag.back S, P.prov, fun _ e => nomatch e⟩
theorem two_of {p q : Bool} {va vb : Option Nat} {v w : RV} {x y : V} {f g : FP} {H1 H2 : Hp} {ρ1 ρ2 : En} {fs1 fs2 : List FP} (P1 : PostE B σ H ρ fs p va v x H1 f ρ1 fs1) (hw : waits v.t q = true) (P2 : PostE B σ H1 ρ1 fs1 q vb w y H2 g ρ2 fs2) :
    Step B σ H ρ fs (p && q) H2 ρ2 fs2 ∧ Two B σ H ρ fs H2 ρ2 fs2 x y v w f g := by
  have A := PostA.cons P1 (PostA.one P2) hw
  obtain ⟨f', g', e, T⟩ := A.two
  cases e
  exact ⟨A.stp, T⟩
end

section
variable {I : Info} {G : Tab} {C : Nat → Option D} {exV : Nat → Value} {B : Bs} {k : Nat} {rd wr : Scope} {W : WX} {X : Cx} {pos : Pos}
theorem at_some {ρ : En} {i : Nat} {v : SV} (h : ρ.at i = some v) : ρ[i]? = some (some v) := by
  unfold En.at at h
  split at h
  · rename_i w e
    cases h
    exact e
  · cases h
theorem slot_vis (g : Gd I G C exV B k rd wr W X) {i : Nat} {x : Str} (h : slotB I rd i x = true) : X.N[i]? = some x ∧ Vis X.env.scope x ∧ (x == ("__debug__" : Str)) = false ∧ (x == ("__classdict__" : Str)) = false := by
  unfold slotB at h
  simp only [Bool.and_eq_true, decide_eq_true_eq, Bool.not_eq_true'] at h
  exact ⟨by rw [g.eN]; exact h.1.1.1, by rw [g.esc]; exact seen_vis h.1.1.2, h.1.2, h.2⟩
theorem var_tag {σ : St} {H H' : Hp} {ρ ρ0 : En} {fs fs0 : List FP} {i : Nat} {s : ST} {d : D} {f : FP} (st : StR B σ H ρ fs) (e : ρ[i]? = some (some ⟨s, d⟩)) (ef : fs[i]? = some f) (him : s = .im → f = fz) : TagOk H' ρ0 fs0 ρ fs (s.rt i) f := by
  cases s with
  | im => exact him rfl
  | vl =>
    intro a z
    refine Nat.eq_zero_of_not_pos fun y => ?_
    have h1 := st.mn a y
    have h2 : f a ≤ sumOf frz ρ fs a := sum_ge frz e ef a
    omega
  | mu => exact fun a z y => ⟨f, ef, z⟩
  | rf => exact fun a z y => ⟨f, ef, z⟩
  | lk => exact fun a z y => ⟨f, ef, z⟩
theorem nrm_d (v : RV) : v.nrm.d = v.d := by unfold RV.nrm; split <;> rfl
theorem nrm_tag {H' : Hp} {ρ ρ0 : En} {fs fs0 : List FP} {v : RV} {x : V} {f : FP} {H2 : Hp} (r : Rep B.P B.w B.K H2 x v.d f) (t : TagOk H' ρ0 fs0 ρ fs v.t f) : TagOk H' ρ0 fs0 ρ fs v.nrm.t f := by
  unfold RV.nrm
  split
  · rename_i c
    exact r.imm c
  · exact t
theorem ok_var (g : Gd I G C exV B k rd wr W X) {i : Nat} {x : Str} (h : slotB I rd i x = true) : PE X (.Name x pos) (tEv G C exV B W (.var i)) := by
  obtain ⟨h1, h2, h3, h4⟩ := slot_vis g h
  refine PE.weak (pe_var h1 h2 h3 h4) fun σ H Q q => ?_
  obtain ⟨ρ, fs, st, q⟩ := q
  unfold ev at q
  split at q
  · rename_i s d e
    have e := at_some e
    obtain ⟨o, f, ho, hf, sl⟩ := st.sl.get e
    cases sl with
    | val r him =>
      exact ⟨_, ho, q _ H f fs ⟨.refl st, by rw [nrm_d]; exact r, nrm_tag (v := ⟨s.rt i, d⟩) r (var_tag st e hf him), st.b3 f (List.mem_of_getElem? hf), fun j ej => by cases ej; exact ho⟩⟩
  · exact q.elim
theorem sum_del (p : ST → Bool) {ρ : En} {fs : List FP} {i : Nat} {s : Option SV} {f : FP} (e1 : ρ[i]? = some s) (e2 : fs[i]? = some f) (a : Addr) : sumOf p (ρ.set i none) (fs.set i fz) a + ctr p s f a = sumOf p ρ fs a :=
  sum_set p ρ fs i s none f fz e1 e2 a
/-- a slot that is not locked is forgotten -/
theorem del_step {σ : St} {H : Hp} {ρ : En} {fs : List FP} {i : Nat} {s : SV} {f : FP} (st : StR B σ H ρ fs) (e : ρ[i]? = some (some s)) (ef : fs[i]? = some f) (hl : s.t ≠ .lk) : Step B σ H ρ fs false H (ρ.set i none) (fs.set i fz) := by
  have S := fun p a => sum_del p e ef a
  refine ⟨⟨st.sl.del i, fun a => ?_, fun a z => ?_, st.b1, st.b2, fun f' hf a z => ?_, fun a z => ?_⟩, ⟨fun _ _ h _ => h, fun _ h => h, fun a z => ?_, fun a z => ?_⟩, fun a => ?_, fun j d ej => ?_, (fun z => nomatch z), fun j d ej => ⟨d, by
    by_cases q : i = j
    · subst q
      rw [List.getElem?_set_self (List.getElem?_eq_some_iff.mp e).1] at ej
      cases ej
    · rw [List.getElem?_set_ne q] at ej; exact ej⟩⟩
  · have := S own a; have := st.m1 a; omega
  · have h1 := S own a
    have h2 := S frz a
    have := st.mn a (by omega)
    omega
  · rcases List.mem_or_eq_of_mem_set hf with hf | rfl
    · exact st.b3 f' hf a z
    · exact absurd z (Nat.lt_irrefl _)
  · have h1 := S own a
    exact st.b4 a (by omega)
  · have h1 := S own a
    exact .inl (by omega)
  · have h1 := S chg a
    exact .inl (by omega)
  · have h1 := S frz a; omega
  · have ne : i ≠ j := fun q => by
      subst q
      rw [e] at ej
      have := Option.some.inj (Option.some.inj ej)
      exact hl (by rw [this])
    exact ⟨by rw [List.getElem?_set_ne ne]; exact ej, by rw [List.getElem?_set_ne ne]⟩
theorem ok_mv (g : Gd I G C exV B k rd wr W X) {i : Nat} {x : Str} (h : slotB I rd i x = true) : PE X (.Name x pos) (tEv G C exV B W (.mv i)) := by
  obtain ⟨h1, h2, h3, h4⟩ := slot_vis g h
  refine PE.weak (pe_var h1 h2 h3 h4) fun σ H Q q => ?_
  obtain ⟨ρ, fs, st, q⟩ := q
  unfold ev at q
  split at q
  · rename_i d e
    have e := at_some e
    obtain ⟨o, f, ho, hf, sl⟩ := st.sl.get e
    cases sl with
    | val r him =>
      refine ⟨_, ho, q _ H f (fs.set i fz) ⟨del_step st e hf (fun z => nomatch z), r, fun a => ?_, st.b3 f (List.mem_of_getElem? hf), fun _ z => nomatch z⟩⟩
      have h0 : f a ≤ sumOf own ρ fs a := sum_ge own e hf a
      have h1 := st.m1 a
      refine ⟨by omega, fun z => ?_⟩
      have h2 := sum_del own e hf a
      have h3 := sum_del frz e hf a
      have h4 := st.mn a (by omega)
      have h5 : ctr own (some ⟨.mu, d⟩) f a = f a := rfl
      refine ⟨?_, ?_, .inr (by omega)⟩
      · show sumOf own (ρ.set i none) (fs.set i fz) a = 0
        omega
      · show sumOf frz (ρ.set i none) (fs.set i fz) a = 0
        omega
  · exact q.elim
theorem imm_end {σ : St} {H : Hp} {ρ : En} {fs : List FP} {Q : VK} {t : RT} {d : D} {x : V} {p : Bool} {H2 : Hp} {ρ2 : En} {fs2 : List FP} (S : Step B σ H ρ fs p H2 ρ2 fs2) (q : KE B σ H ρ fs p none Q ⟨t, d⟩ ρ2) (r : Rep B.P B.w B.K H2 x d fz) : Q x H2 :=
  q x H2 fz fs2 ⟨S, r, TagOk.fz, fun a z => absurd z (Nat.lt_irrefl _), fun _ e => nomatch e⟩
theorem ok_lit {d : D} {e : Expr} (h : chk I rd wr (.lit d) e = true) : PE X e (tEv G C exV B W (.lit d)) := by
  have fin : ∀ {x : V}, (∀ H, Rep B.P B.w B.K H x d fz) → PE X e (tC x) → PE X e (tEv G C exV B W (.lit d)) := fun {x} r h => PE.weak h fun σ H Q q => by
    obtain ⟨ρ, fs, st, q⟩ := q
    unfold ev at q
    exact imm_end (Step.refl st) q (r H)
  unfold chk at h
  split at h
  · have e0 := of_decide_eq_true h; subst e0
    exact fin (fun H => .int _) pe_int
  · have e0 := of_decide_eq_true h; subst e0
    exact fin (fun H => .str _) pe_str
  · have e0 := eq_of_beq h; subst e0
    exact fin (fun H => .bl _) pe_bl
  · exact fin (fun H => .non) pe_non
  · cases h
theorem ok_glob (g : Gd I G C exV B k rd wr W X) {n : Nat} {x : Str} (h1 : I.gls[n]? = some x) (h2 : glob rd x = true) : PE X (.Name x pos) (tEv G C exV B W (.glob n)) := by
  obtain ⟨d, u, v, e1, e2, e3, e4, _⟩ := g.glo n x h1
  obtain ⟨g1, g2⟩ := glob_gl g.esc h2
  refine PE.weak (pe_glob g1 e2 e3 g2) fun σ H Q q => ?_
  obtain ⟨ρ, fs, st, q⟩ := q
  unfold ev at q
  rw [e1] at q
  exact imm_end (Step.refl st) q (e4 H)
theorem res_args {p : Bool} {σ : St} {H : Hp} {ρ : En} {fs : List FP} {vas : List (Option Nat)} {vs : List RV} {xs : List V} {H2 : Hp} {gs : List FP} {ρ2 : En} {fs2 : List FP} {Q : VK} {r : RV} (A : PostA B σ H ρ fs p vas vs xs H2 gs ρ2 fs2) (q : KE B σ H ρ fs p none Q r ρ2) : Res B H ρ fs ρ2 fs2 r H2 Q := res_of A.stp q
theorem ok_tup {as : MEs} {es : List Expr} {n : Nat} (ha : PA X es (tEvs G C exV B W as)) (hl : as.slots.length = es.length) (hb : es.length ≤ 1000) : PE X (.Tuple es n pos) (tEv G C exV B W (.tup as)) := by
  refine PE.weak (pe_tup ha) fun σ H Q q => ?_
  obtain ⟨ρ, fs, st, q⟩ := q
  unfold ev at q
  refine then_s st q fun vs ρ1 xs H1 gs fs1 A q => ?_
  obtain ⟨r, e, q⟩ := q.of
  obtain ⟨t, e1, rfl⟩ := Option.map_eq_some_iff.mp e
  refine ⟨by rw [A.vr.len, hl, sizeLine_eq]; omega, fun p hp => ?_⟩
  exact Res.tup (res_args A q) A.reps.repL (sum_tag A.reps e1 A.ap) A.reps.prov p hp
theorem ok_lst {as : MEs} {es : List Expr} (ha : PA X es (tEvs G C exV B W as)) (hl : as.slots.length = es.length) (hb : es.length ≤ 1000) : PE X (.List es pos) (tEv G C exV B W (.lst as)) := by
  refine PE.weak (pe_lst ha) fun σ H Q q => ?_
  obtain ⟨ρ, fs, st, q⟩ := q
  unfold ev at q
  refine then_s st q fun vs ρ1 xs H1 gs fs1 A q => ?_
  obtain ⟨r, e, q⟩ := q.of
  obtain ⟨t, e1, rfl⟩ := Option.map_eq_some_iff.mp e
  refine ⟨by rw [A.vr.len, hl, sizeLine_eq]; omega, fun p hp => ?_⟩
  exact Res.list A.stp.st A.stp.fr.live (res_args A q) A.reps.repL (sum_tag A.reps e1 A.ap) A.reps.prov p hp
theorem ok_nil : PA X [] (tEvs G C exV B W .nil) := PA.weak pa_nil fun σ H Q q => by
  obtain ⟨ρ, fs, st, q⟩ := q
  unfold evs at q
  exact q [] H [] fs (PostA.nil st)
theorem ok_cons {a : ME} {as : MEs} {e : Expr} {es : List Expr} (h : chk I rd wr a e = true) (ha : PE X e (tEv G C exV B W a)) (hr : PA X es (tEvs G C exV B W as)) : PA X (e :: es) (tEvs G C exV B W (.cons a as)) := by
  refine PA.weak (pa_cons ha hr (chk_plain h es X.env)) fun σ H Q q => ?_
  obtain ⟨ρ, fs, st, q⟩ := q
  unfold evs at q
  refine then_e st q fun v ρ1 x H1 f fs1 P q => ?_
  obtain ⟨hw, q⟩ := q.ite
  refine then_s P.stp.st q fun vs ρ2 xs H2 gs fs2 A q => ?_
  exact q (x :: xs) H2 (f :: gs) fs2 (PostA.cons P A hw)
theorem ok_dic0 (g : Gd I G C exV B k rd wr W X) : PE X (.Dict [] [] pos) (tEv G C exV B W .dic0) := by
  refine PE.weak pe_dicNew fun σ H Q q => ?_
  obtain ⟨ρ, fs, st, q⟩ := q
  unfold ev at q
  intro p hp hs
  rw [g.eP, g.ew]
  refine q (.ref p) _ (Ev.fs p) fs ⟨Step.same st (same_upd hp), (Rep.dicT (xs := []) (ks := []) (vs := []) upd_same hs (Nat.zero_le _) rfl rfl rfl .nil .nil .nil).cast fun _ => rfl, ?_, fun a z => ?_, fun _ e => nomatch e⟩
  · exact TagOk.new (t := .im) (f := fz) st.sl (fun _ h => h) hp (fun a z => absurd z (Nat.lt_irrefl _)) rfl
  · rw [fs_pos z]; exact .inl (st.b2' hp)
theorem op_of {o : BinO} {op : Operator} (h : opB o op = true) : op = o.op := by cases o <;> cases op <;> first | rfl | cases h
theorem cmp_of {o : CmpO} {op : CmpOp} (h : cmpB o op = true) : op = o.op := by cases o <;> cases op <;> first | rfl | cases h
theorem ok_bin (g : Gd I G C exV B k rd wr W X) {o : BinO} {op : Operator} {a b : ME} {x y : Expr} (h : opB o op = true) (ha : PE X x (tEv G C exV B W a)) (hb : PE X y (tEv G C exV B W b)) : PE X (.BinOp x op y pos) (tEv G C exV B W (.bin o a b)) := by
  rw [op_of h]
  refine PE.weak (pe_op (bin_rule o) ha hb) fun σ H Q q => ?_
  obtain ⟨ρ, fs, st, q⟩ := q
  unfold ev at q
  refine then_e st q fun v ρ1 x H1 f fs1 P q => ?_
  obtain ⟨hw, q⟩ := q.ite
  refine then_e P.stp.st q fun w ρ2 y H2 f2 fs2 P2 q => ?_
  obtain ⟨r, e, q⟩ := q.of
  obtain ⟨S, T⟩ := two_of P hw P2
  rw [g.eK]
  exact opD_ok T e (res_of S q)
theorem ok_neg {a : ME} {x : Expr} (ha : PE X x (tEv G C exV B W a)) : PE X (.UnaryOp .USub x pos) (tEv G C exV B W (.neg a)) := by
  refine PE.weak (pe_un un_neg ha) fun σ H Q q => ?_
  obtain ⟨ρ, fs, st, q⟩ := q
  unfold ev at q
  refine then_e st q fun v ρ1 x H1 f fs1 P q => ?_
  obtain ⟨r, e, q⟩ := q.of
  split at e
  · rename_i i ei
    cases e
    have rp := P.rep
    rw [ei] at rp
    cases rp
    exact ⟨i, rfl, imm_end P.stp q (.int _)⟩
  · cases e
theorem ok_not {a : ME} {x : Expr} (ha : PE X x (tEv G C exV B W a)) : PE X (.UnaryOp .Not x pos) (tEv G C exV B W (.not a)) := by
  refine PE.weak (pe_not ha) fun σ H Q q => ?_
  obtain ⟨ρ, fs, st, q⟩ := q
  unfold ev at q
  refine then_e st q fun v ρ1 x H1 f fs1 P q => ?_
  obtain ⟨r, e, q⟩ := q.of
  split at e
  · rename_i i ei
    cases e
    have rp := P.rep
    rw [ei] at rp
    cases rp
    exact ⟨i, rfl, imm_end P.stp q (.bl _)⟩
  · cases e
theorem chk_mark {m : ME} {e : Expr} (h : chk I rd wr m e = true) (op : CmpOp) : behindInMarks op e = false := by
  cases e <;> first | rfl | (exfalso; cases m <;> simp [chk] at h)
theorem tEv_mono {m : ME} {σ : St} {H : Hp} {Q Q' : VK} (h : tEv G C exV B W m σ H Q) (q : ∀ x H, Q x H → Q' x H) : tEv G C exV B W m σ H Q' := by
  obtain ⟨ρ, fs, st, h⟩ := h
  exact ⟨ρ, fs, st, h.mono fun v ρ1 h x H' f fs' P => q _ _ (h x H' f fs' P)⟩
theorem rd_mono {o : CmpO} {bb : BB} {x y : V} {H : Hp} {Q Q' : VK} (h : o.rd bb x y H Q) (q : ∀ k, Q (.bl k) H → Q' (.bl k) H) : o.rd bb x y H Q' := by
  obtain ⟨a, b, f, g, k, h1, h2, h3, h4⟩ := h
  exact ⟨a, b, f, g, k, h1, h2, h3, q k h4⟩
theorem cmp_read (g : Gd I G C exV B k rd wr W X) {o : CmpO} {a b : ME} {σ : St} {H : Hp} {Q : VK} (q : tEv G C exV B W (.cmp o a b) σ H Q) : tOp (o.rd (X.prog, X.w, X.K)) (tEv G C exV B W a) (tEv G C exV B W b) σ H Q := by
  obtain ⟨ρ, fs, st, q⟩ := q
  unfold ev at q
  refine then_e st q fun v ρ1 x H1 f fs1 P q => ?_
  obtain ⟨hw, q⟩ := q.ite
  refine then_e P.stp.st q fun w ρ2 y H2 f2 fs2 P2 q => ?_
  obtain ⟨r, e, q⟩ := q.of
  obtain ⟨c, e1, rfl⟩ := Option.map_eq_some_iff.mp e
  obtain ⟨S, T⟩ := two_of P hw P2
  refine ⟨v.d, w.d, f, f2, c, ?_, ?_, e1, imm_end S q (.bl _)⟩
  · show Rep X.prog X.w X.K _ _ _ _
    rw [g.eP, g.ew, g.eK]; exact T.r1
  · show Rep X.prog X.w X.K _ _ _ _
    rw [g.eP, g.ew, g.eK]; exact T.r2
theorem ok_cmp (g : Gd I G C exV B k rd wr W X) {o : CmpO} {op : CmpOp} {a b : ME} {x y : Expr} (h : cmpB o op = true) (hy : chk I rd wr b y = true) (ha : PE X x (tEv G C exV B W a)) (hb : PE X y (tEv G C exV B W b)) : PE X (.Compare x [op] [y] pos) (tEv G C exV B W (.cmp o a b)) := by
  rw [cmp_of h]
  exact PE.weak (pe_cmpR (cmp_rule (by have := g.room.un; omega) o) ha hb (chk_mark hy _)) fun σ H Q q => cmp_read g q
theorem chn_read (g : Gd I G C exV B k rd wr W X) {o o' : CmpO} {a b c : ME} {σ : St} {H : Hp} {Q : VK} (q : tEv G C exV B W (.chn o o' a b c) σ H Q) : tChain (o.rd (X.prog, X.w, X.K)) (o'.rd (X.prog, X.w, X.K)) (tEv G C exV B W a) (tEv G C exV B W b) (tEv G C exV B W c) σ H Q := by
  obtain ⟨ρ, fs, st, q⟩ := q
  unfold ev at q
  refine then_e st q fun v ρ1 x H1 f fs1 P q => ?_
  obtain ⟨hw, q⟩ := q.ite
  refine then_e P.stp.st q fun w ρ2 y H2 f2 fs2 P2 q => ?_
  obtain ⟨S, T⟩ := two_of P hw P2
  have rr : ∀ {b}, cmpD o v.d w.d = some b → ∀ {Q : VK}, Q (.bl b) H2 → o.rd (X.prog, X.w, X.K) x y H2 Q := fun {b} e {Q} q => by
    refine ⟨v.d, w.d, f, f2, b, ?_, ?_, e, q⟩
    · show Rep X.prog X.w X.K _ _ _ _
      rw [g.eP, g.ew, g.eK]; exact T.r1
    · show Rep X.prog X.w X.K _ _ _ _
      rw [g.eP, g.ew, g.eK]; exact T.r2
  split at q
  · exact q.elim
  · rename_i e
    refine rr e ⟨false, rfl, ?_⟩
    rw [if_neg (by decide)]
    refine imm_end (S.weak ?_) q (.bl _)
    intro z
    simp only [ME.pure, Bool.and_eq_true] at z ⊢
    exact ⟨z.1.1, z.1.2⟩
  · rename_i e
    refine rr e ⟨true, rfl, ?_⟩
    rw [if_pos rfl]
    obtain ⟨hw2, q⟩ := q.ite
    refine then_e P2.stp.st q fun u ρ3 z H3 f3 fs3 P3 q => ?_
    obtain ⟨r, e2, q⟩ := q.of
    obtain ⟨c2, e3, rfl⟩ := Option.map_eq_some_iff.mp e2
    obtain ⟨S2, T2⟩ := two_of P2 hw2 P3
    refine ⟨w.d, u.d, f2, f3, c2, ?_, ?_, e3, imm_end ((P.stp.trans S2).weak ?_) q (.bl _)⟩
    · show Rep X.prog X.w X.K _ _ _ _
      rw [g.eP, g.ew, g.eK]; exact T2.r1
    · show Rep X.prog X.w X.K _ _ _ _
      rw [g.eP, g.ew, g.eK]; exact T2.r2
    · intro z
      simp only [ME.pure, Bool.and_eq_true] at z ⊢
      exact ⟨z.1.1, z.1.2, z.2⟩
theorem ok_chn (g : Gd I G C exV B k rd wr W X) {o o' : CmpO} {op op' : CmpOp} {a b c : ME} {x y z : Expr} (h : cmpB o op = true) (h' : cmpB o' op' = true) (hz : chk I rd wr c z = true) (ha : PE X x (tEv G C exV B W a)) (hb : PE X y (tEv G C exV B W b)) (hc : PE X z (tEv G C exV B W c)) :
    PE X (.Compare x [op, op'] [y, z] pos) (tEv G C exV B W (.chn o o' a b c)) := by
  rw [cmp_of h, cmp_of h']
  have hu : X.A.units + 70 < cLine := by have := g.room.un; omega
  exact PE.weak (pe_chain (cmp_rule hu o) (cmp_rule hu o') ha hb hc (by show behindInMarks o'.op z = false; exact chk_mark hz _)) fun σ H Q q => chn_read g q
/-! ### tests -/
/-- a value's truth -/
def truX (x : V) (H : Hp) (k : Bool) : Prop := x = .bl k ∨ (∃ i, x = .int i ∧ k = (i != 0)) ∨ (x = .non ∧ k = false) ∨ ∃ p, x = .ref p ∧ ((∃ xs, H p = some (.lst xs) ∧ k = !xs.isEmpty) ∨ ∃ xs, SqT B.K H p xs ∧ k = !xs.isEmpty)
theorem empty_len {vs : List V} {ds : List D} (h : vs.length = ds.length) : vs.isEmpty = ds.isEmpty := by
  cases vs <;> cases ds <;> first | rfl | cases h
theorem val_read {m : ME} {σ : St} {H : Hp} {Q : Bool → Hp → Prop} (q : tEvt G C exV B W (.val m) σ H Q) : tEv G C exV B W m σ H fun x H1 => ∃ k, truX (B := B) x H1 k ∧ Q k H1 := by
  obtain ⟨ρ, fs, st, q⟩ := q
  unfold evt at q
  refine then_e st q fun v ρ1 x H1 f fs1 P q => ?_
  obtain ⟨b, e, q⟩ := q.of
  have q := q H1 fs1 P.stp
  refine ⟨b, ?_, q⟩
  have r := P.rep
  unfold truD at e
  split at e
  · rename_i ed
    rw [ed] at r; cases r; cases e; exact .inr (.inr (.inl ⟨rfl, rfl⟩))
  · rename_i ed
    rw [ed] at r; cases r; cases e; exact .inl rfl
  · rename_i ed
    rw [ed] at r; cases r; cases e; exact .inr (.inl ⟨_, rfl, rfl⟩)
  · rename_i ed
    rw [ed] at r; cases e
    obtain ⟨a, vs, g, rfl, h1, l, _⟩ := lst_inv r
    exact .inr (.inr (.inr ⟨a, rfl, .inl ⟨vs, h1, by rw [empty_len l.length]⟩⟩))
  · rename_i ed
    rw [ed] at r; cases e
    obtain ⟨a, vs, rfl, h1, l⟩ := tup_inv r
    exact .inr (.inr (.inr ⟨a, rfl, .inr ⟨vs, h1, by rw [empty_len l.length]⟩⟩))
  · cases e
theorem truX_bl {b k : Bool} {H : Hp} (h : truX (B := B) (.bl b) H k) : b = k := by
  rcases h with h | ⟨i, h, _⟩ | ⟨h, _⟩ | ⟨p, h, _⟩
  · cases h; rfl
  · cases h
  · cases h
  · cases h
theorem truX_v {x : V} {k : Bool} {H : Hp} (h : truX (B := B) x H k) : TruV B.K x H k := by
  rcases h with h | ⟨i, h, h2⟩ | ⟨h, h2⟩ | ⟨p, h, h2⟩
  · subst h; rfl
  · subst h; exact h2
  · subst h; exact h2
  · subst h
    rcases h2 with ⟨xs, h1, h2⟩ | ⟨xs, h1, h2⟩
    · exact .inl ⟨xs, .inl (.inl h1), h2⟩
    · exact .inr (.inl ⟨xs, h1, h2⟩)
/-- a comparison as a test -/
theorem ok_cmpT (g : Gd I G C exV B k rd wr W X) {o : CmpO} {op : CmpOp} {a b : ME} {x y : Expr} (h : cmpB o op = true) (hy : chk I rd wr b y = true) (ha : PE X x (tEv G C exV B W a)) (hb : PE X y (tEv G C exV B W b)) : PT X (.Compare x [op] [y] pos) (tEvt G C exV B W (.val (.cmp o a b))) := by
  rw [cmp_of h]
  refine PT.weak (pt_cmpR (cmp_rule (by have := g.room.un; omega) o) ha hb (chk_mark hy _)) fun σ H Q q => ?_
  have q := cmp_read g (val_read q)
  refine tEv_mono q fun x1 H1 q => tEv_mono q fun y1 H2 q => rd_mono q fun k q => ?_
  obtain ⟨k', h1, h2⟩ := q
  exact ⟨k, rfl, by rw [truX_bl h1]; exact h2⟩
theorem ok_chnT (g : Gd I G C exV B k rd wr W X) {o o' : CmpO} {op op' : CmpOp} {a b c : ME} {x y z : Expr} (h : cmpB o op = true) (h' : cmpB o' op' = true) (hz : chk I rd wr c z = true) (ha : PE X x (tEv G C exV B W a)) (hb : PE X y (tEv G C exV B W b)) (hc : PE X z (tEv G C exV B W c)) :
    PT X (.Compare x [op, op'] [y, z] pos) (tEvt G C exV B W (.val (.chn o o' a b c))) := by
  rw [cmp_of h, cmp_of h']
  have hu : X.A.units + 70 < cLine := by have := g.room.un; omega
  refine PT.weak (pt_chain (cmp_rule hu o) (cmp_rule hu o') ha hb hc (by show behindInMarks o'.op z = false; exact chk_mark hz _)) fun σ H Q q => ?_
  have q := chn_read g (val_read q)
  refine tEv_mono q fun x1 H1 q => tEv_mono q fun y1 H2 q => rd_mono q fun k q => ?_
  obtain ⟨k', h1, q⟩ := q
  refine ⟨k', h1, ?_⟩
  cases k' with
  | true =>
    rw [if_pos rfl] at q ⊢
    exact tEv_mono q fun z1 H3 q => rd_mono q fun k2 ⟨k3, h2, h3⟩ => ⟨k2, rfl, by rw [truX_bl h2]; exact h3⟩
  | false =>
    rw [if_neg (by decide)] at q ⊢
    obtain ⟨k3, h2, h3⟩ := q
    exact ⟨false, rfl, by rw [truX_bl h2]; exact h3⟩
theorem ok_valT (g : Gd I G C exV B k rd wr W X) {m : ME} {e : Expr} (ha : PE X e (tEv G C exV B W m)) (he : ∀ whole, isTrue e X.env whole = (do let v ← whole; standAt e.pos; holding [v] (truthy v))) : PT X e (tEvt G C exV B W (.val m)) := by
  refine PT.weak (pt_truth ha he) fun σ H Q q => ?_
  refine tEv_mono (val_read q) fun x H1 ⟨k, h1, h2⟩ => ⟨k, ?_, h2⟩
  rw [g.eK]
  exact truX_v h1
theorem andT_read {a b : MT} {σ : St} {H : Hp} {Q : Bool → Hp → Prop} (q : tEvt G C exV B W (.and a b) σ H Q) : tAnd (tEvt G C exV B W a) (tEvt G C exV B W b) σ H Q := by
  obtain ⟨ρ, fs, st, q⟩ := q
  unfold evt at q
  refine then_t st q fun v ρ1 H1 fs1 S q => ?_
  cases v with
  | true =>
    rw [if_pos rfl] at q ⊢
    exact ⟨ρ1, fs1, S.st, q.mono fun _ _ z H2 fs2 S2 => z H2 fs2 (S.trans S2)⟩
  | false =>
    rw [if_neg (by decide)] at q ⊢
    exact q H1 fs1 (S.weak fun z => (Bool.and_eq_true_iff.mp z).1)
theorem orT_read {a b : MT} {σ : St} {H : Hp} {Q : Bool → Hp → Prop} (q : tEvt G C exV B W (.or a b) σ H Q) : tOr (tEvt G C exV B W a) (tEvt G C exV B W b) σ H Q := by
  obtain ⟨ρ, fs, st, q⟩ := q
  unfold evt at q
  refine then_t st q fun v ρ1 H1 fs1 S q => ?_
  cases v with
  | false =>
    rw [if_neg (by decide)] at q ⊢
    exact ⟨ρ1, fs1, S.st, q.mono fun _ _ z H2 fs2 S2 => z H2 fs2 (S.trans S2)⟩
  | true =>
    rw [if_pos rfl] at q ⊢
    exact q H1 fs1 (S.weak fun z => (Bool.and_eq_true_iff.mp z).1)
theorem notT_read {a : MT} {σ : St} {H : Hp} {Q : Bool → Hp → Prop} (q : tEvt G C exV B W (.not a) σ H Q) : tNot (tEvt G C exV B W a) σ H Q := by
  obtain ⟨ρ, fs, st, q⟩ := q
  unfold evt at q
  refine then_t st q fun v ρ1 H1 fs1 S q => ?_
  exact q H1 fs1 S
theorem and_read {a b : ME} {σ : St} {H : Hp} {Q : VK} (q : tEv G C exV B W (.and a b) σ H Q) : tAndV (tEv G C exV B W a) (tEv G C exV B W b) σ H Q := by
  obtain ⟨ρ, fs, st, q⟩ := q
  unfold ev at q
  refine then_e st q fun v ρ1 x H1 f fs1 P q => ?_
  split at q
  · rename_i ei
    have rp := P.rep
    rw [ei] at rp
    cases rp
    refine ⟨true, rfl, ?_⟩
    rw [if_pos rfl]
    exact ⟨ρ1, fs1, P.stp.st, q.mono fun _ _ z => KE.late P.stp z⟩
  · rename_i ei
    have rp := P.rep
    rw [ei] at rp
    cases rp
    refine ⟨false, rfl, ?_⟩
    rw [if_neg (by decide)]
    exact imm_end (P.stp.weak fun z => (Bool.and_eq_true_iff.mp z).1) q (.bl _)
  · exact q.elim
theorem or_read {a b : ME} {σ : St} {H : Hp} {Q : VK} (q : tEv G C exV B W (.or a b) σ H Q) : tOrV (tEv G C exV B W a) (tEv G C exV B W b) σ H Q := by
  obtain ⟨ρ, fs, st, q⟩ := q
  unfold ev at q
  refine then_e st q fun v ρ1 x H1 f fs1 P q => ?_
  split at q
  · rename_i ei
    have rp := P.rep
    rw [ei] at rp
    cases rp
    refine ⟨false, rfl, ?_⟩
    rw [if_neg (by decide)]
    exact ⟨ρ1, fs1, P.stp.st, q.mono fun _ _ z => KE.late P.stp z⟩
  · rename_i ei
    have rp := P.rep
    rw [ei] at rp
    cases rp
    refine ⟨true, rfl, ?_⟩
    rw [if_pos rfl]
    exact imm_end (P.stp.weak fun z => (Bool.and_eq_true_iff.mp z).1) q (.bl _)
  · exact q.elim
theorem ok_ite {c : MT} {a b : ME} {t x y : Expr} (hc : PT X t (tEvt G C exV B W c)) (ha : PE X x (tEv G C exV B W a)) (hb : PE X y (tEv G C exV B W b)) : PE X (.IfExp t x y pos) (tEv G C exV B W (.ite c a b)) := by
  refine PE.weak (pe_ifExp hc ha hb) fun σ H Q q => ?_
  obtain ⟨ρ, fs, st, q⟩ := q
  unfold ev at q
  refine then_t st q fun v ρ1 H1 fs1 S q => ?_
  cases v with
  | true =>
    rw [if_pos rfl] at q ⊢
    exact ⟨ρ1, fs1, S.st, q.mono fun _ _ z => KE.late' S z fun e => by
      simp only [ME.pure, Bool.and_eq_true] at e
      exact ⟨e.1.1, e.1.2⟩⟩
  | false =>
    rw [if_neg (by decide)] at q ⊢
    exact ⟨ρ1, fs1, S.st, q.mono fun _ _ z => KE.late' S z fun e => by
      simp only [ME.pure, Bool.and_eq_true] at e
      exact ⟨e.1.1, e.2⟩⟩
theorem chk_ix {m : ME} {e : Expr} (h : chk I rd wr m e = true) : PlainIx e := by
  intro o i
  cases e <;> first | rfl | (exfalso; cases m <;> simp [chk] at h)
end
end Ev
end

section
set_option Elab.async false
set_option linter.all false
set_option maxRecDepth 100000
set_option maxHeartbeats 1000000
/-! Slices backwards, of lists and of tuples. -/
namespace HT
open PySem PyProof.Rows
section
variable {prog : Program} {w : World} {A : Around} {E : Value → Shared → Prop} {s : Shared}
theorem adjust_rev (n : Nat) : Builtin.Slice.sliceAdjust none none (-1) (n : Int) = ((n : Int) - 1, -1) := by
  unfold Builtin.Slice.sliceAdjust
  simp
theorem places_rev (n : Nat) : Builtin.Slice.slicePlaces ((n : Int) - 1) (-1) (-1) = n := by
  unfold Builtin.Slice.slicePlaces
  have h1 : ¬ ((-1 : Int) > 0) := by decide
  have h2 : (-(-1) : Int) = 1 := by decide
  simp only [h1, if_false, h2, Int.ediv_one]
  split <;> omega
theorem sliceApplied_rev {sl : Addr} {vl vu vs : Value} {n : Nat} {Q : Int × Int × Nat → Shared → Prop} (hs : s.heap.IsSliceOf sl vl vu vs) (pl : IsPart vl none) (pu : IsPart vu none) (ps : IsPart vs (some (-1)))
    (h : Q ((n : Int) - 1, -1, n) s) : wpAny (model prog w) A (Builtin.Slice.sliceApplied (.ref sl) (pure (n : Int))) Q E s := by
  obtain ⟨os, hos, hcs, hds⟩ := id hs
  unfold Builtin.Slice.sliceApplied Builtin.Slice.sliceFields
  refine wpAny_bind (wpAny_bind (wpAny_field hos hds (x := vl) rfl (wpAny_bind (wpAny_field hos hds (x := vu) rfl (wpAny_bind (wpAny_field hos hds (x := vs) rfl (wpAny_pure ?_)))))))
  refine wpAny_bind (slicePart_ ps ?_)
  show wpAny _ _ (if ((-1 : Int) == 0) = true then _ else _) _ _ s
  rw [if_neg (by decide)]
  refine wpAny_bind (slicePart_ pl (wpAny_bind (slicePart_ pu (wpAny_bind (wpAny_pure ?_)))))
  show wpAny _ _ (match Builtin.Slice.sliceAdjust none none (-1) (n : Int) with | (lo, hi) => pure (lo, (-1 : Int), Builtin.Slice.slicePlaces lo hi (-1))) _ _ s
  rw [adjust_rev n]
  show wpAny _ _ (pure ((n : Int) - 1, (-1 : Int), Builtin.Slice.slicePlaces ((n : Int) - 1) (-1) (-1))) _ _ s
  rw [places_rev]
  exact wpAny_pure h
theorem fm_congr {α β : Type} (f g : α → Option β) : ∀ l : List α, (∀ x ∈ l, f x = g x) → l.filterMap f = l.filterMap g
  | [], _ => rfl
  | x :: xs, h => by
    have ih := fm_congr f g xs fun y hy => h y (List.mem_cons_of_mem _ hy)
    have h0 := h x List.mem_cons_self
    rw [List.filterMap_cons, List.filterMap_cons, h0, ih]
theorem pick_rev (xs : Array Value) : ((List.range xs.size).filterMap fun (m : Nat) => xs[(((xs.size : Int) - 1) + (m : Int) * (-1)).toNat]?).toArray = xs.toList.reverse.toArray := by
  have h1 : ((List.range xs.size).filterMap fun (m : Nat) => xs[(((xs.size : Int) - 1) + (m : Int) * (-1)).toNat]?) = ((List.range xs.size).map fun k => xs.size - 1 - k).filterMap (xs[·]?) := by
    rw [List.filterMap_map]
    refine fm_congr _ _ _ fun m hm => ?_
    have := List.mem_range.1 hm
    show xs[(((xs.size : Int) - 1) + (m : Int) * (-1)).toNat]? = xs[xs.size - 1 - m]?
    congr 1
    omega
  rw [h1, PySem.W.krv_range, List.filterMap_reverse, PySem.W.krv_all]
theorem getItem_tuple_rev {t sl : Addr} {items : Array Value} {vl vu vs : Value} {Q : Value → Shared → Prop} (ht : IsTup s.heap t items) (hs : s.heap.IsSliceOf sl vl vu vs) (pl : IsPart vl none) (pu : IsPart vu none) (ps : IsPart vs (some (-1)))
    (h : Q (.ref s.heap.objs.size) { s with heap := s.heap.push { cls := .type "tuple", data := .seq items.toList.reverse.toArray } })
    (hsz : items.size ≤ sizeLine) : wpAny (model prog w) A (getItem (.ref t) (.ref sl)) Q E s := by
  have htake : sizeOk (.seq items.toList.reverse.toArray) := by
    show items.toList.reverse.toArray.size ≤ sizeLine
    rw [List.size_toArray, List.length_reverse, Array.length_toList]
    omega
  obtain ⟨os, hos, hcs, hds⟩ := id hs
  have hTs : s.TypeIs (.ref sl) "slice" := ⟨os, hos, hcs⟩
  unfold getItem
  try with_reducible refine wpAny_holding ?_
  first | refine wpAny_bind (wpAny_pure ?_) | skip
  refine wpAny_bind (wpAny_sequenceKey ht.typeIs (by decide) ?_)
  refine wpAny_bind (wpAny_callSpecial?_slot (name := Str.ofString "__getitem__") ht.typeIs PyProof.Rows.slot_tuple_getitem
    (wpAny_call_entry PyProof.Rows.slot_tuple_getitem ht.typeIs entry_tuple_getitem ?_ (args_tuple_getitem _ _)))
  show wpAny _ _ (Builtin.Tuple.tupleItemsOf (.ref t) >>= _) _ _ s
  refine wpAny_bind (tupleItemsOf_ ht ?_)
  refine wpAny_bind (wpAny_typeOf hTs ?_)
  rw [if_pos (by decide)]
  refine wpAny_bind (sliceApplied_rev hs pl pu ps ?_)
  have hno : ¬ ((((items.size : Int) - 1) == 0 && (-1 : Int) == 1 && items.size == items.size) = true) := by
    intro q
    rw [Bool.and_eq_true, Bool.and_eq_true] at q
    exact absurd q.1.2 (by decide)
  show wpAny _ _ (if (((items.size : Int) - 1) == 0 && (-1 : Int) == 1 && items.size == items.size) = true then _ else _) _ _ s
  rw [if_neg hno, pick_rev]
  first
    | exact wpAny_bind (m := Builtin.Tuple.tupleExact _) (wpAny_newObj_type (wpAny_pure ⟨_, rfl, wpAny_pure h⟩) htake)
    | exact wpAny_bind (m := Builtin.Tuple.tupleExact _) (wpAny_newObj_type (wpAny_bind (wpAny_pure (wpAny_pure ⟨_, rfl, wpAny_pure h⟩))) htake)
    | exact wpAny_bind (wpAny_bind (m := Builtin.Tuple.tupleExact _) (wpAny_newObj_type (wpAny_pure (wpAny_pure ⟨_, rfl, wpAny_pure h⟩)) htake))
    | exact wpAny_bind (wpAny_bind (m := Builtin.Tuple.tupleExact _) (wpAny_newObj_type (wpAny_pure ⟨_, rfl, wpAny_pure h⟩) htake))
end
end HT
namespace L2
open PySem PySem.Spec PyProof.Rows
section
variable {X : Cx}
/-- a[::-1], a list or a tuple -/
def tRevB (K : PySem.W.Frag) (te : TE) : TE := fun σ H Q => te σ H fun x H1 => ∃ a xs, x = .ref a ∧ ((SqL K H1 a xs ∧ ∀ p, H1 p = none → Q (.ref p) (upd H1 p (.lst xs.reverse))) ∨ (SqT K H1 a xs ∧ ∀ p, H1 p = none → Q (.ref p) (upd H1 p (.tup xs.reverse))))
theorem pe_revB {e : Expr} {te : TE} {k : Nat} {p1 p2 p3 pos : Pos} (he : PE X e te) : PE X (.Subscript e (.Slice none none (some (.UnaryOp .USub (.Constant (.int 1) k p1) p2)) p3) pos) (tRevB X.K te) := by
  refine ⟨fun pins s σ H Q I h => ?_⟩
  refine Subscript_ (thn (he.run pins s σ H _ I h) fun v s1 ⟨x, H1, I1, r1, q1⟩ => ?_)
  obtain ⟨a, xs, ex, q⟩ := q1
  subst ex
  cases r1
  have hst : PO X (some (.UnaryOp .USub (.Constant (.int 1) k p1) p2)) (tPart (tUn (rU fun i => .int (-i)) (tC (.int 1)))) := po_some (pe_un un_neg pe_int)
  refine wpAny_Slice (thn (po_none.run pins s1 σ H1 (fun o H2 => o = none ∧ H2 = H1) I1 ⟨rfl, rfl⟩) fun vl s2 ⟨l, H2, I2, pl, el, e2⟩ => ?_)
  subst el e2
  refine thn (po_none.run pins s2 σ H2 (fun o H3 => o = none ∧ H3 = H2) I2 ⟨rfl, rfl⟩) fun vu s3 ⟨u, H3, I3, pu, eu, e3⟩ => ?_
  subst eu e3
  refine thn (hst.run pins s3 σ H3 (fun o H4 => o = some (-1) ∧ H4 = H3) I3 ⟨1, rfl, -1, rfl, rfl, rfl⟩) fun vs s4 ⟨o, H4, I4, ps, eo, e4⟩ => ?_
  subst eo e4
  have I5 : Inv X pins σ H4 { s4 with heap := s4.heap.push { cls := .type "slice", data := .fields #[vl, vu, vs] } } := I4.kept (t' := s4.toks) fun b ob q => Heap.get?_push_of_some _ q
  rcases q with ⟨hx, q⟩ | ⟨hx, q⟩
  · obtain ⟨its, r, ht, hz⟩ := I5.list hx
    have hlen := r.length
    show wpAny (model X.prog X.w) X.A (subscriptTail e (.Slice none none (some (.UnaryOp .USub (.Constant (.int 1) k p1) p2)) p3) (.ref a) (.ref s4.heap.objs.size)) (EP X pins σ Q) X.xe { s4 with heap := s4.heap.push { cls := .type "slice", data := .fields #[vl, vu, vs] } }
    refine tail_any (ops := [.ref a, .ref s4.heap.objs.size]) ht.isList.typeIs (PySem.slot_list_getitem.lookup) ?_ (by with_unfolding_all rfl)
    refine wpAny_getItem_list_slice ht.isList (Heap.IsSliceOf.new _ vl vu vs) pl pu ps (by decide) ?_ (by rw [List.size_toArray]; omega)
    rw [PySem.W.krv_pick]
    refine ⟨.ref _, _, I5.laid (t' := s4.toks) (o := .lst xs.reverse) (fun b ob q => Heap.get?_push_of_some _ q) (Nat.le_refl _) ?_, rfl, q _ (I5.hok.fresh (Nat.le_refl _))⟩
    exact ⟨by rw [List.length_reverse]; exact hz, _, 0, r.reverse, Heap.get?_push_size _ rfl⟩
  · obtain ⟨its, r, ht, hz⟩ := I5.tuple hx
    have hlen : its.toArray.size = xs.length := by rw [List.size_toArray]; exact r.length.symm
    show wpAny (model X.prog X.w) X.A (subscriptTail e (.Slice none none (some (.UnaryOp .USub (.Constant (.int 1) k p1) p2)) p3) (.ref a) (.ref s4.heap.objs.size)) (EP X pins σ Q) X.xe { s4 with heap := s4.heap.push { cls := .type "slice", data := .fields #[vl, vu, vs] } }
    refine tail_any (ops := [.ref a, .ref s4.heap.objs.size]) ht.typeIs (PyProof.Rows.slot_tuple_getitem.lookup) ?_ (by with_unfolding_all rfl)
    refine HT.getItem_tuple_rev ht (Heap.IsSliceOf.new _ vl vu vs) pl pu ps ?_ (by rw [hlen]; exact hz)
    refine ⟨.ref _, _, I5.laid (t' := s4.toks) (o := .tup xs.reverse) (fun b ob q => Heap.get?_push_of_some _ q) (Nat.le_refl _) ?_, rfl, q _ (I5.hok.fresh (Nat.le_refl _))⟩
    exact ⟨by rw [List.length_reverse]; exact hz, _, r.reverse, IsTup.new _ _⟩
end
end L2
end

section
set_option Elab.async false
set_option linter.all false
set_option maxRecDepth 100000
set_option maxHeartbeats 1000000
/-! Expressions: subscripts, slices, built-ins, methods, tests. -/
namespace Ev
open PySem L2
section
variable {I : Info} {G : Tab} {C : Nat → Option D} {exV : Nat → Value} {B : Bs} {k : Nat} {rd wr : Scope} {W : WX} {X : Cx} {pos : Pos}
theorem idx_tag {v r : RV} {d : D} (e : idxD v d = some r) : r.t = v.t ∨ (r.t = .im ∧ r.d.imm = true) := by
  unfold idxD at e
  split at e
  · obtain ⟨_, _, rfl⟩ := Option.map_eq_some_iff.mp e; exact .inl rfl
  · obtain ⟨_, _, rfl⟩ := Option.map_eq_some_iff.mp e; exact .inl rfl
  · obtain ⟨_, _, rfl⟩ := Option.map_eq_some_iff.mp e; exact .inr ⟨rfl, rfl⟩
  · split at e
    · obtain ⟨_, _, e⟩ := Option.bind_eq_some_iff.mp e
      obtain ⟨_, _, rfl⟩ := Option.map_eq_some_iff.mp e; exact .inl rfl
    · cases e
  · cases e
theorem ok_idx (g : Gd I G C exV B k rd wr W X) {a i : ME} {x y : Expr} (hi : chk I rd wr i y = true) (ha : PE X x (tEv G C exV B W a)) (hb : PE X y (tEv G C exV B W i)) : PE X (.Subscript x y pos) (tEv G C exV B W (.idx a i)) := by
  refine PE.weak (pe_ix (idx_rule (by have := g.room.un; omega)) ha hb (chk_ix hi)) fun σ H Q q => ?_
  obtain ⟨ρ, fs, st, q⟩ := q
  unfold ev at q
  refine then_e st q fun v ρ1 x H1 f fs1 P q => ?_
  obtain ⟨hw, q⟩ := q.ite
  refine then_e P.stp.st q fun w ρ2 y H2 f2 fs2 P2 q => ?_
  obtain ⟨r, e0, q⟩ := q.of
  obtain ⟨r, e, rfl⟩ := Option.map_eq_some_iff.mp e0
  obtain ⟨S, T⟩ := two_of P hw P2
  refine ⟨v.t, v.d, w.d, f, f2, r, by rw [g.eP, g.ew, g.eK]; exact T.r1, by rw [g.eP, g.ew, g.eK]; exact T.r2, e, fun z h hz le => ?_⟩
  rw [g.eP, g.ew, g.eK] at hz
  refine q z H2 h fs2 ⟨S, by rw [nrm_d]; exact hz, nrm_tag hz ?_, fun a c => T.p1 a (Nat.lt_of_lt_of_le c (le a)), fun _ e => nomatch e⟩
  rcases idx_tag e with e | ⟨e, ei⟩
  · rw [e]; exact T.t1.le le
  · rw [e]; exact hz.imm ei
/-- a slice's part: left out, or an int -/
def tPt (b : Bool) (t : TE) : TO := fun σ H Q => if b = true then t σ H (fun x H1 => ∃ i, x = .int i ∧ Q (some i) H1) else Q none H
theorem po_part {b : Bool} {o : Option Expr} {t : TE} (h1 : ∀ y, o = some y → b = true ∧ PE X y t) (h0 : o = none → b = false) : PO X o (tPt b t) := by
  cases o with
  | none =>
    have e := h0 rfl
    subst e
    exact ⟨fun pins s σ H Q I h => po_none.run pins s σ H Q I (by unfold tPt at h; rw [if_neg (by decide)] at h; exact h)⟩
  | some y =>
    obtain ⟨e, h⟩ := h1 y rfl
    subst e
    exact ⟨fun pins s σ H Q I q => (po_some h).run pins s σ H Q I (by unfold tPt at q; rw [if_pos rfl] at q; exact q)⟩
theorem then_p {b : Bool} {m : ME} {σ : St} {H : Hp} {ρ : En} {fs : List FP} {α : Type} {k : Option Int → En → R α} {K : α → En → Prop} {Q : Option Int → Hp → Prop} (hb : b = false → m = .lit .non) (st : StR B σ H ρ fs)
    (h : RunR exV B W σ H ρ fs ((ev G C m ρ).bind fun x ρ' => (R.of ρ' (partD b x.d)).bind k) K) (hq : ∀ o ρ1 H1 fs1, Step B σ H ρ fs m.pure H1 ρ1 fs1 → RunR exV B W σ H1 ρ1 fs1 (k o ρ1) K → Q o H1) : tPt b (tEv G C exV B W m) σ H Q := by
  unfold tPt
  cases b with
  | false =>
    rw [if_neg (by decide)]
    have e := hb rfl
    subst e
    unfold ev at h
    exact hq none ρ H fs (Step.refl st) h
  | true =>
    rw [if_pos rfl]
    refine then_e st h fun v ρ1 x H1 f fs1 P q => ?_
    obtain ⟨o, e, q⟩ := q.bind.of
    unfold partD at e
    rw [if_pos rfl] at e
    split at e
    · rename_i i ei
      cases e
      have r := P.rep
      rw [ei] at r
      cases r
      exact ⟨i, rfl, hq (some i) ρ1 H1 fs1 P.stp q⟩
    · cases e
theorem ok_slc (g : Gd I G C exV B k rd wr W X) {a l h : ME} {bl bh : Bool} {x : Expr} {lo hi : Option Expr} {p2 : Pos} (ha : PE X x (tEv G C exV B W a)) (hl : PO X lo (tPt bl (tEv G C exV B W l))) (hl0 : bl = false → l = .lit .non)
    (hh : PO X hi (tPt bh (tEv G C exV B W h))) (hh0 : bh = false → h = .lit .non) : PE X (.Subscript x (.Slice lo hi none p2) pos) (tEv G C exV B W (.slc a bl l bh h)) := by
  refine PE.weak (pe_slice (slc_rule (B := B) g.eP g.ew g.eK) ha hl hh) fun σ H Q q => ?_
  obtain ⟨ρ, fs, st, q⟩ := q
  unfold ev at q
  refine then_e st q fun v ρ1 x H1 f fs1 P q => ?_
  obtain ⟨hw, q⟩ := q.ite
  refine then_p hl0 P.stp.st q fun lo ρ2 H2 fs2 S2 q => ?_
  refine then_p hh0 S2.st q fun hi ρ3 H3 fs3 S3 q => ?_
  obtain ⟨r, e, q⟩ := q.of
  have S23 := S2.trans S3
  exact ⟨σ, H, ρ, fs, ρ3, fs3, v, f, r, S3.st, fun a z => S23.fr.live a (P.stp.fr.live a z), wait_rep P.stp.st.sl S23 hw P.rep P.tag, wait_tag S23 hw P.rep P.tag, P.prov, e, res_of (P.stp.trans S23) q⟩
theorem ok_rev (g : Gd I G C exV B k rd wr W X) {a : ME} {x : Expr} {n : Nat} {p1 p2 p3 : Pos} (ha : PE X x (tEv G C exV B W a)) : PE X (.Subscript x (.Slice none none (some (.UnaryOp .USub (.Constant (.int 1) n p1) p2)) p3) pos) (tEv G C exV B W (.rev a)) := by
  refine PE.weak (pe_revB ha) fun σ H Q q => ?_
  obtain ⟨ρ, fs, st, q⟩ := q
  unfold ev at q
  refine then_e st q fun v ρ1 x H1 f fs1 P q => ?_
  obtain ⟨r, e, q⟩ := q.of
  unfold revD at e
  split at e
  · cases e
    obtain ⟨b, vs, g1, rfl, s1, l1, e1⟩ := lst_inv P.rep
    have tg := P.tag
    have pv := P.prov
    rw [e1] at tg pv
    exact ⟨b, vs, rfl, .inl ⟨.inl (.inl s1), fun p hp => Res.list P.stp.st P.stp.fr.live (res_of P.stp q) l1.reverse (tg.le Rep.tag_in) (fun b z => pv b (fa_right z)) p hp⟩⟩
  · cases e
    obtain ⟨b, vs, rfl, s1, l1⟩ := tup_inv P.rep
    exact ⟨b, vs, rfl, .inr ⟨g.eK ▸ s1, fun p hp => Res.tup (res_of P.stp q) l1.reverse P.tag P.prov p hp⟩⟩
  · cases e
/-! ### built-ins -/
theorem bbi (b : BI) (h : b ≠ .dict) : bootBuiltins b.name = some b.val := by
  have hi : bootBuiltins "isinstance" = some (.builtin "isinstance") := by decide +kernel
  cases b <;> first | exact absurd rfl h | exact hi | decide +kernel
theorem gl_b (g : Gd I G C exV B k rd wr W X) {x : Str} (h : glob rd x = true) (hx : x ∈ ([("len" : Str), "isinstance", "max", "min", "abs", "sum", "all", "tuple", "list", "int", "bool", "str", "range", "enumerate", "dict", "sorted", "zip"] : List Str)) : Gl X x ∧ X.mg x = none := ⟨(glob_gl g.esc h).1, g.blt x hx⟩
theorem bi_read {as : MEs} {b : BI} {σ : St} {H : Hp} {Q : VK} (q : tEv G C exV B W (.bi b as) σ H Q) : tEvs G C exV B W as σ H fun xs H1 => rBi B b (b.args xs) H1 Q := by
  obtain ⟨ρ, fs, st, q⟩ := q
  unfold ev at q
  refine then_s st q fun vs ρ1 xs H1 gs fs1 A q => ?_
  obtain ⟨r, e, q⟩ := q.of
  exact ⟨σ, H, ρ, fs, ρ1, fs1, xs, vs, gs, r, A.stp.st, A.stp.fr.live, A.reps, rfl, e, res_of A.stp q⟩
/-- a built-in that is no isinstance -/
theorem ok_bi (g : Gd I G C exV B k rd wr W X) {b : BI} {as : MEs} {y : Expr} {ys : List Expr} {x : Str} {p : Pos} (hx : x = b.name) (hg : glob rd x = true) (hd : b ≠ .dict) (hi : ∀ T, b ≠ .isi T) (hy : chks I rd wr as (y :: ys) = true) (ha : PA X (y :: ys) (tEvs G C exV B W as)) :
    PE X (.Call (.Name x p) (y :: ys) [] pos) (tEv G C exV B W (.bi b as)) := by
  have es := chks_star hy X.env
  have he : starEach (y :: ys) X.env = (false, eval y X.env) :: starEach ys X.env := by
    have q := es
    cases as with
    | nil => simp [chks] at hy
    | cons a as =>
      have h' : chk I rd wr a y = true ∧ chks I rd wr as ys = true := by simpa [chks] using hy
      exact chk_plain h'.1 ys X.env
  have hpl : (backTo pos (starEach ys X.env)).any (·.1) = false := by
    cases as with
    | nil => simp [chks] at hy
    | cons a as =>
      have h' : chk I rd wr a y = true ∧ chks I rd wr as ys = true := by simpa [chks] using hy
      exact back_plain (chks_star h'.2 X.env)
  have R := bi_rule (X := X) (B := B) g.eP g.ew g.eK g.calm b
  have rd1 : ∀ {σ H Q}, tEv G C exV B W (.bi b as) σ H Q → tCB (rBi B b) (tEvs G C exV B W as) σ H Q := fun {σ H Q} q => by
    have q := bi_read q
    have e : ∀ xs, b.args xs = xs := fun xs => by cases b <;> first | rfl | exact absurd rfl (hi _)
    simp only [e] at q
    exact q
  subst hx
  cases b with
  | isi T => exact absurd rfl (hi T)
  | dict => exact absurd rfl hd
  | len => exact PE.weak (pe_callB R (gl_b g hg (by simp [BI.name])).1 (gl_b g hg (by simp [BI.name])).2 (bbi _ (fun z => nomatch z)) ha (by decide) (by decide) he hpl) fun _ _ _ q => rd1 q
  | max2 => exact PE.weak (pe_callB R (gl_b g hg (by simp [BI.name])).1 (gl_b g hg (by simp [BI.name])).2 (bbi _ (fun z => nomatch z)) ha (by decide) (by decide) he hpl) fun _ _ _ q => rd1 q
  | min2 => exact PE.weak (pe_callB R (gl_b g hg (by simp [BI.name])).1 (gl_b g hg (by simp [BI.name])).2 (bbi _ (fun z => nomatch z)) ha (by decide) (by decide) he hpl) fun _ _ _ q => rd1 q
  | maxl => exact PE.weak (pe_callB R (gl_b g hg (by simp [BI.name])).1 (gl_b g hg (by simp [BI.name])).2 (bbi _ (fun z => nomatch z)) ha (by decide) (by decide) he hpl) fun _ _ _ q => rd1 q
  | abs => exact PE.weak (pe_callB R (gl_b g hg (by simp [BI.name])).1 (gl_b g hg (by simp [BI.name])).2 (bbi _ (fun z => nomatch z)) ha (by decide) (by decide) he hpl) fun _ _ _ q => rd1 q
  | sum => exact PE.weak (pe_callB R (gl_b g hg (by simp [BI.name])).1 (gl_b g hg (by simp [BI.name])).2 (bbi _ (fun z => nomatch z)) ha (by decide) (by decide) he hpl) fun _ _ _ q => rd1 q
  | all => exact PE.weak (pe_callB R (gl_b g hg (by simp [BI.name])).1 (gl_b g hg (by simp [BI.name])).2 (bbi _ (fun z => nomatch z)) ha (by decide) (by decide) he hpl) fun _ _ _ q => rd1 q
  | tuple => exact PE.weak (pe_callTy R (gl_b g hg (by simp [BI.name])).1 (gl_b g hg (by simp [BI.name])).2 (bbi _ (fun z => nomatch z)) ha (by decide) (by decide) he hpl) fun _ _ _ q => rd1 q
  | list => exact PE.weak (pe_callTy R (gl_b g hg (by simp [BI.name])).1 (gl_b g hg (by simp [BI.name])).2 (bbi _ (fun z => nomatch z)) ha (by decide) (by decide) he hpl) fun _ _ _ q => rd1 q
  | int => exact PE.weak (pe_callTy R (gl_b g hg (by simp [BI.name])).1 (gl_b g hg (by simp [BI.name])).2 (bbi _ (fun z => nomatch z)) ha (by decide) (by decide) he hpl) fun _ _ _ q => rd1 q
  | bool => exact PE.weak (pe_callTy R (gl_b g hg (by simp [BI.name])).1 (gl_b g hg (by simp [BI.name])).2 (bbi _ (fun z => nomatch z)) ha (by decide) (by decide) he hpl) fun _ _ _ q => rd1 q
  | str => exact PE.weak (pe_callTy R (gl_b g hg (by simp [BI.name])).1 (gl_b g hg (by simp [BI.name])).2 (bbi _ (fun z => nomatch z)) ha (by decide) (by decide) he hpl) fun _ _ _ q => rd1 q
theorem ok_isi (g : Gd I G C exV B k rd wr W X) {T : Ty} {a : ME} {y : Expr} {x z : Str} {p p2 : Pos} (hx : x = "isinstance") (hg : glob rd x = true) (hz : z = T.name) (hgz : glob rd z = true) (hy : chk I rd wr a y = true) (ha : PE X y (tEv G C exV B W a)) :
    PE X (.Call (.Name x p) [y, .Name z p2] [] pos) (tEv G C exV B W (.bi (.isi T) (.cons a .nil))) := by
  have R := bi_rule (X := X) (B := B) g.eP g.ew g.eK g.calm (.isi T)
  subst hx
  have gz : Gl X z ∧ X.mg z = none := gl_b g hgz (by rw [hz]; cases T <;> simp [Ty.name])
  have hbz : bootBuiltins z = some (.type T.nm) := by
    rw [hz]
    cases T with
    | int => exact bbi .int (fun z => nomatch z)
    | bool => exact bbi .bool (fun z => nomatch z)
    | tuple => exact bbi .tuple (fun z => nomatch z)
    | str => exact bbi .str (fun z => nomatch z)
    | list => exact bbi .list (fun z => nomatch z)
  have h2 : PA X [.Name z p2] (tCons (tC (.ty T.nm)) tNil) := pa_cons (pe_bltn gz.1 gz.2 hbz rfl (by rw [hz]; cases T <;> decide) (glob_gl g.esc hgz).2) pa_nil
  have he := chk_plain hy [.Name z p2] X.env
  refine PE.weak (pe_callB R (gl_b g hg (by simp)).1 (gl_b g hg (by simp)).2 (bbi (.isi T) (fun z => nomatch z)) (pa_cons ha h2 he) (by decide) (by decide) he (by rfl)) fun σ H Q q => ?_
  obtain ⟨ρ, fs, st, q⟩ := bi_read q
  unfold evs at q
  refine then_e st q fun v ρ1 x H1 f fs1 P q => ?_
  obtain ⟨hw, q⟩ := q.ite
  unfold evs at q
  exact q [x] H1 [f] fs1 (PostA.cons P (PostA.nil P.stp.st) hw)
/-! ### methods -/
theorem ok_mth (g : Gd I G C exV B k rd wr W X) {m : Mt} {o a : ME} {x y : Expr} {nm : Str} {ap cp : Pos} (hm : nm = m.nm) (hmm : m = .join ∨ m = .split) (hline : (ap.endLine == cp.line) = true) (hb : plainO x = true) (hy : chk I rd wr a y = true) (ho : PE X x (tEv G C exV B W o)) (ha : PE X y (tEv G C exV B W a)) :
    PE X (.Call (.Attribute x nm ap) [y] [] cp) (tEv G C exV B W (.mth m o (.cons a .nil))) := by
  have hs : starEach [y] X.env = [(false, eval y X.env)] := chk_plain hy [] X.env
  have rd1 : ∀ {σ H Q}, tEv G C exV B W (.mth m o (.cons a .nil)) σ H Q → tM1 (rMt B m) (tEv G C exV B W o) (tEv G C exV B W a) σ H Q := fun {σ H Q} q => by
    obtain ⟨ρ, fs, st, q⟩ := q
    unfold ev at q
    refine then_e st q fun v ρ1 x H1 f fs1 P q => ?_
    obtain ⟨hw, q⟩ := q.ite
    obtain ⟨hw, hv⟩ := Bool.and_eq_true_iff.mp hw
    have hstr : ∃ b, x = .str b := by
      have r := P.rep
      generalize v.d = d at hv r
      cases d <;> first | (exact absurd hv Bool.false_ne_true) | (cases r; exact ⟨_, rfl⟩)
    refine ⟨hstr, ?_⟩
    have q' := q.bind
    unfold evs at q'
    refine then_e P.stp.st q' fun w ρ2 y H2 f2 fs2 P2 q2 => ?_
    obtain ⟨hw2, q2⟩ := q2.ite
    unfold evs at q2
    have A : PostA B σ H1 ρ1 fs1 (MEs.cons a .nil).pure [a.slot?] [w] [y] H2 [f2] ρ2 fs2 := by
      have := PostA.cons P2 (PostA.nil P2.stp.st) (by cases w.t <;> rfl)
      exact this
    obtain ⟨r, e, q3⟩ := RunR.of q2
    have S := P.stp.trans A.stp
    refine ⟨σ, H, ρ, fs, ρ2, fs2, v, f, [w], [f2], r, A.stp.st, fun a z => S.fr.live a z, wait_rep P.stp.st.sl A.stp hw P.rep P.tag, A.reps.wait P.stp, e, res_of S q3⟩
  subst hm
  rcases hmm with rfl | rfl
  · exact PE.weak (pe_m1 F.slot_str_join F.type_str_join join_rule ho ha hs (base_plain hb _) hline) fun _ _ _ q => rd1 q
  · exact PE.weak (pe_m1 F.slot_str_split F.type_str_split split_rule ho ha hs (base_plain hb _) hline) fun _ _ _ q => rd1 q
end
/-! ### list.pop() -/
section
variable {I : Info} {G : Tab} {C : Nat → Option D} {exV : Nat → Value} {B : Bs} {k : Nat} {rd wr : Scope} {W : WX} {X : Cx} {pos : Pos}
/-- the thing in an owned slot is changed to a new one in place: the footprint f gives way to f' -/
theorem chg_step {σ : St} {H H' : Hp} {ρ : En} {fs : List FP} {i : Nat} {t : ST} {d d' : D} {f f' : FP} {x : V} (st : StR B σ H ρ fs) (e : ρ[i]? = some (some ⟨t, d⟩)) (ef : fs[i]? = some f) (hs : σ[i]? = some (some x)) (ht : chg t = true)
    (keep : ∀ a o, H a = some o → f a = 0 → H' a = some o) (live : ∀ a, H a ≠ none → H' a ≠ none) (r : Rep B.P B.w B.K H' x d' f') (le : ∀ a, f' a ≤ 1) (frm : ∀ a, 0 < f' a → 0 < f a ∨ (H a = none)) (pv : ∀ a, 0 < f' a → B.H0 a = none ∨ B.A0 a) :
    Step B σ H ρ fs false H' (ρ.set i (some ⟨t, d'⟩)) (fs.set i f') := by
  have S := fun p a => sum_set p ρ fs i (some ⟨t, d⟩) (some ⟨t, d'⟩) f f' e ef a
  have to : own t = true := own_of_chg ht
  have co : ∀ (d : D) (f : FP) a, ctr own (some ⟨t, d⟩) f a = f a := fun d f a => by show (if own t = true then f else fz) a = f a; rw [if_pos to]
  have cc : ∀ (d : D) (f : FP) a, ctr chg (some ⟨t, d⟩) f a = f a := fun d f a => by show (if chg t = true then f else fz) a = f a; rw [if_pos ht]
  have cf : ∀ (d : D) (f : FP) a, ctr frz (some ⟨t, d⟩) f a = 0 := fun d f a => by show (if frz t = true then f else fz) a = 0; rw [own_frz to]; rfl
  have fo : ∀ a, f a ≤ sumOf own ρ fs a := fun a => by have := sum_ge own e ef a; rw [co] at this; exact this
  have fc : ∀ a, f a ≤ sumOf chg ρ fs a := fun a => by have := sum_ge chg e ef a; rw [cc] at this; exact this
  have nz : ∀ {p : ST → Bool} {a : Addr}, H a = none → sumOf p ρ fs a = 0 := fun {p a} h => Nat.eq_zero_of_not_pos fun y => by
    obtain ⟨o, e, _⟩ := st.sl.there p a y
    rw [h] at e; cases e
  -- other slots do not meet this one
  have other : ∀ {j : Nat} {s : Option SV} {g : FP}, j ≠ i → ρ[j]? = some s → fs[j]? = some g → ∀ {o : Option V}, Slot B H s o g → ∀ a, 0 < g a → f a = 0 := fun {j s g} ne e1 e2 {o} sl a z => by
    refine Nat.eq_zero_of_not_pos fun y => ?_
    cases sl with
    | nul => exact Nat.lt_irrefl _ z
    | @val u d0 v0 _ r0 him =>
      by_cases c : own u = true
      · have h2 := sum_two own (Ne.symm ne) e ef e1 e2 a
        rw [co] at h2
        have h3 : ctr own (some ⟨u, d0⟩) g a = g a := by show (if own u = true then g else fz) a = g a; rw [if_pos c]
        have := st.m1 a
        omega
      · have h1 := fo a
        have h2 := st.mn a (by omega)
        cases u with
        | im => rw [him rfl] at z; exact Nat.lt_irrefl _ z
        | vl =>
          have h3 : g a ≤ sumOf frz ρ fs a := sum_ge frz e1 e2 a
          omega
        | mu => exact c rfl
        | rf => exact c rfl
        | lk => exact c rfl
  have slots : Slots B H' (ρ.set i (some ⟨t, d'⟩)) σ (fs.set i f') := by
    refine Slots.of (by rw [List.length_set]; exact st.sl.len.1) (by rw [List.length_set]; exact st.sl.len.2) fun j s ej => ?_
    by_cases c : i = j
    · subst c
      have hl : i < ρ.length := (List.getElem?_eq_some_iff.mp e).1
      have hlf : i < fs.length := (List.getElem?_eq_some_iff.mp ef).1
      rw [List.getElem?_set_self hl] at ej
      cases ej
      exact ⟨_, f', hs, List.getElem?_set_self hlf, .val r fun q => by subst q; cases ht⟩
    · rw [List.getElem?_set_ne c] at ej
      obtain ⟨o, g, e1, e2, sl⟩ := st.sl.get ej
      refine ⟨o, g, e1, by rw [List.getElem?_set_ne c]; exact e2, sl.kept fun a u h z => keep a u h ?_⟩
      by_cases y : 0 < g a
      · exact other (Ne.symm c) ej e2 sl a y
      · rcases z with z | z
        · exact absurd z y
        · refine Nat.eq_zero_of_not_pos fun y2 => ?_
          obtain ⟨u2, e3, w2⟩ := st.sl.there own a (Nat.lt_of_lt_of_le y2 (fo a))
          rw [h] at e3; cases e3
          exact z w2
  refine ⟨⟨slots, fun a => ?_, fun a z => ?_, fun a o h z => ?_, fun a h => live a (st.b2 a h), fun g hg a z => ?_, fun a z => ?_⟩, ⟨fun a o h z => keep a o h ?_, live, fun a z => ?_, fun a z => ?_⟩, fun a => ?_, fun j d0 ej => ?_, (fun z => nomatch z), fun j d0 ej => by
    by_cases q : i = j
    · subst q
      rw [List.getElem?_set_self (List.getElem?_eq_some_iff.mp e).1] at ej
      cases ej
      exact ⟨d, e⟩
    · rw [List.getElem?_set_ne q] at ej; exact ⟨d0, ej⟩⟩
  · have h1 := S own a
    rw [co, co] at h1
    have h2 := st.m1 a
    have h3 := le a
    by_cases c : 0 < f' a
    · rcases frm a c with q | q
      · omega
      · have := nz (p := own) q; omega
    · omega
  · have h1 := S own a
    rw [co, co] at h1
    have h2 := S frz a
    rw [cf, cf] at h2
    by_cases c : 0 < sumOf own ρ fs a
    · have := st.mn a c; omega
    · rcases frm a (by omega) with q | q
      · have := fo a; omega
      · have := nz (p := frz) q; omega
  · refine keep a o (st.b1 a o h z) (Nat.eq_zero_of_not_pos fun y => ?_)
    rcases st.b4 a (Nat.lt_of_lt_of_le y (fo a)) with q | q
    · rw [h] at q; cases q
    · omega
  · rcases List.mem_or_eq_of_mem_set hg with hg | rfl
    · exact st.b3 g hg a z
    · exact pv a z
  · have h1 := S own a
    rw [co, co] at h1
    by_cases c : 0 < sumOf own ρ fs a
    · exact st.b4 a c
    · rcases frm a (by omega) with q | q
      · have := fo a; omega
      · exact .inl (st.b2' q)
  · have := fc a; omega
  · have h1 := S own a
    rw [co, co] at h1
    by_cases c : 0 < sumOf own ρ fs a
    · exact .inl c
    · rcases frm a (by omega) with q | q
      · have := fo a; omega
      · exact .inr q
  · have h1 := S chg a
    rw [cc, cc] at h1
    by_cases c : 0 < sumOf chg ρ fs a
    · exact .inl c
    · rcases frm a (by omega) with q | q
      · have := fc a; omega
      · exact .inr q
  · have h2 := S frz a
    rw [cf, cf] at h2
    omega
  · have ne : i ≠ j := fun q => by
      subst q
      rw [e] at ej
      have := Option.some.inj (Option.some.inj ej)
      cases this
      cases ht
    exact ⟨by rw [List.getElem?_set_ne ne]; exact ej, by rw [List.getElem?_set_ne ne]⟩
theorem RepL.unsnoc {P w K} {H : Hp} {vs : List V} {ds : List D} {f : FP} {d : D} (h : RepL P w K H vs ds f) (e : ds.getLast? = some d) : ∃ y g1 g2, vs[vs.length - 1]? = some y ∧ RepL P w K H vs.dropLast ds.dropLast g1 ∧ Rep P w K H y d g2 ∧ ∀ a, f a = g1 a + g2 a := by
  induction ds generalizing vs f with
  | nil => cases e
  | cons d0 ds ih =>
    cases h with
    | @cons v vs _ _ f1 f2 h1 h2 =>
      cases ds with
      | nil =>
        cases h2
        cases e
        exact ⟨v, fz, f1, rfl, .nil, h1, fun a => by show f1 a + 0 = 0 + f1 a; omega⟩
      | cons d1 ds =>
        obtain ⟨y, g1, g2, e1, r1, r2, e2⟩ := ih h2 (by rw [List.getLast?_cons_cons] at e; exact e)
        cases vs with
        | nil => cases h2
        | cons v1 vs =>
          refine ⟨y, fa f1 g1, g2, by simpa using e1, ?_, r2, fun a => ?_⟩
          · exact .cons h1 r1
          · have := e2 a
            show f1 a + f2 a = (f1 a + g1 a) + g2 a
            omega
theorem ok_mpop (g : Gd I G C exV B k rd wr W X) {i : Nat} {x : Str} {p ap cp : Pos} (h : slotB I rd i x = true) (hline : (ap.endLine == cp.line) = true) : PE X (.Call (.Attribute (.Name x p) "pop" ap) [] [] cp) (tEv G C exV B W (.mpop i)) := by
  obtain ⟨h1, h2, h3, h4⟩ := slot_vis g h
  refine PE.weak (pe_bm0 F.plainAttrs_list F.slot_list_pop F.type_list_pop mt_pop (pe_var h1 h2 h3 h4) (base_plain rfl _) hline) fun σ H Q q => ?_
  obtain ⟨ρ, fs, st, q⟩ := q
  unfold ev at q
  split at q
  · rename_i ds e
    have e := at_some e
    obtain ⟨o, f, ho, hf, sl⟩ := st.sl.get e
    split at q
    · rename_i d ed
      split at q
      · rename_i im
        cases sl with
        | val r him =>
          obtain ⟨a, vs, f1, rfl, hh, l1, rfl⟩ := lst_inv r
          obtain ⟨y, g1, g2, e1, r1, r2, e2⟩ := l1.unsnoc ed
          have g2z := r2.imm im
          subst g2z
          refine ⟨_, ho, .inl ⟨rfl, vs, .inl (.inl hh)⟩, a, vs, y, rfl, rfl, hh, e1, ?_⟩
          have z1 : f1 a = 0 := by
            have h0 : fa (Ev.fs a) f1 a ≤ sumOf own ρ fs a := sum_ge own e hf a
            have h1 := st.m1 a
            have h2 : Ev.fs a a + f1 a = fa (Ev.fs a) f1 a := rfl
            rw [fs_self] at h2
            omega
          have g1f : ∀ b, g1 b = f1 b := fun b => by
            have := e2 b
            have z : fz b = 0 := rfl
            omega
          have up : ∀ b o, b ≠ a → H b = some o → (upd H a (.lst vs.dropLast)) b = some o := fun b o ne hb => by rw [upd_ne ne]; exact hb
          have hk : Kept H (upd H a (.lst vs.dropLast)) g1 := fun b o hb z => by
            refine up b o (fun q => ?_) hb
            subst q
            rcases z with z | z
            · have := g1f b; omega
            · rw [hh] at hb; cases hb; exact z trivial
          have stp := chg_step (f' := fa (Ev.fs a) g1) (d' := .lst ds.dropLast) st e hf ho rfl (fun b o hb z => up b o (fun q => by
              subst q
              have : Ev.fs b b + f1 b = 0 := z
              rw [fs_self] at this; omega) hb) (fun b hb => by
              by_cases q : b = a
              · subst q; rw [upd_same]; exact fun z => nomatch z
              · rw [upd_ne q]; exact hb) (.lst upd_same (r1.kept hk)) (fun b => by
              have h0 : fa (Ev.fs a) f1 b ≤ sumOf own ρ fs b := sum_ge own e hf b
              have h1 := st.m1 b
              have h2 := g1f b
              have h3 : fa (Ev.fs a) f1 b = Ev.fs a b + f1 b := rfl
              show Ev.fs a b + g1 b ≤ 1
              omega) (fun b z => .inl (by
              have h2 := g1f b
              have h3 : fa (Ev.fs a) g1 b = Ev.fs a b + g1 b := rfl
              show 0 < Ev.fs a b + f1 b
              omega)) (fun b z => st.b3 _ (List.mem_of_getElem? hf) b (by
              have h2 := g1f b
              have h3 : fa (Ev.fs a) g1 b = Ev.fs a b + g1 b := rfl
              show 0 < Ev.fs a b + f1 b
              omega))
          have hr : Rep B.P B.w B.K (upd H a (.lst vs.dropLast)) y d fz := r2.kept fun b o hb z => up b o (fun q => by
            subst q
            rcases z with z | z
            · exact absurd z (Nat.lt_irrefl _)
            · rw [hh] at hb; cases hb; exact z trivial) hb
          exact q y _ fz _ ⟨stp, hr, rfl, fun b z => absurd z (Nat.lt_irrefl _), fun _ e => nomatch e⟩
      · exact q.elim
    · exact q.elim
  · exact q.elim
end
end Ev
end

section
set_option Elab.async false
set_option linter.all false
set_option maxRecDepth 100000
set_option maxHeartbeats 1000000
/-! Calls of the program's own functions. -/
namespace Ev
open PySem L2

/-! ### the changed things are put back -/
def setF : List Nat → List FP → List FP → List FP
  | i :: is, h :: hs, fs => setF is hs (fs.set i h)
  | _, _, fs => fs
def rfS : List Nat → List FP → FP
  | [], _ => fz
  | i :: is, fs => fa ((fs[i]?).getD fz) (rfS is fs)
theorem rfS_set : ∀ {rs : List Nat} {fs : List FP} {i : Nat} {h : FP}, i ∉ rs → rfS rs (fs.set i h) = rfS rs fs
  | [], _, _, _, _ => rfl
  | j :: rs, fs, i, h, n => by
    have n1 : i ≠ j := fun e => n (by simp [e])
    have n2 : i ∉ rs := fun e => n (by simp [e])
    unfold rfS
    rw [rfS_set n2, List.getElem?_set_ne n1]
structure Puts (rs : List Nat) (outs : List D) (hs : List FP) (ρ : En) (fs : List FP) (ρ2 : En) (fs2 : List FP) : Prop where
  l1 : ρ2.length = ρ.length
  l2 : fs2.length = fs.length
  off : ∀ j, j ∉ rs → ρ2[j]? = ρ[j]? ∧ fs2[j]? = fs[j]?
  sum : ∀ (p : ST → Bool) (c : Bool), (∀ t, chg t = true → p t = c) → ∀ a, sumOf p ρ2 fs2 a + (if c then rfS rs fs a else 0) = sumOf p ρ fs a + (if c then sumF hs a else 0)
  at_ : ∀ (m i : Nat) (d : D) (h : FP), rs[m]? = some i → outs[m]? = some d → hs[m]? = some h → ∃ t, chg t = true ∧ ρ2[i]? = some (some ⟨t, d⟩) ∧ fs2[i]? = some h
  tag : ∀ (i : Nat) (d : D), ρ2[i]? = some (some ⟨.rf, d⟩) → ∃ d0, ρ[i]? = some (some ⟨.rf, d0⟩)
theorem puts_of : ∀ {rs : List Nat} {outs : List D} {hs : List FP} {ρ ρ2 : En} {fs : List FP}, rs.Nodup → hs.length = rs.length → (∀ i ∈ rs, ∃ t d f, ρ[i]? = some (some ⟨t, d⟩) ∧ chg t = true ∧ fs[i]? = some f) → putOuts rs outs ρ = some ρ2 → Puts rs outs hs ρ fs ρ2 (setF rs hs fs)
  | [], [], [], ρ, ρ2, fs, _, _, _, e => by
    cases e
    exact ⟨rfl, rfl, fun _ _ => ⟨rfl, rfl⟩, fun p c _ a => by cases c <;> rfl, fun m i d h e => (by simp at e), fun _ d e => ⟨d, e⟩⟩
  | [], [], _ :: _, _, _, _, _, h, _, _ => by cases h
  | [], _ :: _, _, _, _, _, _, _, _, e => by cases e
  | _ :: _, [], _, _, _, _, _, _, _, e => by cases e
  | _ :: _, _ :: _, [], _, _, _, _, h, _, _ => by cases h
  | i :: rs, d :: outs, h :: hs, ρ, ρ2, fs, nd, hl, ok, e => by
    obtain ⟨t, d0, f, e1, ct, e2⟩ := ok i (by simp)
    have ni : i ∉ rs := (List.nodup_cons.mp nd).1
    have nd' := (List.nodup_cons.mp nd).2
    have ea : ρ.at i = some ⟨t, d0⟩ := by unfold En.at; rw [e1]
    unfold putOuts at e
    rw [ea] at e
    have e : putOuts rs outs (ρ.set i (some ⟨t, d⟩)) = some ρ2 := e
    have hi : i < ρ.length := (List.getElem?_eq_some_iff.mp e1).1
    have hif : i < fs.length := (List.getElem?_eq_some_iff.mp e2).1
    have ih := puts_of (fs := fs.set i h) (hs := hs) nd' (by simpa using hl) (fun j hj => by
      obtain ⟨t', d', f', a1, a2, a3⟩ := ok j (by simp [hj])
      have ne : i ≠ j := fun q => ni (q ▸ hj)
      exact ⟨t', d', f', by rw [List.getElem?_set_ne ne]; exact a1, a2, by rw [List.getElem?_set_ne ne]; exact a3⟩) e
    refine ⟨by rw [ih.l1, List.length_set], by show (setF rs hs (fs.set i h)).length = _; rw [ih.l2, List.length_set], fun j hj => ?_, fun p c hp a => ?_, fun m j d' h' a1 a2 a3 => ?_, fun j d' ej => ?_⟩
    · have n1 : i ≠ j := fun q => hj (by simp [q])
      have n2 : j ∉ rs := fun q => hj (by simp [q])
      obtain ⟨b1, b2⟩ := ih.off j n2
      exact ⟨by rw [b1, List.getElem?_set_ne n1], by show (setF rs hs (fs.set i h))[j]? = _; rw [b2, List.getElem?_set_ne n1]⟩
    · have q := ih.sum p c hp a
      have s := sum_set p ρ fs i (some ⟨t, d0⟩) (some ⟨t, d⟩) f h e1 e2 a
      rw [rfS_set ni] at q
      show sumOf p ρ2 (setF rs hs (fs.set i h)) a + _ = _
      have c1 : ctr p (some ⟨t, d0⟩) f a = if c then f a else 0 := by
        show (if p t = true then f else fz) a = _
        rw [hp t ct]
        cases c <;> rfl
      have c2 : ctr p (some ⟨t, d⟩) h a = if c then h a else 0 := by
        show (if p t = true then h else fz) a = _
        rw [hp t ct]
        cases c <;> rfl
      have r1 : rfS (i :: rs) fs a = f a + rfS rs fs a := by
        show ((fs[i]?).getD fz) a + rfS rs fs a = _
        rw [e2]
        rfl
      have r2 : sumF (h :: hs) a = h a + sumF hs a := rfl
      cases c with
      | false => simp only [if_neg (by decide : ¬ (false = true))] at q c1 c2 ⊢; omega
      | true => simp only [if_pos] at q c1 c2 ⊢; omega
    · cases m with
      | zero =>
        simp at a1 a2 a3
        subst a1 a2 a3
        obtain ⟨b1, b2⟩ := ih.off i ni
        exact ⟨t, ct, by rw [b1]; exact List.getElem?_set_self hi, by show (setF rs hs (fs.set i h))[i]? = _; rw [b2]; exact List.getElem?_set_self hif⟩
      | succ m => exact ih.at_ m j d' h' (by simpa using a1) (by simpa using a2) (by simpa using a3)
    · obtain ⟨d1, q1⟩ := ih.tag j d' ej
      by_cases c : i = j
      · subst c
        rw [List.getElem?_set_self hi] at q1
        cases q1
        exact ⟨d0, e1⟩
      · rw [List.getElem?_set_ne c] at q1
        exact ⟨d1, q1⟩

/-! ### the arguments -/
inductive RsOk : List Mode → List (Option Nat) → List Nat → Prop
  | nil : RsOk [] [] []
  | skip {m : Mode} {ms : List Mode} {s : Option Nat} {sl : List (Option Nat)} {rs : List Nat} : isRf m = false → RsOk ms sl rs → RsOk (m :: ms) (s :: sl) rs
  | rf {ms : List Mode} {i : Nat} {sl : List (Option Nat)} {rs : List Nat} : RsOk ms sl rs → RsOk (.rf :: ms) (some i :: sl) (i :: rs)
theorem rs_of : ∀ {ms : List Mode} {as : MEs} {rs : List Nat}, rfSlots ms as = some rs → RsOk ms as.slots rs
  | [], .nil, rs, e => by cases e; exact .nil
  | [], .cons _ _, _, e => by cases e
  | m :: ms, .nil, _, e => by cases m <;> cases e
  | .im :: ms, .cons a as, rs, e => .skip rfl (rs_of (by cases a <;> exact e))
  | .vl :: ms, .cons a as, rs, e => .skip rfl (rs_of (by cases a <;> exact e))
  | .rf :: ms, .cons a as, rs, e => by
    cases a <;> first
      | (obtain ⟨rs', e1, rfl⟩ := Option.map_eq_some_iff.mp e; exact .rf (rs_of e1))
      | cases e
theorem rs_none : ∀ {ms : List Mode} {sl : List (Option Nat)}, ms.length = sl.length → ms.contains .rf = false → RsOk ms sl []
  | [], [], _, _ => .nil
  | [], _ :: _, h, _ => by cases h
  | _ :: _, [], h, _ => by cases h
  | m :: ms, s :: sl, h, e => by
    have e' : (Mode.rf == m) = false ∧ ms.contains .rf = false := by simpa [List.contains_cons] using e
    refine .skip ?_ (rs_none (by simpa using h) e'.2)
    cases m <;> first | rfl | exact absurd e'.1 (by decide)
section
variable (B : Bs) (σ : St) (H : Hp) (ρ : En) (fs : List FP) (rs0 : List Nat) (b : Bool)
inductive ArgX : List Mode → List V → List D → List FP → List Nat → Prop
  | nil : ArgX [] [] [] [] []
  | im {ms : List Mode} {x : V} {xs : List V} {d : D} {ds : List D} {gs : List FP} {rs : List Nat} : Rep B.P B.w B.K H x d fz → ArgX ms xs ds gs rs → ArgX (.im :: ms) (x :: xs) (d :: ds) (fz :: gs) rs
  | vl {ms : List Mode} {x : V} {xs : List V} {d : D} {ds : List D} {f : FP} {gs : List FP} {rs : List Nat} : Rep B.P B.w B.K H x d f → (∀ a, 0 < f a → B.H0 a = none ∨ B.A0 a) →
      (∀ a, 0 < f a → 0 < sumOf own ρ fs a → b = true ∧ ∃ j g, j ∉ rs0 ∧ fs[j]? = some g ∧ 0 < g a) → ArgX ms xs ds gs rs → ArgX (.vl :: ms) (x :: xs) (d :: ds) (f :: gs) rs
  | rf {ms : List Mode} {x : V} {xs : List V} {d : D} {ds : List D} {f : FP} {gs : List FP} {i : Nat} {rs : List Nat} {t : ST} : Rep B.P B.w B.K H x d f → ρ[i]? = some (some ⟨t, d⟩) → chg t = true → σ[i]? = some (some x) → fs[i]? = some f →
      ArgX ms xs ds gs rs → ArgX (.rf :: ms) (x :: xs) (d :: ds) (f :: gs) (i :: rs)
end
section
variable {B : Bs} {σ : St} {H H0 : Hp} {ρ ρ0 : En} {fs fs0 : List FP} {rs0 : List Nat} {b : Bool}
theorem arg_build (st : StR B σ H ρ fs) : ∀ {ms : List Mode} {sl : List (Option Nat)} {rs : List Nat} {vs : List RV} {xs : List V} {gs : List FP} {ds : List D}, RepT B H0 ρ0 fs0 H ρ fs xs vs gs → VarOk σ sl xs → RsOk ms sl rs → argOk rs0 ρ ms rs vs = some ds → (anyTm ms vs = true → b = true) →
    ∃ gs', ArgX B σ H ρ fs rs0 b ms xs ds gs' rs
  | _, _, _, _, _, _, _, .nil, .nil, .nil, e, _ => by cases e; exact ⟨[], .nil⟩
  | [], _, _, _, _, _, _, .cons _ _ _ _, hv, hr, _, _ => by cases hr; cases hv
  | .im :: ms, _, rs, _, _, _, _, .cons (v := v) h1 h2 h3 h4, .cons _ hv, .skip _ hr, e, hb => by
    unfold argOk at e
    split at e
    · rename_i c
      obtain ⟨ds', e1, rfl⟩ := Option.map_eq_some_iff.mp e
      obtain ⟨gs', q⟩ := arg_build st h4 hv hr e1 (fun z => hb (by unfold anyTm; exact z))
      refine ⟨_, .im ?_ q⟩
      rcases Bool.or_eq_true_iff.mp c with c | c
      · rw [of_decide_eq_true c] at h2
        have h2' : _ = fz := h2
        rw [← h2']; exact h1
      · have := h1.imm c
        rw [← this]; exact h1
    · cases e
  | .vl :: ms, _, rs, _, _, _, _, .cons (v := v) (f := f) h1 h2 h3 h4, .cons _ hv, .skip _ hr, e, hb => by
    unfold argOk at e
    have done : ∀ (hz : ∀ a, 0 < f a → sumOf own ρ fs a = 0) {ds}, (argOk rs0 ρ ms rs _).map (v.d :: ·) = some ds → (anyTm ms _ = true → b = true) → ∃ gs', ArgX B σ H ρ fs rs0 b (.vl :: ms) _ ds gs' rs := fun hz {ds} e hb => by
      obtain ⟨ds', e1, rfl⟩ := Option.map_eq_some_iff.mp e
      obtain ⟨gs', q⟩ := arg_build st h4 hv hr e1 hb
      exact ⟨_, .vl h1 h3 (fun a z y => by have := hz a z; omega) q⟩
    split at e
    · rename_i j ej
      split at e
      · cases e
      · rename_i c
        obtain ⟨ds', e1, rfl⟩ := Option.map_eq_some_iff.mp e
        have hb1 : b = true := hb (by unfold anyTm; rw [ej])
        obtain ⟨gs', q⟩ := arg_build st h4 hv hr e1 (fun _ => hb1)
        rw [ej] at h2
        exact ⟨_, .vl h1 h3 (fun a z y => by
          obtain ⟨g, g1, g2⟩ := h2 a z y
          exact ⟨hb1, j, g, fun q => c (by simpa using q), g1, g2⟩) q⟩
    · rename_i hn
      refine done ?_ e fun z => hb ?_
      · intro a z
        generalize v.t = t at h2 hn
        cases t with
        | im => have h2' : f = fz := h2; rw [h2'] at z; exact absurd z (Nat.lt_irrefl _)
        | vl => exact h2 a z
        | fr => exact ((h2 a).2 z).1
        | tm j => exact absurd rfl (hn j)
      · unfold anyTm
        split
        · rfl
        · exact z
  | .rf :: ms, _, rs, _, _, _, _, .cons (v := v) (x := x) h1 h2 h3 h4, .cons (va := va) (vas := vas) hx hv, hr0, e, hb => by
    obtain ⟨i, rs', rfl, rfl, hr⟩ : ∃ i rs', va = some i ∧ rs = i :: rs' ∧ RsOk ms vas rs' := by
      cases hr0 with
      | skip z _ => cases z
      | rf h => exact ⟨_, _, rfl, rfl, h⟩
    have go : ∀ {t d ds}, ρ.at i = some ⟨t, d⟩ → chg t = true → (argOk rs0 ρ ms _ _).map (d :: ·) = some ds → ∃ gs', ArgX B σ H ρ fs rs0 b (.rf :: ms) _ ds gs' (i :: _) := fun {t d ds} ea ct e => by
      obtain ⟨ds', e1, rfl⟩ := Option.map_eq_some_iff.mp e
      obtain ⟨gs', q⟩ := arg_build st h4 hv hr e1 (fun z => hb (by unfold anyTm; exact z))
      have ea := at_some ea
      obtain ⟨o, f, e1, e2, sl⟩ := st.sl.get ea
      have ex := hx i rfl
      rw [ex] at e1
      cases e1
      cases sl with
      | val r him => exact ⟨_, .rf r ea ct ex e2 q⟩
    unfold argOk at e
    split at e
    · exact go (by assumption) rfl e
    · exact go (by assumption) rfl e
    · cases e
theorem ArgX.argsR {ms : List Mode} {xs : List V} {ds : List D} {gs : List FP} {rs : List Nat} (h : ArgX B σ H ρ fs rs0 b ms xs ds gs rs) : ArgsR B.P B.w B.K H ms xs ds gs := by
  induction h with
  | nil => exact .nil
  | im h1 _ ih => exact .cons h1 (fun _ => rfl) ih
  | vl h1 _ _ _ ih => exact .cons h1 (fun z => nomatch z) ih
  | rf h1 _ _ _ _ _ ih => exact .cons h1 (fun z => nomatch z) ih
theorem ArgX.rfSum {ms : List Mode} {xs : List V} {ds : List D} {gs : List FP} {rs : List Nat} (h : ArgX B σ H ρ fs rs0 b ms xs ds gs rs) : mSum isRf ms gs = rfS rs fs := by
  induction h with
  | nil => rfl
  | im h1 _ ih =>
    show fa fz (mSum isRf _ _) = _
    rw [ih]; exact funext fun a => Nat.zero_add _
  | vl h1 _ _ _ ih =>
    show fa fz (mSum isRf _ _) = _
    rw [ih]; exact funext fun a => Nat.zero_add _
  | rf h1 _ _ _ e _ ih =>
    show fa _ (mSum isRf _ _) = fa _ _
    rw [ih, e]; rfl
theorem ArgX.slots {ms : List Mode} {xs : List V} {ds : List D} {gs : List FP} {rs : List Nat} (h : ArgX B σ H ρ fs rs0 b ms xs ds gs rs) : ∀ i ∈ rs, ∃ t d f, ρ[i]? = some (some ⟨t, d⟩) ∧ chg t = true ∧ fs[i]? = some f := by
  induction h with
  | nil => intro i hi; cases hi
  | im h1 _ ih => exact ih
  | vl h1 _ _ _ ih => exact ih
  | rf h1 e1 e2 e3 e4 _ ih =>
    intro j hj
    rcases List.mem_cons.mp hj with rfl | hj
    · exact ⟨_, _, _, e1, e2, e4⟩
    · exact ih j hj
theorem ArgX.prov {ms : List Mode} {xs : List V} {ds : List D} {gs : List FP} {rs : List Nat} (h : ArgX B σ H ρ fs rs0 b ms xs ds gs rs) (st : StR B σ H ρ fs) : ∀ a, 0 < sumF gs a → B.H0 a = none ∨ B.A0 a := by
  induction h with
  | nil => intro a z; exact absurd z (Nat.lt_irrefl _)
  | im h1 _ ih =>
    intro a z
    have z' : 0 < 0 + sumF _ a := z
    exact ih a (by omega)
  | @vl _ _ _ _ _ f gs _ h1 h2 _ _ ih =>
    intro a z
    have z' : 0 < f a + sumF gs a := z
    by_cases c : 0 < f a
    · exact h2 a c
    · exact ih a (by omega)
  | @rf _ _ _ _ _ f gs _ _ _ h1 e1 e2 e3 e4 _ ih =>
    intro a z
    have z' : 0 < f a + sumF gs a := z
    by_cases c : 0 < f a
    · exact st.b3 f (List.mem_of_getElem? e4) a c
    · exact ih a (by omega)
/-- a footprint of an argument: of a changed one, or clear of what is owned, or a part of another slot -/
theorem ArgX.split {ms : List Mode} {xs : List V} {ds : List D} {gs : List FP} {rs : List Nat} (h : ArgX B σ H ρ fs rs0 b ms xs ds gs rs) : ∀ a, 0 < sumF gs a → 0 < rfS rs fs a ∨ sumOf own ρ fs a = 0 ∨ (b = true ∧ ∃ j g, j ∉ rs0 ∧ fs[j]? = some g ∧ 0 < g a) := by
  induction h with
  | nil => intro a z; exact absurd z (Nat.lt_irrefl _)
  | im h1 _ ih =>
    intro a z
    have z' : 0 < 0 + sumF _ a := z
    exact ih a (by omega)
  | @vl _ _ _ _ _ f gs _ h1 h2 h3 _ ih =>
    intro a z
    have z' : 0 < f a + sumF gs a := z
    by_cases c : 0 < f a
    · by_cases y : 0 < sumOf own ρ fs a
      · exact .inr (.inr (h3 a c y))
      · exact .inr (.inl (by omega))
    · exact ih a (by omega)
  | @rf _ _ _ _ _ f gs i rs _ h1 e1 e2 e3 e4 _ ih =>
    intro a z
    have z' : 0 < f a + sumF gs a := z
    have r1 : rfS (i :: rs) fs a = f a + rfS rs fs a := by
      show ((fs[i]?).getD fz) a + rfS rs fs a = _
      rw [e4]
      rfl
    by_cases c : 0 < f a
    · exact .inl (by omega)
    · rcases ih a (by omega) with q | q
      · exact .inl (by omega)
      · exact .inr q
theorem ArgX.vlSplit {ms : List Mode} {xs : List V} {ds : List D} {gs : List FP} {rs : List Nat} (h : ArgX B σ H ρ fs rs0 b ms xs ds gs rs) : ∀ a, 0 < mSum isVl ms gs a → 0 < sumOf own ρ fs a → ∃ j g, j ∉ rs0 ∧ fs[j]? = some g ∧ 0 < g a := by
  induction h with
  | nil => intro a z; exact absurd z (Nat.lt_irrefl _)
  | im h1 _ ih =>
    intro a z
    have z' : 0 < 0 + mSum isVl _ _ a := z
    exact ih a (by omega)
  | @vl _ _ _ _ _ f gs _ h1 h2 h3 _ ih =>
    intro a z y
    have z' : 0 < f a + mSum isVl _ gs a := z
    by_cases c : 0 < f a
    · exact (h3 a c y).2
    · exact ih a (by omega) y
  | @rf _ _ _ _ _ f gs i rs _ h1 e1 e2 e3 e4 _ ih =>
    intro a z
    have z' : 0 < 0 + mSum isVl _ gs a := z
    exact ih a (by omega)
theorem ArgX.outs {H' : Hp} {ms : List Mode} {xs : List V} {ds : List D} {gs : List FP} {rs : List Nat} (h : ArgX B σ H ρ fs rs0 b ms xs ds gs rs) : ∀ {outs : List D} {hs : List FP}, OutsR B.P B.w B.K H' ms xs outs hs →
    outs.length = rs.length ∧ hs.length = rs.length ∧ ∀ (m i : Nat) (d : D) (f : FP), rs[m]? = some i → outs[m]? = some d → hs[m]? = some f → ∃ x, σ[i]? = some (some x) ∧ Rep B.P B.w B.K H' x d f := by
  induction h with
  | nil => intro outs hs q; cases q; exact ⟨rfl, rfl, fun m i d f e => by simp at e⟩
  | im h1 _ ih =>
    intro outs hs q
    cases q with
    | skip _ q => exact ih q
  | vl h1 _ _ _ ih =>
    intro outs hs q
    cases q with
    | skip _ q => exact ih q
  | rf h1 e1 e2 e3 e4 _ ih =>
    intro outs hs q
    cases q with
    | skip z _ => cases z
    | rf r q =>
      obtain ⟨l1, l2, l3⟩ := ih q
      refine ⟨by simp [l1], by simp [l2], fun m i d f a1 a2 a3 => ?_⟩
      cases m with
      | zero => simp at a1 a2 a3; subst a1 a2 a3; exact ⟨_, e3, r⟩
      | succ m => exact l3 m i d f (by simpa using a1) (by simpa using a2) (by simpa using a3)
/-- a changed slot lies apart from every other -/
theorem apart (st : StR B σ H ρ fs) {rs : List Nat} (nd : rs.Nodup) (ok : ∀ i ∈ rs, ∃ t d f, ρ[i]? = some (some ⟨t, d⟩) ∧ chg t = true ∧ fs[i]? = some f) : ∀ {a : Addr}, 0 < rfS rs fs a → 0 < sumOf chg ρ fs a ∧ ∀ {j : Nat} {g : FP}, j ∉ rs → fs[j]? = some g → g a = 0 := by
  induction rs with
  | nil => intro a z; exact absurd z (Nat.lt_irrefl _)
  | cons i rs ih =>
    intro a z
    obtain ⟨t, d, f, e1, ct, e2⟩ := ok i (by simp)
    have r1 : rfS (i :: rs) fs a = f a + rfS rs fs a := by
      show ((fs[i]?).getD fz) a + rfS rs fs a = _
      rw [e2]
      rfl
    by_cases c : 0 < f a
    · have cc : ctr chg (some ⟨t, d⟩) f a = f a := by show (if chg t = true then f else fz) a = f a; rw [if_pos ct]
      have co : ctr own (some ⟨t, d⟩) f a = f a := by show (if own t = true then f else fz) a = f a; rw [if_pos (own_of_chg ct)]
      have g1 := sum_ge chg e1 e2 a
      refine ⟨by omega, fun {j g} hj eg => ?_⟩
      have ne : i ≠ j := fun q => hj (by simp [q])
      refine Nat.eq_zero_of_not_pos fun y => ?_
      have hjl : j < ρ.length := by rw [st.sl.len.1, ← st.sl.len.2]; exact (List.getElem?_eq_some_iff.mp eg).1
      obtain ⟨s, es⟩ : ∃ s, ρ[j]? = some s := ⟨_, List.getElem?_eq_getElem hjl⟩
      obtain ⟨o, g', e3, e4, sl⟩ := st.sl.get es
      rw [eg] at e4; cases e4
      have m1 := st.m1 a
      have gown := sum_ge own e1 e2 a
      cases sl with
      | nul => exact Nat.lt_irrefl _ y
      | @val u d0 v0 _ r0 him =>
        by_cases q : own u = true
        · have h2 := sum_two own ne e1 e2 es eg a
          have h3 : ctr own (some ⟨u, d0⟩) g a = g a := by show (if own u = true then g else fz) a = g a; rw [if_pos q]
          omega
        · have h2 := st.mn a (by omega)
          cases u with
          | im => rw [him rfl] at y; exact Nat.lt_irrefl _ y
          | vl =>
            have h3 : g a ≤ sumOf frz ρ fs a := sum_ge frz es eg a
            omega
          | mu => exact q rfl
          | rf => exact q rfl
          | lk => exact q rfl
    · have ih' := ih (List.nodup_cons.mp nd).2 (fun j hj => ok j (by simp [hj])) (a := a) (by omega)
      exact ⟨ih'.1, fun {j g} hj eg => ih'.2 (fun q => hj (by simp [q])) eg⟩
theorem rf_le : ∀ {rs : List Nat} {ρ : En} {fs : List FP}, rs.Nodup → (∀ i ∈ rs, ∃ t d f, ρ[i]? = some (some ⟨t, d⟩) ∧ chg t = true ∧ fs[i]? = some f) → ∀ a, rfS rs fs a ≤ sumOf chg ρ fs a
  | [], _, _, _, _, _ => Nat.zero_le _
  | i :: rs, ρ, fs, nd, ok, a => by
    obtain ⟨t, d, f, e1, ct, e2⟩ := ok i (by simp)
    have ni := (List.nodup_cons.mp nd).1
    have r1 : rfS (i :: rs) fs a = f a + rfS rs fs a := by
      show ((fs[i]?).getD fz) a + rfS rs fs a = _
      rw [e2]
      rfl
    have s := sum_set chg ρ fs i (some ⟨t, d⟩) none f fz e1 e2 a
    have cc : ctr chg (some ⟨t, d⟩) f a = f a := by show (if chg t = true then f else fz) a = f a; rw [if_pos ct]
    have z : ctr chg none fz a = 0 := rfl
    have ih := rf_le (ρ := ρ.set i none) (fs := fs.set i fz) (List.nodup_cons.mp nd).2 (fun j hj => by
      obtain ⟨t', d', f', a1, a2, a3⟩ := ok j (by simp [hj])
      have ne : i ≠ j := fun q => ni (q ▸ hj)
      exact ⟨t', d', f', by rw [List.getElem?_set_ne ne]; exact a1, a2, by rw [List.getElem?_set_ne ne]; exact a3⟩) a
    rw [rfS_set ni] at ih
    omega
end
end Ev
end

section
set_option Elab.async false
set_option linter.all false
set_option maxRecDepth 100000
set_option maxHeartbeats 1000000
/-! Calls of the program's own functions: what is behind them. -/
namespace Ev
open PySem L2
section
variable {B : Bs} {σ : St} {H H' : Hp} {ρ ρ2 : En} {fs : List FP} {rs : List Nat} {b : Bool} {ms : List Mode} {xs : List V} {ds outs : List D} {gs hs : List FP}
theorem putOuts_len : ∀ {rs : List Nat} {outs : List D} {ρ ρ2 : En}, putOuts rs outs ρ = some ρ2 → outs.length = rs.length
  | [], [], _, _, _ => rfl
  | [], _ :: _, _, _, e => by cases e
  | _ :: _, [], _, _, e => by cases e
  | i :: rs, d :: outs, ρ, ρ2, e => by
    unfold putOuts at e
    split at e
    · simp [putOuts_len e]
    · cases e
theorem chg_own_c : ∀ t, chg t = true → own t = true := fun _ => own_of_chg
theorem chg_frz_c : ∀ t, chg t = true → frz t = false := fun t h => own_frz (own_of_chg h)
theorem call_step (st : StR B σ H ρ fs) (nd : rs.Nodup) (ax : ArgX B σ H ρ fs rs b ms xs ds gs rs) (fr : FnFr B.P B.w B.K ms xs H gs outs H' hs) (e : putOuts rs outs ρ = some ρ2) : Step B σ H ρ fs rs.isEmpty H' ρ2 (setF rs hs fs) := by
  obtain ⟨k1, k2, k3, k4, k5, k6⟩ := fr
  rw [ax.rfSum] at k1 k5
  obtain ⟨l1, l2, oat⟩ := ax.outs k3
  have P := puts_of nd l2 ax.slots e
  have So := P.sum own true chg_own_c
  have Sc := P.sum chg true (fun _ h => h)
  have Sf := P.sum frz false chg_frz_c
  simp only [if_pos] at So Sc
  simp only [if_neg (by decide : ¬ (false = true)), Nat.add_zero] at Sf
  have ap := fun {a : Addr} (z : 0 < rfS rs fs a) => apart st nd ax.slots z
  have rl : ∀ a, rfS rs fs a ≤ sumOf chg ρ fs a := rf_le nd ax.slots
  have cl := sum_chg_le ρ fs
  have nz : ∀ {p : ST → Bool} {a : Addr}, H a = none → sumOf p ρ fs a = 0 := fun {p a} h => Nat.eq_zero_of_not_pos fun y => by
    obtain ⟨o, e, _⟩ := st.sl.there p a y
    rw [h] at e; cases e
  have slots : Slots B H' ρ2 σ (setF rs hs fs) := by
    refine Slots.of (by rw [P.l1]; exact st.sl.len.1) (by rw [P.l2]; exact st.sl.len.2) fun j s ej => ?_
    by_cases c : j ∈ rs
    · obtain ⟨m, hm⟩ := List.getElem?_of_mem c
      have hml : m < rs.length := (List.getElem?_eq_some_iff.mp hm).1
      have o1 : outs[m]? = some (outs[m]'(by omega)) := List.getElem?_eq_getElem _
      have o2 : hs[m]? = some (hs[m]'(by omega)) := List.getElem?_eq_getElem _
      obtain ⟨t, ct, a1, a2⟩ := P.at_ m j _ _ hm o1 o2
      obtain ⟨x, a3, a4⟩ := oat m j _ _ hm o1 o2
      rw [ej] at a1
      cases a1
      exact ⟨_, _, a3, a2, .val a4 fun q => by subst q; cases ct⟩
    · obtain ⟨o1, o2⟩ := P.off j c
      rw [o1] at ej
      obtain ⟨o, g, e1, e2, sl⟩ := st.sl.get ej
      refine ⟨o, g, e1, by rw [o2]; exact e2, sl.kept fun a u h z => k1 a u h (Nat.eq_zero_of_not_pos fun y => ?_)⟩
      have q := (ap y).2 c e2
      rcases z with z | z
      · omega
      · have h1 := rl a
        obtain ⟨u2, e3, w2⟩ := st.sl.there chg a (by omega)
        rw [h] at e3; cases e3
        exact z w2
  refine ⟨⟨slots, fun a => ?_, fun a z => ?_, fun a o h z => ?_, fun a h => k2 a (st.b2 a h), fun g hg a z => ?_, fun a z => ?_⟩, ⟨fun a o h z => k1 a o h (by have := rl a; omega), k2, fun a z => ?_, fun a z => ?_⟩, fun a => by have := Sf a; omega, fun j d0 ej => ?_, fun z => ?_, P.tag⟩
  · have h1 := So a
    have h2 := st.m1 a
    have h3 := k4 a
    by_cases c : 0 < sumF hs a
    · rcases k5 a c with q | q
      · have := nz (p := own) q; omega
      · omega
    · omega
  · have h1 := So a
    have h2 := Sf a
    by_cases c : 0 < sumOf own ρ fs a
    · have := st.mn a c; omega
    · rcases k5 a (by omega) with q | q
      · have := nz (p := frz) q; omega
      · have := rl a; have := cl a; omega
  · refine k1 a o (st.b1 a o h z) (Nat.eq_zero_of_not_pos fun y => ?_)
    have := rl a; have := cl a
    rcases st.b4 a (by omega) with q | q
    · rw [h] at q; cases q
    · omega
  · obtain ⟨j, hj⟩ := List.getElem?_of_mem hg
    by_cases c : j ∈ rs
    · obtain ⟨m, hm⟩ := List.getElem?_of_mem c
      have hml : m < rs.length := (List.getElem?_eq_some_iff.mp hm).1
      have o1 : outs[m]? = some (outs[m]'(by omega)) := List.getElem?_eq_getElem _
      have o2 : hs[m]? = some (hs[m]'(by omega)) := List.getElem?_eq_getElem _
      obtain ⟨t, ct, a1, a2⟩ := P.at_ m j _ _ hm o1 o2
      rw [hj] at a2
      have eg := Option.some.inj a2
      rw [eg] at z
      have hz : 0 < sumF hs a := by
        have key : ∀ (l : List FP) (m : Nat) (hm : m < l.length), 0 < l[m] a → 0 < sumF l a := fun l => by
          induction l with
          | nil => intro m hm; cases hm
          | cons f l ih =>
            intro m hm q
            show 0 < f a + sumF l a
            cases m with
            | zero => have q' : 0 < f a := q; omega
            | succ m => have := ih m (by simpa using hm) q; omega
        exact key hs m (by omega) z
      rcases k6 a hz with q | q
      · exact .inl (st.b2' q)
      · exact ax.prov st a q
    · rw [(P.off j c).2] at hj
      exact st.b3 g (List.mem_of_getElem? hj) a z
  · have h1 := So a
    by_cases c : 0 < sumOf own ρ fs a
    · exact st.b4 a c
    · rcases k5 a (by omega) with q | q
      · exact .inl (st.b2' q)
      · have := rl a; have := cl a; omega
  · have h1 := So a
    by_cases c : 0 < sumOf own ρ fs a
    · exact .inl c
    · rcases k5 a (by omega) with q | q
      · exact .inr q
      · have := rl a; have := cl a; omega
  · have h1 := Sc a
    by_cases c : 0 < sumOf chg ρ fs a
    · exact .inl c
    · rcases k5 a (by omega) with q | q
      · exact .inr q
      · have := rl a; omega
  · have c : j ∉ rs := fun c => by
      obtain ⟨t, d, f, e1, ct, e2⟩ := ax.slots j c
      rw [ej] at e1
      cases e1
      cases ct
    obtain ⟨o1, o2⟩ := P.off j c
    exact ⟨by rw [o1]; exact ej, o2⟩
  · cases rs with
    | cons _ _ => cases z
    | nil =>
      cases outs with
      | cons _ _ => cases e
      | nil =>
        cases e
        refine ⟨fun a o h => k1 a o h rfl, rfl, ?_⟩
        cases hs <;> rfl
theorem call_tag {v v' : RV} {x : V} {f : FP} (st : StR B σ H ρ fs) (nd : rs.Nodup) (ax : ArgX B σ H ρ fs rs b ms xs ds gs rs) (fr : FnFr B.P B.w B.K ms xs H gs outs H' hs) (e : putOuts rs outs ρ = some ρ2)
    (ev : resT b v = some v') (r : Rep B.P B.w B.K H' x v.d f) (tg : FnTag ms H gs hs v.t f) : ∃ f', Rep B.P B.w B.K H' x v'.d f' ∧ TagOk H ρ fs ρ2 (setF rs hs fs) v'.t f' ∧ ∀ a, 0 < f' a → B.H0 a = none ∨ B.A0 a := by
  obtain ⟨k1, k2, k3, k4, k5, k6⟩ := fr
  have ers := ax.rfSum
  obtain ⟨l1, l2, oat⟩ := ax.outs k3
  have P := puts_of nd l2 ax.slots e
  have So := P.sum own true chg_own_c
  have Sf := P.sum frz false chg_frz_c
  simp only [if_pos] at So
  simp only [if_neg (by decide : ¬ (false = true)), Nat.add_zero] at Sf
  have rl : ∀ a, rfS rs fs a ≤ sumOf chg ρ fs a := rf_le nd ax.slots
  have cl := sum_chg_le ρ fs
  have nz : ∀ {p : ST → Bool} {a : Addr}, H a = none → sumOf p ρ fs a = 0 := fun {p a} h => Nat.eq_zero_of_not_pos fun y => by
    obtain ⟨o, e, _⟩ := st.sl.there p a y
    rw [h] at e; cases e
  unfold resT at ev
  split at ev
  · rename_i et
    cases ev
    rw [et] at tg
    have tg' : f = fz := tg
    exact ⟨f, r, by rw [et]; exact tg', fun a z => by rw [tg'] at z; exact absurd z (Nat.lt_irrefl _)⟩
  · rename_i et
    cases ev
    rw [et] at tg
    refine ⟨f, r, by
      rw [et]
      refine fun a => ⟨(tg a).1, fun z => ?_⟩
      obtain ⟨t1, t2⟩ := (tg a).2 z
      rw [ers] at t2
      have h1 := So a
      have h2 := st.m1 a
      have h3 := Sf a
      rcases t2 with q | q
      · have := nz (p := own) q
        have := nz (p := frz) q
        exact ⟨by omega, by omega, .inl q⟩
      · have := rl a
        have := cl a
        have := st.mn a (by omega)
        exact ⟨by omega, by omega, .inr (by omega)⟩, fun a z => ?_⟩
    obtain ⟨t1, t2⟩ := (tg a).2 z
    rcases t2 with q | q
    · exact .inl (st.b2' q)
    · refine ax.prov st a ?_
      have key : ∀ (ms : List Mode) (gs : List FP), mSum isRf ms gs a ≤ sumF gs a := fun ms => by
        induction ms with
        | nil => intro gs; exact Nat.zero_le _
        | cons m ms ih =>
          intro gs
          cases gs with
          | nil => exact Nat.zero_le _
          | cons g gs =>
            have := ih gs
            show (if isRf m then g else fz) a + mSum isRf ms gs a ≤ g a + sumF gs a
            split
            · omega
            · have z : fz a = 0 := rfl
              omega
      have := key ms gs
      omega
  · rename_i et
    rw [et] at tg
    split at ev
    · split at ev
      · rename_i im
        cases ev
        have ef := r.imm im
        exact ⟨f, r, ef, fun a z => by rw [ef] at z; exact absurd z (Nat.lt_irrefl _)⟩
      · cases ev
    · rename_i hb
      cases ev
      refine ⟨f, r, by
        rw [et]
        intro a z
        obtain ⟨t1, t2⟩ := tg a z
        have h1 := So a
        have h2 := st.m1 a
        rcases t2 with q | q
        · have := nz (p := own) q
          omega
        · rcases ax.split a q with q | q | ⟨q, _⟩
          · have := rl a; have := cl a; omega
          · omega
          · exact absurd q hb, fun a z => ?_⟩
      obtain ⟨t1, t2⟩ := tg a z
      rcases t2 with q | q
      · exact .inl (st.b2' q)
      · exact ax.prov st a q
  · cases ev
end

section
variable {I : Info} {G : Tab} {C : Nat → Option D} {exV : Nat → Value} {B : Bs} {k : Nat} {rd wr : Scope} {W : WX} {X : Cx} {pos : Pos}
/-- from the arguments to the callee's promise -/
theorem call_read {F : Fn} {σ : St} {H H1 : Hp} {ρ ρ1 : En} {fs fs1 : List FP} {p pm : Bool} {vas : List (Option Nat)} {vs : List RV} {xs : List V} {gs : List FP} {rs : List Nat} {Q : VK} (A : PostA B σ H ρ fs p vas vs xs H1 gs ρ1 fs1)
    (hrs : RsOk F.modes vas rs) (hpm : pm = true → p = true ∧ rs.isEmpty = true) (q : RunR exV B W σ H1 ρ1 fs1 (callF F (some rs) vs ρ1) fun v ρ' => KE B σ H ρ fs pm none Q v ρ') : spF B.P B.w B.K exV F xs H1 Q (WE W σ) := by
  unfold callF at q
  dsimp only at q
  split at q
  · rename_i nd
    split at q
    · exact q.elim
    · rename_i ds ed
      obtain ⟨gs', ax⟩ := arg_build (b := anyTm F.modes vs) A.stp.st A.reps A.vr hrs ed (fun z => z)
      have st := A.stp.st
      have rl := rf_le nd ax.slots
      have cl := sum_chg_le ρ1 fs1
      refine ⟨ds, gs', ax.argsR, fun a => ?_, fun a z => ?_, ?_⟩
      · rw [ax.rfSum]
        have := rl a; have := cl a; have := st.m1 a
        omega
      · rw [ax.rfSum] at z
        refine Nat.eq_zero_of_not_pos fun y => ?_
        have := rl a; have := cl a
        obtain ⟨j, g, n, e1, e2⟩ := ax.vlSplit a y (by omega)
        have := (apart st nd ax.slots z).2 n e1
        omega
      · split at q
        · rename_i v outs es
          try rw [es]
          split at q
          · rename_i ρ2 v' e1 e2
            intro x H' f hs fr r tg
            have S := call_step st nd ax fr e1
            obtain ⟨f', r', t', pv⟩ := call_tag st nd ax fr e1 e2 r tg
            refine q x H' f' _ ⟨(A.stp.trans S).weak fun z => ?_, r', t'.back A.stp, pv, fun _ e => nomatch e⟩
            obtain ⟨z1, z2⟩ := hpm z
            rw [z1, z2]; rfl
          · exact q.elim
        · rename_i c outs es
          try rw [es]
          split at q
          · rename_i ρ2 e1
            intro H' hs fr
            have S := call_step st nd ax fr e1
            exact q H' _ (S.weak fun z => nomatch z)
          · exact q.elim
        · exact q.elim
  · exact q.elim
theorem ok_calls (g : Gd I G C exV B k rd wr W X) {f : Nat} {as : MEs} {x : Str} {y : Expr} {ys : List Expr} {p : Pos} (hf : I.fns[f]? = some x) (hg : glob rd x = true) (hy : chks I rd wr as (y :: ys) = true) (ha : PA X (y :: ys) (tEvs G C exV B W as))
    {t : TE} (ht : ∀ F, G f = some F → ∀ σ H Q, t σ H Q → tEvs G C exV B W as σ H fun xs H1 => spF B.P B.w B.K exV F xs H1 Q (WE W σ)) : PE X (.Call (.Name x p) (y :: ys) [] pos) t := by
  obtain ⟨F, fa', fd, ps, e1, e2, e3, e4, e5⟩ := g.fun_ f x hf
  obtain ⟨g1, g2⟩ := glob_gl g.esc hg
  have hs := chks_star hy X.env
  have he : starEach (y :: ys) X.env = (false, eval y X.env) :: starEach ys X.env := by
    cases as with
    | nil => simp [chks] at hy
    | cons a as =>
      have h' : chk I rd wr a y = true ∧ chks I rd wr as ys = true := by simpa [chks] using hy
      exact chk_plain h'.1 ys X.env
  have hpl : (backTo pos (starEach ys X.env)).any (·.1) = false := by
    cases as with
    | nil => simp [chks] at hy
    | cons a as =>
      have h' : chk I rd wr a y = true ∧ chks I rd wr as ys = true := by simpa [chks] using hy
      exact back_plain (chks_star h'.2 X.env)
  refine PE.weak (pe_callS e5 g.room g1 e2 e3 e4 (passAt g.takes) ha g2 he hpl) fun σ H Q q => ?_
  have q := ht F e1 σ H Q q
  show tEvs G C exV B W as σ H fun xs H1 => spF X.prog X.w X.K exV F xs H1 Q (WE W σ)
  rw [g.eP, g.ew, g.eK]
  exact q
theorem ok_callm (g : Gd I G C exV B k rd wr W X) {f : Nat} {as : MEs} {x : Str} {y : Expr} {ys : List Expr} {p : Pos} (hf : I.fns[f]? = some x) (hg : glob rd x = true) (hy : chks I rd wr as (y :: ys) = true) (ha : PA X (y :: ys) (tEvs G C exV B W as)) :
    PE X (.Call (.Name x p) (y :: ys) [] pos) (tEv G C exV B W (.callm f as)) := by
  refine ok_calls g hf hg hy ha fun F eF σ H Q q => ?_
  obtain ⟨ρ, fs, st, q⟩ := q
  unfold ev at q
  refine then_s st q fun vs ρ1 xs H1 gs fs1 A q => ?_
  rw [eF] at q
  dsimp only at q
  cases er : rfSlots F.modes as with
  | none => rw [er] at q; exact q.elim
  | some rs =>
    rw [er] at q
    exact call_read (pm := false) A (rs_of er) (fun z => nomatch z) q
theorem argOk_len {rs0 : List Nat} {ρ : En} : ∀ {ms : List Mode} {rs : List Nat} {vs : List RV} {ds : List D}, argOk rs0 ρ ms rs vs = some ds → ms.length = vs.length
  | [], [], [], _, _ => rfl
  | [], _ :: _, _, _, e => by cases e
  | [], [], _ :: _, _, e => by cases e
  | .im :: ms, rs, [], _, e => by cases rs <;> cases e
  | .vl :: ms, rs, [], _, e => by cases rs <;> cases e
  | .rf :: ms, rs, [], _, e => by cases rs <;> cases e
  | .im :: ms, rs, v :: vs, ds, e => by
    unfold argOk at e
    split at e
    · obtain ⟨ds', e1, rfl⟩ := Option.map_eq_some_iff.mp e
      simp [argOk_len e1]
    · cases e
  | .vl :: ms, rs, v :: vs, ds, e => by
    unfold argOk at e
    split at e
    · split at e
      · cases e
      · obtain ⟨ds', e1, rfl⟩ := Option.map_eq_some_iff.mp e
        simp [argOk_len e1]
    · obtain ⟨ds', e1, rfl⟩ := Option.map_eq_some_iff.mp e
      simp [argOk_len e1]
  | .rf :: ms, [], v :: vs, ds, e => by cases e
  | .rf :: ms, i :: rs, v :: vs, ds, e => by
    unfold argOk at e
    split at e
    · obtain ⟨ds', e1, rfl⟩ := Option.map_eq_some_iff.mp e
      simp [argOk_len e1]
    · obtain ⟨ds', e1, rfl⟩ := Option.map_eq_some_iff.mp e
      simp [argOk_len e1]
    · cases e
theorem ok_call (g : Gd I G C exV B k rd wr W X) {f : Nat} {as : MEs} {x : Str} {y : Expr} {ys : List Expr} {p : Pos} (hf : I.fns[f]? = some x) (hg : glob rd x = true) (hy : chks I rd wr as (y :: ys) = true) (ha : PA X (y :: ys) (tEvs G C exV B W as)) :
    PE X (.Call (.Name x p) (y :: ys) [] pos) (tEv G C exV B W (.call f as)) := by
  refine ok_calls g hf hg hy ha fun F eF σ H Q q => ?_
  obtain ⟨ρ, fs, st, q⟩ := q
  unfold ev at q
  refine then_s st q fun vs ρ1 xs H1 gs fs1 A q => ?_
  rw [eF] at q
  dsimp only at q
  split at q
  · exact q.elim
  · rename_i c
    have hl : F.modes.length = as.slots.length := by
      have q' := q
      unfold callF at q'
      dsimp only at q'
      split at q'
      · split at q'
        · exact q'.elim
        · rename_i ds ed
          rw [argOk_len ed, ← A.reps.len, A.vr.len]
      · exact q'.elim
    exact call_read A (rs_none hl (by simpa using c)) (fun z => ⟨z, rfl⟩) q
end
end Ev
end

section
set_option Elab.async false
set_option linter.all false
set_option maxRecDepth 100000
set_option maxHeartbeats 1000000
/-! What a loop or a comprehension walks. -/
namespace Ev
open PySem L2
/-- J walks the data of r; f: what it leans on -/
structure Src (B : Bs) (H H1 : Hp) (ρ : En) (fs : List FP) (ρ1 : En) (fs1 : List FP) (r : IR) (J : It) (f : FP) : Prop where
  tag : TagOk H ρ fs ρ1 fs1 r.root f
  prov : ∀ a, 0 < f a → B.H0 a = none ∨ B.A0 a
  live : ∀ a, 0 < f a → H1 a ≠ none
  it : r.t = r.root.item ∨ r.t = .im
  go : ∀ H', Kept H1 H' f → ∀ (i : Nat) (d : D), r.ds[i]? = some d → J.go i H' ∧ ∀ x H'', J.yld i H' x H'' → Same H' H'' ∧ ∃ h, Rep B.P B.w B.K H'' x d h ∧ (∀ a, h a ≤ f a) ∧ (r.t = .im → h = fz)
  stop : ∀ H', Kept H1 H' f → J.stop r.ds.length H'
section
variable (G : Tab) (C : Nat → Option D) (exV : Nat → Value) (B : Bs) (W : WX)
def tEvi (m : IT) : TI := fun σ H R => ∃ ρ fs, StR B σ H ρ fs ∧ RunR exV B W σ H ρ fs (evi G C m ρ) fun r ρ' => ∀ J H' f fs', Step B σ H ρ fs m.pure H' ρ' fs' → Src B H H' ρ fs ρ' fs' r J f → R J H'
end
theorem PI.weak {X : Cx} {tg e : Expr} {t t' : TI} (h : PI X tg e t) (q : ∀ σ H Q, t' σ H Q → t σ H Q) : PI X tg e t' := ⟨fun pins s σ H Q I hq => h.run pins s σ H Q I (q σ H Q hq)⟩
section
variable {X : Cx} {tg : Expr}
/-- a list or a tuple is walked -/
def iSeq (K : PySem.W.Frag) (tl : TE) : TI := fun σ H R => tl σ H fun x H1 => ∃ a, x = .ref a ∧ (((∃ xs, SqL K H1 a xs) ∧ R (Itl K a) H1) ∨ ((∃ xs, SqT K H1 a xs) ∧ R (Itt K a) H1))
theorem pi_seq {l : Expr} {tl : TE} (hl : PE X l tl) : PI X tg l (iSeq X.K tl) := by
  refine ⟨fun pins s σ H R I h => ?_⟩
  refine thn (hl.run pins s σ H _ I h) fun v s1 ⟨x, H1, I1, r1, q1⟩ => ?_
  obtain ⟨a, e, q1⟩ := q1
  subst e
  cases r1
  rcases q1 with ⟨⟨xs, hq⟩, q⟩ | ⟨⟨xs, hq⟩, q⟩
  · obtain ⟨its, rv, p, hz⟩ := I1.list hq
    refine wpAny_pyIter_list p.isList ?_
    refine ⟨s1.heap.objs.size, [s1.heap.objs.size], _, _, H1, rfl, I1.kept (t' := s1.toks) fun b o e => Heap.get?_push_of_some _ e, turn_list a _, ⟨_, Heap.get?_push_size _ rfl, rfl, rfl⟩, fun b hb => ?_, q⟩
    have e : b = s1.heap.objs.size := by simpa using hb
    subst e
    exact I1.fpOk (Nat.le_refl _) (I1.hok.fresh (Nat.le_refl _))
  · obtain ⟨its, rv, p, hz⟩ := I1.tuple hq
    refine wpAny_pyIter_tuple (show s1.heap.IsTuple a its.toArray from p) ?_
    refine ⟨s1.heap.objs.size, [s1.heap.objs.size], _, _, H1, rfl, I1.kept (t' := s1.toks) fun b o e => Heap.get?_push_of_some _ e, turn_tuple a _, ⟨_, Heap.get?_push_size _ rfl, rfl, rfl⟩, fun b hb => ?_, q⟩
    have e : b = s1.heap.objs.size := by simpa using hb
    subst e
    exact I1.fpOk (Nat.le_refl _) (I1.hok.fresh (Nat.le_refl _))
end
section
variable {B : Bs} {H H1 : Hp} {ρ ρ1 : En} {fs fs1 : List FP} {f : FP} {t : RT}
theorem item_z {t : RT} (tg : TagOk H ρ fs ρ1 fs1 t f) (h : t.item = .im) : f = fz := by
  cases t <;> first | exact tg | cases h
theorem src_list {a : Addr} {vs : List V} {ds : List D} {g : FP} (hh : H1 a = some (.lst vs)) (l : RepL B.P B.w B.K H1 vs ds g) (tg : TagOk H ρ fs ρ1 fs1 t (fa (Ev.fs a) g)) (pv : ∀ b, 0 < fa (Ev.fs a) g b → B.H0 b = none ∨ B.A0 b) :
    Src B H H1 ρ fs ρ1 fs1 ⟨t, t.item, ds⟩ (Itl B.K a) (fa (Ev.fs a) g) := by
  have hk : ∀ {H'}, Kept H1 H' (fa (Ev.fs a) g) → H' a = some (.lst vs) ∧ RepL B.P B.w B.K H' vs ds g := fun k => ⟨k a _ hh (.inl fa_self), l.kept (k.mono fun _ z => fa_right z)⟩
  refine ⟨tg, pv, fun b z e => ?_, .inl rfl, fun H' k i d e => ?_, fun H' k => ?_⟩
  · obtain ⟨o, eo, _⟩ := (Rep.lst hh l).there b z
    rw [e] at eo; cases eo
  · obtain ⟨h1, l1⟩ := hk k
    obtain ⟨v, h, e1, r, le⟩ := l1.get e
    refine ⟨⟨vs, v, .inl (.inl h1), e1⟩, fun x H'' y => ?_⟩
    obtain ⟨rfl, y⟩ := y
    have e2 := y vs (.inl (.inl h1))
    rw [e1] at e2; cases e2
    refine ⟨Same.refl _, h, r, fun b => Nat.le_trans (le b) (Nat.le_add_left _ _), fun q => ?_⟩
    have z := item_z tg q
    exact funext fun b => by
      have h1 : Ev.fs a b + g b = 0 := congrFun z b
      have h2 := le b
      show h b = 0
      omega
  · obtain ⟨h1, l1⟩ := hk k
    exact ⟨vs, .inl (.inl h1), by rw [l1.length]; exact Nat.le_refl _⟩
/-- what a tuple's own rule says: it yields what the tuple bears, whichever way it is told -/
theorem src_tup {a : Addr} {vs : List V} {ds : List D} (hh : SqT B.K H1 a vs) (l : RepL B.P B.w B.K H1 vs ds f) (tg : TagOk H ρ fs ρ1 fs1 t f) (pv : ∀ b, 0 < f b → B.H0 b = none ∨ B.A0 b) :
    Src B H H1 ρ fs ρ1 fs1 ⟨t, t.item, ds⟩ (Itt B.K a) f := by
  refine ⟨tg, pv, fun b z e => ?_, .inl rfl, fun H' k i d e => ?_, fun H' k => ?_⟩
  · obtain ⟨o, eo, _⟩ := l.there b z
    rw [e] at eo; cases eo
  · obtain ⟨v, h, e1, r, le⟩ := (l.kept k).get e
    refine ⟨⟨vs, v, SqT.kept k hh, e1⟩, fun x H'' y => ?_⟩
    obtain ⟨rfl, y⟩ := y
    have e2 := y vs (SqT.kept k hh)
    rw [e1] at e2; cases e2
    refine ⟨Same.refl _, h, r, le, fun q => ?_⟩
    have z := item_z tg q
    exact funext fun b => by
      have h1 : f b = 0 := congrFun z b
      have h2 := le b
      show h b = 0
      omega
  · exact ⟨vs, SqT.kept k hh, by rw [l.length]; exact Nat.le_refl _⟩
theorem src_rng {lo : Int} {n : Nat} {ds : List D} (hd : ∀ i, i < n → ds[i]? = some (.int (lo + i))) (hl : ds.length = n) : Src B H H1 ρ fs ρ1 fs1 ⟨.im, .im, ds⟩ (Itr lo n) fz := by
  refine ⟨rfl, fun a z => absurd z (Nat.lt_irrefl _), fun a z => absurd z (Nat.lt_irrefl _), .inl rfl, fun H' k i d e => ?_, fun H' k => by show n ≤ ds.length; omega⟩
  have hi : i < n := by rw [← hl]; exact (List.getElem?_eq_some_iff.mp e).1
  have e : ds[i]? = some d := e
  rw [hd i hi] at e
  cases e
  refine ⟨hi, fun x H'' y => ?_⟩
  obtain ⟨rfl, rfl⟩ := y
  exact ⟨Same.refl _, fz, .int _, fun _ => Nat.le_refl _, fun _ => rfl⟩
end
section
variable {I : Info} {G : Tab} {C : Nat → Option D} {exV : Nat → Value} {B : Bs} {k : Nat} {rd wr : Scope} {W : WX} {X : Cx} {pos : Pos} {tg : Expr}
theorem ok_rng (g : Gd I G C exV B k rd wr W X) {as : MEs} {es : List Expr} {x : Str} {p : Pos} (hx : x = "range") (hg : glob rd x = true) (hy : chks I rd wr as es = true) (ha : PA X es (tEvs G C exV B W as)) (h12 : es.length = 1 ∨ es.length = 2) :
    PI X tg (.Call (.Name x p) es [] pos) (tEvi G C exV B W (.rng as)) := by
  obtain ⟨g1, g2⟩ := gl_b g hg (by rw [hx]; simp)
  subst hx
  have hs := chks_star hy X.env
  have key : ∀ {σ H} {R : It → Hp → Prop}, tEvi G C exV B W (.rng as) σ H R → tEvs G C exV B W as σ H fun vs H1 => (∃ j : Int, vs = [.int j] ∧ (-(2 ^ 62) ≤ j ∧ j < 2 ^ 62 ∧ R (Itr 0 j.toNat) H1)) ∨ (∃ i j : Int, vs = [.int i, .int j] ∧ (-(2 ^ 62) ≤ i ∧ i < 2 ^ 62 ∧ -(2 ^ 62) ≤ j ∧ j < 2 ^ 62) ∧ R (Itr i (j - i).toNat) H1) := fun {σ H R} q => by
    obtain ⟨ρ, fs, st, q⟩ := q
    unfold evi at q
    refine then_s st q fun vs ρ1 xs H1 gs fs1 A q => ?_
    obtain ⟨r, e, q⟩ := q.of
    unfold rngD at e
    split at e
    · split at e
      · rename_i c
        cases e
        obtain ⟨x, f, rfl, r1, -, -⟩ := rt1 A.reps
        cases r1
        refine .inl ⟨_, rfl, c.1, c.2, q _ _ fz _ A.stp (src_rng (fun i hi => ?_) (by simp))⟩
        rw [List.getElem?_map, List.getElem?_range hi]
        simp
      · cases e
    · split at e
      · rename_i c
        cases e
        obtain ⟨x, y, f, f', rfl, r1, r2⟩ := rt2 A.reps
        cases r1; cases r2
        refine .inr ⟨_, _, rfl, c, q _ _ fz _ A.stp (src_rng (fun i hi => ?_) (by simp))⟩
        rw [List.getElem?_map, List.getElem?_range hi]
        simp
      · cases e
    · cases e
  rcases h12 with h | h
  · match es, h with
    | [a], _ =>
      refine PI.weak (pi_range1 g1 g2 ha hs) fun σ H R q => ?_
      obtain ⟨ρ, fs, st, q⟩ := key q
      refine ⟨ρ, fs, st, q.mono fun vs ρ1 q xs H1 gs fs1 A => ?_⟩
      rcases q xs H1 gs fs1 A with ⟨j, rfl, h1, h2, q⟩ | ⟨i, j, e, _⟩
      · exact ⟨j, rfl, h1, h2, q⟩
      · have := A.vr.len
        rw [e, chks_len hy] at this
        cases this
  · match es, h with
    | [a, b], _ =>
      refine PI.weak (pi_range2 g1 g2 ha hs (by
        cases as with
        | nil => simp [chks] at hy
        | cons c cs =>
          have h' : chk I rd wr c a = true ∧ chks I rd wr cs [b] = true := by simpa [chks] using hy
          exact chks_star h'.2 X.env)) fun σ H R q => ?_
      obtain ⟨ρ, fs, st, q⟩ := key q
      refine ⟨ρ, fs, st, q.mono fun vs ρ1 q xs H1 gs fs1 A => ?_⟩
      rcases q xs H1 gs fs1 A with ⟨j, e, _⟩ | ⟨i, j, rfl, h1, q⟩
      · have := A.vr.len
        rw [e, chks_len hy] at this
        cases this
      · exact ⟨i, j, rfl, h1, q⟩
end
end Ev
end

section
set_option Elab.async false
set_option linter.all false
set_option maxRecDepth 100000
set_option maxHeartbeats 1000000
/-! Dicts of tuples are walked: their keys, their values. -/
namespace Ev
open PySem L2
def ItD (a : Addr) (φ : Heap → Prop) (us : List V) : It :=
  ⟨fun i H => H a = some (.ext φ) ∧ i < us.length, fun i H x H' => H' = H ∧ us[i]? = some x, fun i H => H a = some (.ext φ) ∧ us.length ≤ i⟩
section
variable {P : Program} {w : World} {K : PySem.W.Frag} {tg : Expr} {a : Addr} {φ : Heap → Prop} {us : List V} {es : Array DictEntry} {ep : Nat}
theorem turn_dk (it : Addr) (R : ∀ h, φ h → h.DictRaw a es ep) (hl : us.length = es.size) (hk : ∀ (i : Nat) (x : V), us[i]? = some x → ∃ e : i < es.size, RelV x es[i].key) : Turn P w K tg (ItD a φ us) [it] it (fun i h => h.IsKeyIter it a i es.size ep) where
  mem := by simp
  obj := fun i h st b hb => by
    have e : b = it := by simpa using hb
    subst e
    obtain ⟨oi, e, c, dd⟩ := st
    exact ⟨oi, e, fun v z => by rw [dd] at z; cases z⟩
  keep := fun i h h' st k => st.at fun oi e => k it (by simp) oi e
  item := by
    intro X hP hw hK hc i pins s σ H E I hf st hg
    subst hP hw hK
    obtain ⟨hd, hi⟩ := hg
    obtain ⟨f0, f1, f2, f3, f4, f5⟩ := hf it (by simp)
    obtain ⟨q, _, _⟩ := (show ObjOk X.prog X.w H s.heap a (.ext φ) from I.hok a _ hd)
    have hm := R _ q
    obtain ⟨hi', ru⟩ := hk i us[i] (List.getElem?_eq_getElem hi)
    refine wpAny_pyNext_keys_item_raw st hm hi' fun h' st' sb => ?_
    have I1 : Inv X pins σ H { s with heap := h' } := I.turned (t' := s.toks) (fun b ob hb e => (sb.2 b hb).trans e) f0 f1 f3 f4 f5
    obtain ⟨oi, e, c, dd⟩ := id st'
    exact ⟨_, rfl, go_of (s := { s with heap := h' }) e c dd (by decide) ⟨us[i], H, I1, ru, ⟨rfl, List.getElem?_eq_getElem hi⟩, st', fun b hb => (hf b hb).1⟩⟩
  done := by
    intro X hP hw hK hc i pins s σ H E I hf st hg
    subst hP hw hK
    obtain ⟨hd, hi⟩ := hg
    obtain ⟨f0, f1, f2, f3, f4, f5⟩ := hf it (by simp)
    obtain ⟨q, _, _⟩ := (show ObjOk X.prog X.w H s.heap a (.ext φ) from I.hok a _ hd)
    have hm := R _ q
    exact wpAny_pyNext_keys_end_raw (I.ok.hd hc) st hm (by omega) fun h' eb => ⟨rfl, I.turned (t' := s.toks) (fun b ob hb e => eb b ob hb e) f0 f1 f3 f4 f5⟩
  self := fun A i s Q E st h => wpAny_pyIter_keyiter st h
theorem turn_dv (it : Addr) (R : ∀ h, φ h → h.DictRaw a es ep) (hl : us.length = es.size) (hk : ∀ (i : Nat) (x : V), us[i]? = some x → ∃ e : i < es.size, RelV x es[i].val) : Turn P w K tg (ItD a φ us) [it] it (fun i h => h.IsValIter it a i es.size ep) where
  mem := by simp
  obj := fun i h st b hb => by
    have e : b = it := by simpa using hb
    subst e
    obtain ⟨oi, e, c, dd⟩ := st
    exact ⟨oi, e, fun v z => by rw [dd] at z; cases z⟩
  keep := fun i h h' st k => st.at fun oi e => k it (by simp) oi e
  item := by
    intro X hP hw hK hc i pins s σ H E I hf st hg
    subst hP hw hK
    obtain ⟨hd, hi⟩ := hg
    obtain ⟨f0, f1, f2, f3, f4, f5⟩ := hf it (by simp)
    obtain ⟨q, _, _⟩ := (show ObjOk X.prog X.w H s.heap a (.ext φ) from I.hok a _ hd)
    have hm := R _ q
    obtain ⟨hi', ru⟩ := hk i us[i] (List.getElem?_eq_getElem hi)
    refine wpAny_pyNext_values_item_raw st hm hi' fun h' st' sb => ?_
    have I1 : Inv X pins σ H { s with heap := h' } := I.turned (t' := s.toks) (fun b ob hb e => (sb.2 b hb).trans e) f0 f1 f3 f4 f5
    obtain ⟨oi, e, c, dd⟩ := id st'
    exact ⟨_, rfl, go_of (s := { s with heap := h' }) e c dd (by decide) ⟨us[i], H, I1, ru, ⟨rfl, List.getElem?_eq_getElem hi⟩, st', fun b hb => (hf b hb).1⟩⟩
  done := by
    intro X hP hw hK hc i pins s σ H E I hf st hg
    subst hP hw hK
    obtain ⟨hd, hi⟩ := hg
    obtain ⟨f0, f1, f2, f3, f4, f5⟩ := hf it (by simp)
    obtain ⟨q, _, _⟩ := (show ObjOk X.prog X.w H s.heap a (.ext φ) from I.hok a _ hd)
    have hm := R _ q
    exact wpAny_pyNext_values_end_raw (I.ok.hd hc) st hm (by omega) fun h' eb => ⟨rfl, I.turned (t' := s.toks) (fun b ob hb e => eb b ob hb e) f0 f1 f3 f4 f5⟩
  self := fun A i s Q E st h => wpAny_pyIter_valiter st h
end
/-- a dict of tuples: what is told of it -/
structure DT (P : Program) (w : World) (K : PySem.W.Frag) (H : Hp) (x : V) (ks ds : List D) (f : FP) (a : Addr) (e : DE) (us vs : List V) (f' : FP) : Prop where
  ex : x = .ref a
  ef : f = fa (Ev.fs a) f'
  hh : H a = some (.ext (DE.phi P w a e))
  ns : (a == sysModules) = false
  keys : RepL P w K H us ks fz
  vals : RepL P w K H vs ds f'
  pk : ∃ o xs, (e = .tp o xs ∨ (xs = [] ∧ e = .lf o [])) ∧ us = xs.map (fun y => V.ref y.2.1) ∧ Vals vs (xs.map (·.2.2))
theorem dt_of {P : Program} {w : World} {K : PySem.W.Frag} {H : Hp} {x : V} {ks ds : List D} {f : FP} (r : Rep P w K H x (.dic ks ds) f) (h : ks.all D.isTup = true) : ∃ a e us vs f', DT P w K H x ks ds f a e us vs f' := by
  cases r with
  | dicT h1 h2 h3 h4 h5 h6 h7 h8 h9 => exact ⟨_, _, _, _, _, rfl, rfl, h1, h2, h7, h9, _, _, .inl rfl, rfl, h8⟩
  | @dicL a o xs ks ds vs f h1 h2 h3 h4 h5 h6 h7 h8 =>
    have z : ks = [] := all_eq_nil (b := true) (fun k' hk => List.all_eq_true.mp h k' hk) fun k' hk => by simpa using List.all_eq_true.mp h6 k' hk
    subst z
    have zx : xs = [] := by simpa using h4
    subst zx
    exact ⟨_, _, [], _, _, rfl, rfl, h1, h2, .nil, h8, o, [], .inr ⟨rfl, rfl⟩, rfl, h7⟩
section
variable {X : Cx} {pins : List (Addr × Obj)} {σ : St} {H : Hp} {s : Shared}
theorem dt_raw (I : Inv X pins σ H s) {x : V} {ks ds : List D} {f : FP} {a : Addr} {e : DE} {us vs : List V} {f' : FP} (d : DT X.prog X.w X.K H x ks ds f a e us vs f') :
    ∃ (o : Obj) (es : Array DictEntry) (ep : Nat), s.heap.get? a = some o ∧ o.ExactDict ∧ o.data = .dict es ep ∧ (∀ h, DE.phi X.prog X.w a e h → h.DictRaw a es ep) ∧ us.length = es.size ∧ vs.length = es.size ∧ (∀ (i : Nat) (x : V), us[i]? = some x → ∃ e : i < es.size, RelV x es[i].key) ∧ (∀ (i : Nat) (x : V), vs[i]? = some x → ∃ e : i < es.size, RelV x es[i].val) := by
  obtain ⟨q, _, _⟩ := (show ObjOk X.prog X.w H s.heap a (.ext _) from I.hok a _ d.hh)
  obtain ⟨o, xs, c, rfl, vv⟩ := d.pk
  rcases c with rfl | ⟨rfl, rfl⟩
  · obtain ⟨es, ep, q1, q2, q3, q4, q5⟩ := q
    have sz : es.size = xs.length := size_of_entries q4
    have lv := vv.length
    simp at lv
    refine ⟨o, es, ep, q1, q2, q3, fun h hφ => ?_, by simp [sz], by omega, fun i x ex => ?_, fun i x ex => ?_⟩
    · obtain ⟨es', ep', r1, r2, r3, _⟩ := hφ
      obtain ⟨rfl, rfl⟩ := dict_ep q3 r3
      exact ⟨o, r1, r2, q3⟩
    · rw [List.getElem?_map] at ex
      obtain ⟨y, ey, rfl⟩ := Option.map_eq_some_iff.mp ex
      have hi : i < es.size := by rw [sz]; exact (List.getElem?_eq_some_iff.mp ey).1
      have z := entry_at q4 i
      rw [ey, Array.getElem?_eq_getElem hi] at z
      have z := Option.some.inj z
      refine ⟨hi, ?_⟩
      rw [z]
      exact rfl
    · obtain ⟨u, eu, ru⟩ := vv.get ex
      rw [List.getElem?_map] at eu
      obtain ⟨y, ey, rfl⟩ := Option.map_eq_some_iff.mp eu
      have hi : i < es.size := by rw [sz]; exact (List.getElem?_eq_some_iff.mp ey).1
      have z := entry_at q4 i
      rw [ey, Array.getElem?_eq_getElem hi] at z
      have z := Option.some.inj z
      refine ⟨hi, ?_⟩
      rw [z]
      exact ru
  · obtain ⟨q0, o', es, ep, q1, q2, q3, q4, q5, q6⟩ := q
    rw [q0] at q1
    cases q1
    have he : es = #[] := by
      generalize hes : es.toList = le at q5
      cases q5
      simpa using hes
    subst he
    have ev : vs = [] := by cases vv; rfl
    subst ev
    refine ⟨o, #[], ep, q0, q2, q3, fun h hφ => ?_, rfl, rfl, fun i x ex => by simp at ex, fun i x ex => by simp at ex⟩
    obtain ⟨r0, o', es, ep', r1, r2, r3, _⟩ := hφ
    rw [r0] at r1
    cases r1
    obtain ⟨rfl, rfl⟩ := dict_ep q3 r3
    exact ⟨o, r0, r2, r3⟩
end
def iKeysD (B : Program × World × PySem.W.Frag) (td : TE) : TI := fun σ H R => td σ H fun x H1 => ∃ ks ds f a e us vs f', DT B.1 B.2.1 B.2.2 H1 x ks ds f a e us vs f' ∧ R (ItD a (DE.phi B.1 B.2.1 a e) us) H1
def iValsD (B : Program × World × PySem.W.Frag) (td : TE) : TI := fun σ H R => td σ H fun x H1 => ∃ ks ds f a e us vs f', DT B.1 B.2.1 B.2.2 H1 x ks ds f a e us vs f' ∧ R (ItD a (DE.phi B.1 B.2.1 a e) vs) H1
section
variable {X : Cx} {tg e : Expr} {td : TE} {apos cpos : Pos}
theorem keys_iter {pins : List (Addr × Obj)} {s1 : Shared} {σ : St} {R : It → Hp → Prop} {H1 : Hp} {x : V} {u : Value} (I1 : Inv X pins σ H1 s1) (rx : RelV x u) (q : ∃ ks ds f a e us vs f', DT X.prog X.w X.K H1 x ks ds f a e us vs f' ∧ R (ItD a (DE.phi X.prog X.w a e) us) H1) :
    wpAny (model X.prog X.w) X.A (pyIter u) (PIE X pins σ tg R) X.xe s1 := by
  obtain ⟨ks, ds, f, a, e, us, vs, f', d, q⟩ := q
  have ex := d.ex
  subst ex
  obtain rfl : u = Value.ref a := rx
  obtain ⟨o, es, ep, hgd, hx, hdt, raw, l1, l2, k1, k2⟩ := dt_raw I1 d
  exact iter_keys d.ns hgd hx hdt (pi_one (tk := s1.toks) I1 _ (turn_dk _ raw l1 k1) ⟨_, Heap.get?_push_size _ rfl, rfl, rfl⟩ q)
theorem pi_valsD (he : PE X e td) (hbase : attributeBase e "values" X.env (eval e X.env) = eval e X.env) (hline : (apos.endLine == cpos.line) = true) : PI X tg (.Call (.Attribute e "values" apos) [] [] cpos) (iValsD (X.prog, X.w, X.K) td) := by
  refine ⟨fun pins s σ H R I h => ?_⟩
  refine wpAny_Call_method (T := "dict") (id := "dict.values") hbase rfl hline F.plainAttrs_dict F.slot_dict_values F.type_dict_values (thn (he.run pins s σ H _ I h) fun u s1 ⟨x, H1, I1, rx, ks, ds, f, a, e, us, vs, f', d, q⟩ => ?_)
  have ex := d.ex
  subst ex
  obtain rfl : u = Value.ref a := rx
  obtain ⟨o, es, ep, hgd, hx, hdt, raw, l1, l2, k1, k2⟩ := dt_raw I1 d
  have hraw : s1.heap.DictRaw a es ep := ⟨o, hgd, hx, hdt⟩
  refine ⟨hraw.typeIs, fun b z => by cases z; exact ⟨o, hgd, hx.2.1⟩, ?_⟩
  have I2 : Inv X pins σ H1 { s1 with heap := s1.heap.push { cls := .type "dict_values", data := .fields #[.ref a] } } := I1.kept (t' := s1.toks) fun b ob q => Heap.get?_push_of_some _ q
  have fin : wpAny (model X.prog X.w) X.A (pyIter (.ref s1.heap.objs.size)) (PIE X pins σ tg R) X.xe { s1 with heap := s1.heap.push { cls := .type "dict_values", data := .fields #[.ref a] } } :=
    wpAny_pyIter_values_raw (d := a) ⟨_, Heap.get?_push_size _ rfl, rfl, rfl⟩ (hraw.push _) (pi_one (tk := s1.toks) I2 _ (turn_dv _ raw l2 k2) ⟨_, Heap.get?_push_size _ rfl, rfl, rfl⟩ q)
  show wpAny _ _ (callWith cpos (.builtin "dict.values") [.ref a] [] []) _ X.xe s1
  exact method_meetsIn F.slot_dict_values F.entry_dict_values rfl (PySem.evalArgs_none ⟨rfl, hraw.typeIs, F.args_dict_values_1 _, _, meets_dict_values_raw a d.ns, ⟨es, ep, hraw⟩, fin⟩)
end
section
variable {B : Bs} {H H1 : Hp} {ρ ρ1 : En} {fs fs1 : List FP} {f f' : FP} {t : RT} {x : V} {ks ds : List D} {a : Addr} {e : DE} {us vs : List V}
theorem src_keys (d : DT B.P B.w B.K H1 x ks ds f a e us vs f') (tg : TagOk H ρ fs ρ1 fs1 t f) (pv : ∀ b, 0 < f b → B.H0 b = none ∨ B.A0 b) (lv : ∀ b, 0 < f b → H1 b ≠ none) : Src B H H1 ρ fs ρ1 fs1 ⟨t, .im, ks⟩ (ItD a (DE.phi B.P B.w a e) us) f := by
  have ha : 0 < f a := by rw [d.ef]; exact fa_self
  have kk : ∀ {H'}, Kept H1 H' f → H' a = some (.ext (DE.phi B.P B.w a e)) ∧ RepL B.P B.w B.K H' us ks fz := fun k => ⟨k a _ d.hh (.inl ha), d.keys.kept (k.mono fun _ z => absurd z (Nat.lt_irrefl _))⟩
  have hl := d.keys.length
  refine ⟨tg, pv, lv, .inr rfl, fun H' k i dd ed => ?_, fun H' k => ⟨(kk k).1, ?_⟩⟩
  · obtain ⟨k1, k2⟩ := kk k
    obtain ⟨v, ev, r⟩ := k2.imms ed
    refine ⟨⟨k1, (List.getElem?_eq_some_iff.mp ev).1⟩, fun z H'' y => ?_⟩
    obtain ⟨rfl, y⟩ := y
    rw [ev] at y
    cases y
    exact ⟨Same.refl _, fz, r, fun b => Nat.zero_le _, fun _ => rfl⟩
  · show us.length ≤ ks.length
    omega
theorem src_vals (d : DT B.P B.w B.K H1 x ks ds f a e us vs f') (tg : TagOk H ρ fs ρ1 fs1 t f) (pv : ∀ b, 0 < f b → B.H0 b = none ∨ B.A0 b) (lv : ∀ b, 0 < f b → H1 b ≠ none) : Src B H H1 ρ fs ρ1 fs1 ⟨t, t.item, ds⟩ (ItD a (DE.phi B.P B.w a e) vs) f := by
  have ha : 0 < f a := by rw [d.ef]; exact fa_self
  have le : ∀ b, f' b ≤ f b := fun b => by rw [d.ef]; exact Nat.le_add_left _ _
  have kk : ∀ {H'}, Kept H1 H' f → H' a = some (.ext (DE.phi B.P B.w a e)) ∧ RepL B.P B.w B.K H' vs ds f' := fun k => ⟨k a _ d.hh (.inl ha), d.vals.kept (k.mono fun b z => Nat.lt_of_lt_of_le z (le b))⟩
  have hl := d.vals.length
  refine ⟨tg, pv, lv, .inl rfl, fun H' k i dd ed => ?_, fun H' k => ⟨(kk k).1, ?_⟩⟩
  · obtain ⟨k1, k2⟩ := kk k
    obtain ⟨v, h, ev, r, l⟩ := k2.get ed
    refine ⟨⟨k1, (List.getElem?_eq_some_iff.mp ev).1⟩, fun z H'' y => ?_⟩
    obtain ⟨rfl, y⟩ := y
    rw [ev] at y
    cases y
    refine ⟨Same.refl _, h, r, fun b => Nat.le_trans (l b) (le b), fun q => ?_⟩
    have z := item_z tg q
    exact funext fun b => by
      have h1 : f b = 0 := congrFun z b
      have h2 := l b
      have h3 := le b
      show h b = 0
      omega
  · show vs.length ≤ ds.length
    omega
end
section
variable {X : Cx} {tg : Expr}
/-- a list, a tuple, or a dict of tuples is walked -/
def iSeqD (B : Program × World × PySem.W.Frag) (tl : TE) : TI := fun σ H R => tl σ H fun x H1 => (∃ a, x = .ref a ∧ (((∃ xs, SqL B.2.2 H1 a xs) ∧ R (Itl B.2.2 a) H1) ∨ ((∃ xs, SqT B.2.2 H1 a xs) ∧ R (Itt B.2.2 a) H1))) ∨
  ∃ ks ds f a e us vs f', DT B.1 B.2.1 B.2.2 H1 x ks ds f a e us vs f' ∧ R (ItD a (DE.phi B.1 B.2.1 a e) us) H1
theorem pi_seqD {l : Expr} {tl : TE} (hl : PE X l tl) : PI X tg l (iSeqD (X.prog, X.w, X.K) tl) := by
  refine ⟨fun pins s σ H R I h => ?_⟩
  refine thn (hl.run pins s σ H _ I h) fun v s1 ⟨x, H1, I1, r1, q1⟩ => ?_
  rcases q1 with q1 | q1
  · obtain ⟨a, e, q1⟩ := q1
    subst e
    cases r1
    rcases q1 with ⟨⟨xs, hq⟩, q⟩ | ⟨⟨xs, hq⟩, q⟩
    · obtain ⟨its, rv, p, hz⟩ := I1.list hq
      refine wpAny_pyIter_list p.isList ?_
      refine ⟨s1.heap.objs.size, [s1.heap.objs.size], _, _, H1, rfl, I1.kept (t' := s1.toks) fun b o e => Heap.get?_push_of_some _ e, turn_list a _, ⟨_, Heap.get?_push_size _ rfl, rfl, rfl⟩, fun b hb => ?_, q⟩
      have e : b = s1.heap.objs.size := by simpa using hb
      subst e
      exact I1.fpOk (Nat.le_refl _) (I1.hok.fresh (Nat.le_refl _))
    · obtain ⟨its, rv, p, hz⟩ := I1.tuple hq
      refine wpAny_pyIter_tuple (show s1.heap.IsTuple a its.toArray from p) ?_
      refine ⟨s1.heap.objs.size, [s1.heap.objs.size], _, _, H1, rfl, I1.kept (t' := s1.toks) fun b o e => Heap.get?_push_of_some _ e, turn_tuple a _, ⟨_, Heap.get?_push_size _ rfl, rfl, rfl⟩, fun b hb => ?_, q⟩
      have e : b = s1.heap.objs.size := by simpa using hb
      subst e
      exact I1.fpOk (Nat.le_refl _) (I1.hok.fresh (Nat.le_refl _))
  · exact keys_iter I1 r1 q1
end
section
variable {I : Info} {G : Tab} {C : Nat → Option D} {exV : Nat → Value} {B : Bs} {k : Nat} {rd wr : Scope} {W : WX} {X : Cx} {pos : Pos} {tg : Expr}
theorem live_fp {v : V} {d : D} {f : FP} {H1 : Hp} (r : Rep B.P B.w B.K H1 v d f) : ∀ b, 0 < f b → H1 b ≠ none := fun b z e => by
  obtain ⟨o, eo, _⟩ := r.there b z
  rw [e] at eo; cases eo
theorem ok_seq (g : Gd I G C exV B k rd wr W X) {a : ME} {l : Expr} (ha : PE X l (tEv G C exV B W a)) : PI X tg l (tEvi G C exV B W (.seq a)) := by
  refine PI.weak (pi_seqD ha) fun σ H R q => ?_
  rw [g.eP, g.ew, g.eK]
  obtain ⟨ρ, fs, st, q⟩ := q
  unfold evi at q
  refine then_e st q fun v ρ1 x H1 f fs1 P q => ?_
  obtain ⟨r, e, q⟩ := q.of
  unfold seqD at e
  split at e
  · cases e
    obtain ⟨b, vs, rfl, s1, l1⟩ := tup_inv P.rep
    exact .inl ⟨b, rfl, .inr ⟨⟨vs, s1⟩, q _ _ _ _ P.stp (src_tup s1 l1 P.tag P.prov)⟩⟩
  · cases e
    obtain ⟨b, vs, g1, rfl, s1, l1, e1⟩ := lst_inv P.rep
    have tg := P.tag
    have pv := P.prov
    rw [e1] at tg pv
    exact .inl ⟨b, rfl, .inl ⟨⟨vs, .inl (.inl s1)⟩, q _ _ _ _ P.stp (src_list s1 l1 tg pv)⟩⟩
  · split at e
    · rename_i c
      cases e
      obtain ⟨a, e, us, vs, f', d⟩ := dt_of P.rep c
      exact .inr ⟨_, _, _, _, _, _, _, _, d, q _ _ _ _ P.stp (src_keys d P.tag P.prov (live_fp P.rep))⟩
    · cases e
  · cases e
theorem ok_vals (g : Gd I G C exV B k rd wr W X) {a : ME} {l : Expr} {ap cp : Pos} (hb : valO l = true) (hline : (ap.endLine == cp.line) = true) (ha : PE X l (tEv G C exV B W a)) : PI X tg (.Call (.Attribute l "values" ap) [] [] cp) (tEvi G C exV B W (.vals a)) := by
  refine PI.weak (pi_valsD ha (by
    cases l <;> first | rfl | (exact absurd hb Bool.false_ne_true) | skip
    rename_i fn as _ _
    cases fn <;> cases as <;> first | rfl | (exact absurd hb Bool.false_ne_true)) hline) fun σ H R q => ?_
  rw [g.eP, g.ew, g.eK]
  obtain ⟨ρ, fs, st, q⟩ := q
  unfold evi at q
  refine then_e st q fun v ρ1 x H1 f fs1 P q => ?_
  obtain ⟨r, e, q⟩ := q.of
  split at e
  · split at e
    · rename_i c
      cases e
      obtain ⟨a, e, us, vs, f', d⟩ := dt_of P.rep c
      exact ⟨_, _, _, _, _, _, _, _, d, q _ _ _ _ P.stp (src_vals d P.tag P.prov (live_fp P.rep))⟩
    · cases e
  · cases e
end
end Ev
end

section
set_option Elab.async false
set_option linter.all false
set_option maxRecDepth 100000
set_option maxHeartbeats 1000000
/-! enumerate over a tuple. -/
namespace Ev
open PySem L2
open Sem (wp)
open AutoSeq1 (wpAny_loadPart')
theorem meets_enumerate_newT (l : Addr) (items : Array Value) (dct : Option Addr) (n : Nat) (sl : Array (Option Value)) :
    Meets (Builtin.«enumerate.__new__» ⟨[.type "enumerate", .ref l], []⟩) (fun _ R s => s.heap.get? l = some { cls := .type "tuple", dict := dct, data := .seq items n, slots := sl } ∧
      R (.ok (.ret (.ref (s.heap.push { cls := .type "tuple_iterator", data := .fields #[.ref l, .int 0 0] }).objs.size)))
        { s with heap := (s.heap.push { cls := .type "tuple_iterator", data := .fields #[.ref l, .int 0 0] }).push { cls := .type "enumerate", data := .fields #[.none, .bool false, .ref s.heap.objs.size, rawInt 0, .none, .none] } }) :=
  .of_wp fun prog w A R s h => by
    obtain ⟨hp, g, d, tk, os⟩ := s; obtain ⟨hl, h⟩ := h
    have hsub := sub_enumerate
    have hL : Heap.IsTuple (Shared.heap ⟨hp, g, d, tk, os⟩) l items := ⟨_, hl, rfl, n, rfl⟩
    wp_walk using wpAny_loadPart' hl
    refine wpAny_stack_any fun st => wpAny_pure ?_
    split
    · rename_i c _ _ _ _ _
      cases (c == Value.type "enumerate")
      · wp_walk using wpAny_loadPart' hl, wpAny_pyIter_tuple hL
        exact ⟨_, rfl, h⟩
      · wp_walk using wpAny_loadPart' hl, wpAny_pyIter_tuple hL
        exact ⟨_, rfl, h⟩
    · wp_walk using wpAny_loadPart' hl, wpAny_pyIter_tuple hL
      exact ⟨_, rfl, h⟩
section
variable {prog : Program} {w : World} {A : Around} {E : Value → Shared → Prop} {s : Shared}
theorem call_enumerate_tuple {l : Addr} {items : Array Value} {Q : Value → Shared → Prop} (hL : s.heap.IsTuple l items)
    (h : ∀ h', IsEnum h' (s.heap.objs.size + 1) s.heap.objs.size 0 .none → h'.IsTupleIter s.heap.objs.size l 0 → h'.objs.size = s.heap.objs.size + 2 →
      (∀ b o, s.heap.get? b = some o → h'.get? b = some o) → Q (.ref (s.heap.objs.size + 1)) { s with heap := h' }) :
    wpAny (model prog w) A (call (.type "enumerate") [.ref l]) Q E s := by
  obtain ⟨⟨c, dct, dt, sl⟩, hl, hc, n, hd⟩ := hL
  replace hc : c = .type "tuple" := hc
  replace hd : dt = .seq items n := hd
  subst hc hd
  refine callType_new F.called_enumerate (by decide) (F.typeCall_enumerate_1 _) (F.newCall_enumerate_1 _) (fun obj => F.args_object_init_2 obj _) F.entry_enumerate_new
    (meets_enumerate_newT l items dct n sl) ⟨hl, ?_⟩
  have hz : (s.heap.push { cls := .type "tuple_iterator", data := .fields #[.ref l, .int 0 0] }).objs.size = s.heap.objs.size + 1 := Heap.size_push ..
  show _ ∧ _
  rw [hz]
  have he : IsEnum ((s.heap.push { cls := .type "tuple_iterator", data := .fields #[.ref l, .int 0 0] }).push
      { cls := .type "enumerate", data := .fields #[.none, .bool false, .ref s.heap.objs.size, rawInt 0, .none, .none] }) (s.heap.objs.size + 1) s.heap.objs.size 0 .none := by
    have := Heap.get?_push_size (s.heap.push { cls := .type "tuple_iterator", data := .fields #[.ref l, .int 0 0] })
      (o := { cls := .type "enumerate", data := .fields #[.none, .bool false, .ref s.heap.objs.size, rawInt 0, .none, .none] }) rfl
    rw [hz] at this; exact this
  refine ⟨⟨_, he, rfl⟩, h _ he ⟨_, Heap.get?_push_of_some _ (Heap.get?_push_size _ rfl), rfl, rfl⟩ (by rw [Heap.size_push, hz]) fun b o x => Heap.get?_push_of_some _ (Heap.get?_push_of_some _ x)⟩
end
/-- the tuple at a, each item in a new pair -/
def IteT (K : PySem.W.Frag) (a : Addr) : It :=
  ⟨fun i H => ∃ (xs : List V) (x : V), SqT K H a xs ∧ xs[i]? = some x, fun i H v H' => ∃ T x, v = .ref T ∧ H T = none ∧ H' = upd H T (.tup [.int (i : Nat), x]) ∧ ∀ xs, SqT K H a xs → xs[i]? = some x, fun i H => ∃ xs : List V, SqT K H a xs ∧ xs.length = i⟩
theorem istup_inj {h : Heap} {a : Addr} {x y : Array Value} (h1 : h.IsTuple a x) (h2 : h.IsTuple a y) : x = y := by
  obtain ⟨o, e, c, n, d⟩ := h1
  obtain ⟨o', e', c', n', d'⟩ := h2
  rw [e] at e'; cases e'
  rw [d] at d'; cases d'
  rfl
theorem turn_enumT {P : Program} {w : World} {K : PySem.W.Frag} {elts : List Expr} {kk : Nat} {tpos : Pos} (a e it : Addr) :
    Turn P w K (.Tuple elts kk tpos) (IteT K a) [e, it] e (fun i h => (∃ old, IsEnum h e it ((i : Nat) : Int) old) ∧ h.IsTupleIter it a i ∧ e ≠ it ∧ a ≠ it ∧ a ≠ e) where
  mem := by simp
  obj := fun i h st b hb => by
    obtain ⟨⟨old, he⟩, ⟨o, ho, hc, hd⟩, _⟩ := st
    have e' : b = e ∨ b = it := by simpa using hb
    rcases e' with z | z
    · rw [z]; exact ⟨_, he, fun v q => nomatch q⟩
    · rw [z]; exact ⟨o, ho, fun v q => by rw [hd] at q; cases q⟩
  keep := fun i h h' st k => let ⟨⟨old, he⟩, hi, hne⟩ := st; ⟨⟨old, k e (by simp) _ he⟩, hi.at fun o q => k it (by simp) o q, hne⟩
  item := by
    intro X hP hw hK hc i pins s σ H E I hf st hg
    subst hP hw hK
    obtain ⟨⟨old, he⟩, hit, hne, hai, hae⟩ := st
    obtain ⟨xs, x, hq, hx⟩ := hg
    obtain ⟨its, rv, p, hz⟩ := I.tuple hq
    obtain ⟨u, hu, ru⟩ := rv.get hx
    have p' : s.heap.IsTuple a its.toArray := p
    have hel : e < s.heap.objs.size := Heap.lt_size he
    have hil : it < s.heap.objs.size := by obtain ⟨_, q, _⟩ := hit; exact Heap.lt_size q
    have hd : X.A.in1.handled = none := I.ok.hd hc
    have hlt : i < its.toArray.size := by
      rw [List.size_toArray]
      exact (List.getElem?_eq_some_iff.mp hu).1
    refine wpAny_pyNext_enum_itemD (Draws.tuple (A := X.A.in1) hd it a hai its.toArray) he ⟨hit, p'⟩ hlt hne (by simp [hne, Ne.symm hae]) fun x' h' tk hx' ho hst hT hsz hk => ?_
    have hx'' : x' = u := by
      have e1 : its.toArray[i]? = some x' := hx'
      have e2 : its.toArray[i]? = some u := by simpa using hu
      rw [e1] at e2
      exact Option.some.inj e2
    subst hx''
    obtain ⟨hit', hl'⟩ := hst
    refine ⟨_, rfl, wpAny_letOwnedTupleGo_enum (s := { s with heap := h', toks := tk + 1 }) ho fun h'' he' sb => ?_⟩
    have hT2 : h''.get? s.heap.objs.size = some { cls := .type "tuple", data := .seq #[.int i tk, x'] } := (sb.2 _ (Nat.ne_of_gt hel)).trans hT
    have new : ObjOk X.prog X.w (upd H s.heap.objs.size (.tup [.int (i : Nat), x])) h'' s.heap.objs.size (.tup [.int (i : Nat), x]) :=
      ⟨by show 2 ≤ sizeLine; decide, [.int i tk, x'], .cons ⟨_, rfl⟩ (.cons ru .nil), ⟨_, hT2, rfl, _, rfl⟩⟩
    have I1 : Inv X pins σ (upd H s.heap.objs.size (.tup [.int (i : Nat), x])) { s with heap := h'', toks := tk + 1 } :=
      I.turnedNew (ch := [e, it]) (fun b ob hb q => (sb.2 b (fun z => hb (by simp [z]))).trans (hk b ob (fun z => hb (by simp [z])) (fun z => hb (by simp [z])) q)) hf (Nat.le_refl _) new
    refine ⟨.ref s.heap.objs.size, _, I1, rfl, ⟨_, x, rfl, I.hok.fresh (Nat.le_refl _), rfl, fun ys hy => ?_⟩, ⟨⟨x', ?_⟩, hit'.at fun o q => (sb.2 it (Ne.symm hne)).trans q, hne, hai, hae⟩, fun b hb => ?_⟩
    · rw [I.tuple_inj hy hq]; exact hx
    · have e1 : ((i + 1 : Nat) : Int) = (i : Int) + 1 := by omega
      rw [e1]; exact he'
    · have hb' : b < s.heap.objs.size := by
        have e' : b = e ∨ b = it := by simpa using hb
        rcases e' with z | z
        · rw [z]; exact hel
        · rw [z]; exact hil
      rw [upd_ne (Nat.ne_of_lt hb')]
      exact (hf b hb).1
  done := by
    intro X hP hw hK hc i pins s σ H E I hf st hg
    subst hP hw hK
    obtain ⟨⟨old, he⟩, hit, hne, hai, hae⟩ := st
    obtain ⟨xs, hq, hx⟩ := hg
    obtain ⟨its, rv, p, hz⟩ := I.tuple hq
    have p' : s.heap.IsTuple a its.toArray := p
    obtain ⟨f0, f1, f2, f3, f4, f5⟩ := hf it (by simp)
    have hl := rv.length
    have hd : X.A.in1.handled = none := I.ok.hd hc
    have hsz : its.toArray.size = i := by rw [List.size_toArray]; omega
    refine wpAny_pyNext_enum_endD (Draws.tuple (A := X.A.in1) hd it a hai its.toArray) he ⟨by rw [hsz]; exact hit, p'⟩ fun h' eb => ⟨rfl, I.turned (t' := s.toks) (fun b o hb q => eb b o hb q) f0 f1 f3 f4 f5⟩
  self := fun A i s Q E st h => let ⟨⟨_, he⟩, _⟩ := st; wpAny_pyIter_enum he h
/-- enumerate over a list or a tuple -/
def iEnu (K : PySem.W.Frag) (ta : TA) : TI := fun σ H R => ta σ H fun vs H1 => ∃ a, vs = [.ref a] ∧ (((∃ xs, SqL K H1 a xs) ∧ R (Ite K a) H1) ∨ ((∃ xs, SqT K H1 a xs) ∧ R (IteT K a) H1))
open PySem.Spec PyProof.Rows in
theorem pi_enu {X : Cx} {e : Expr} {ta : TA} {p pos tpos : Pos} {elts : List Expr} {kk : Nat} (hg : Gl X "enumerate") (hm : X.mg "enumerate" = none) (ha : PA X [e] ta) (hs : starEach [e] X.env = [(false, eval e X.env)]) :
    PI X (.Tuple elts kk tpos) (.Call (.Name "enumerate" p) [e] [] pos) (iEnu X.K ta) := by
  have hb : bootBuiltins "enumerate" = some (.type "enumerate") := by decide +kernel
  refine ⟨fun pins s σ H R I h => ?_⟩
  refine Call_ (ld_blt I hg hm hb (PyProof.Rows.callWith_type1 (thn (ha.run pos pins s σ H _ I h) fun us s1 ⟨vs, H1, I1, r1, q1⟩ => ?_) hs rfl))
  obtain ⟨a, ex, q1⟩ := q1
  subst ex
  cases r1 with
  | cons r rr =>
    cases rr
    cases r
    rcases q1 with ⟨⟨xs, hq⟩, q⟩ | ⟨⟨xs, hq⟩, q⟩
    · obtain ⟨its, rv, p', hz⟩ := I1.list hq
      refine call_enumerate_list p'.isList fun h' he hit hsz hk => wpAny_pyIter_enum he ?_
      have I2 : Inv X pins σ H1 { s1 with heap := h' } := I1.kept (t' := s1.toks) hk
      refine ⟨s1.heap.objs.size + 1, [s1.heap.objs.size + 1, s1.heap.objs.size], _, _, H1, rfl, I2, turn_enum a (s1.heap.objs.size + 1) s1.heap.objs.size, ⟨⟨.none, he⟩, hit, Nat.succ_ne_self _⟩, fun b hb => ?_, q⟩
      have e' : b = s1.heap.objs.size + 1 ∨ b = s1.heap.objs.size := by simpa using hb
      have hle : s1.heap.objs.size ≤ b := by
        rcases e' with z | z
        · rw [z]; exact Nat.le_add_right _ _
        · rw [z]; exact Nat.le_refl _
      exact I1.fpOk hle (I1.hok.fresh hle)
    · obtain ⟨its, rv, p', hz⟩ := I1.tuple hq
      have p'' : s1.heap.IsTuple a its.toArray := p'
      have al : a < s1.heap.objs.size := by obtain ⟨o, e, _⟩ := p''; exact Heap.lt_size e
      refine call_enumerate_tuple p'' fun h' he hit hsz hk => wpAny_pyIter_enum he ?_
      have I2 : Inv X pins σ H1 { s1 with heap := h' } := I1.kept (t' := s1.toks) hk
      refine ⟨s1.heap.objs.size + 1, [s1.heap.objs.size + 1, s1.heap.objs.size], _, _, H1, rfl, I2, turn_enumT a (s1.heap.objs.size + 1) s1.heap.objs.size, ⟨⟨.none, he⟩, hit, Nat.succ_ne_self _, Nat.ne_of_lt al, Nat.ne_of_lt (Nat.lt_succ_of_lt al)⟩, fun b hb => ?_, q⟩
      have e' : b = s1.heap.objs.size + 1 ∨ b = s1.heap.objs.size := by simpa using hb
      have hle : s1.heap.objs.size ≤ b := by
        rcases e' with z | z
        · rw [z]; exact Nat.le_add_right _ _
        · rw [z]; exact Nat.le_refl _
      exact I1.fpOk hle (I1.hok.fresh hle)
theorem enu_get : ∀ {ds : List D} {n i : Nat} {d' : D}, (enuF n ds)[i]? = some d' → ∃ d, ds[i]? = some d ∧ d' = .tup [.int ((n + i : Nat) : Int), d]
  | [], _, _, _, h => by simp [enuF] at h
  | d :: ds, n, 0, d', h => ⟨d, rfl, by simpa [enuF] using h.symm⟩
  | d :: ds, n, i + 1, d', h => by
    obtain ⟨d0, e1, e2⟩ := enu_get (ds := ds) (n := n + 1) (i := i) (by simpa [enuF] using h)
    exact ⟨d0, by simpa using e1, by rw [e2, show n + 1 + i = n + (i + 1) by omega]⟩
theorem enu_len : ∀ {ds : List D} {n : Nat}, (enuF n ds).length = ds.length
  | [], _ => rfl
  | _ :: ds, n => by simp [enuF, enu_len]
section
variable {I : Info} {G : Tab} {C : Nat → Option D} {exV : Nat → Value} {B : Bs} {k : Nat} {rd wr : Scope} {W : WX} {X : Cx} {pos : Pos}
/-- the pairs of what is walked -/
theorem src_enu {H H1 : Hp} {ρ ρ1 : En} {fs fs1 : List FP} {r : IR} {J J' : It} {f : FP} (src : Src B H H1 ρ fs ρ1 fs1 r J f)
    (hgo : ∀ i H', J.go i H' → (∀ x, J.yld i H' x H' → True) → J'.go i H') (hy : ∀ i H' v H'', J'.yld i H' v H'' → ∃ T x, v = .ref T ∧ H' T = none ∧ H'' = upd H' T (.tup [.int (i : Nat), x]) ∧ J.yld i H' x H') (hst : ∀ H', J.stop r.ds.length H' → Kept H1 H' f → J'.stop r.ds.length H') :
    Src B H H1 ρ fs ρ1 fs1 ⟨r.root, r.t, enuF 0 r.ds⟩ J' f := by
  refine ⟨src.tag, src.prov, src.live, src.it, fun H' kp i d' e => ?_, fun H' kp => ?_⟩
  · obtain ⟨d, e1, e2⟩ := enu_get e
    subst e2
    obtain ⟨g1, g2⟩ := src.go H' kp i d e1
    refine ⟨hgo i H' g1 fun _ _ => trivial, fun v H'' y => ?_⟩
    obtain ⟨T, x, rfl, hT, rfl, yy⟩ := hy i H' v H'' y
    obtain ⟨sm, h, rx, hle, him⟩ := g2 x H' yy
    refine ⟨same_upd hT, h, ?_, hle, him⟩
    rw [Nat.zero_add]
    refine (Rep.tup (.inl (.inl upd_same)) (.cons (.int _) (.cons (rx.kept (Same.kept (same_upd hT) h)) .nil))).cast fun a => ?_
    show 0 + (h a + 0) = h a
    omega
  · show J'.stop (enuF 0 r.ds).length H'
    rw [enu_len]
    exact hst H' (src.stop H' kp) kp
theorem ok_enu (g : Gd I G C exV B k rd wr W X) {a : ME} {l : Expr} {x : Str} {p tpos : Pos} {elts : List Expr} {kk : Nat} (hx : x = "enumerate") (hg : glob rd x = true) (hl : chk I rd wr a l = true) (ha : PE X l (tEv G C exV B W a)) :
    PI X (.Tuple elts kk tpos) (.Call (.Name x p) [l] [] pos) (tEvi G C exV B W (.enu a)) := by
  obtain ⟨g1, g2⟩ := gl_b g hg (by rw [hx]; simp)
  subst hx
  refine PI.weak (pi_enu g1 g2 (pa_cons ha pa_nil (chk_plain hl [] X.env)) (chk_plain hl [] X.env)) fun σ H R q => ?_
  obtain ⟨ρ, fs, st, q⟩ := q
  unfold evi at q
  refine then_e st q fun v ρ1 x H1 f fs1 P q => ?_
  obtain ⟨r0, e0, q⟩ := q.of
  have ed : v.d.isDic = false := by
    cases c : v.d.isDic with
    | false => rfl
    | true => rw [c, if_pos rfl] at e0; cases e0
  rw [ed, if_neg (by decide)] at e0
  obtain ⟨r, e2, e3⟩ := Option.map_eq_some_iff.mp e0
  clear e0
  subst e3
  unfold seqD at e2
  split at e2
  · obtain rfl := Option.some.inj e2
    obtain ⟨b, vs, rfl, s1, l1⟩ := tup_inv P.rep
    refine ⟨b, rfl, .inr ⟨⟨vs, by rw [g.eK]; exact s1⟩, ?_⟩⟩
    rw [g.eK]
    refine q _ _ _ _ P.stp (src_enu (src_tup s1 l1 P.tag P.prov) (fun i H' h _ => h) (fun i H' v H'' ⟨T, x, h1, h2, h3, h4⟩ => ⟨T, x, h1, h2, h3, rfl, h4⟩) fun H' h kp => ⟨vs, SqT.kept kp s1, l1.length⟩)
  · obtain rfl := Option.some.inj e2
    obtain ⟨b, vs, f1, rfl, s1, l1, e1⟩ := lst_inv P.rep
    have tg := P.tag
    have pv := P.prov
    rw [e1] at tg pv
    refine ⟨b, rfl, .inl ⟨⟨vs, .inl (.inl s1)⟩, ?_⟩⟩
    rw [g.eK]
    exact q _ _ _ _ P.stp (src_enu (src_list s1 l1 tg pv) (fun i H' h _ => h) (fun i H' v H'' ⟨T, x, h1, h2, h3, h4⟩ => ⟨T, x, h1, h2, h3, rfl, h4⟩) fun H' h kp => h)
  · exact absurd ed (by simp [D.isDic])
  · cases e2
end
end Ev
end

section
set_option Elab.async false
set_option linter.all false
set_option maxRecDepth 100000
set_option maxHeartbeats 1000000
/-! Comprehensions. -/
namespace Ev
open PySem L2
theorem wipe_at {σ : St} : ∀ {vs : List Nat} {j : Nat}, (wipe σ vs)[j]? = if j ∈ vs then (if j < σ.length then some none else none) else σ[j]?
  | [], j => by simp [wipe]
  | v :: vs, j => by
    unfold wipe
    by_cases e : v = j
    · subst e
      rw [if_pos (List.mem_cons_self)]
      by_cases l : v < σ.length
      · rw [List.getElem?_set_self (by rw [wipe_length]; exact l), if_pos l]
      · rw [if_neg l]
        exact List.getElem?_eq_none (by rw [List.length_set, wipe_length]; omega)
    · rw [List.getElem?_set_ne e, wipe_at]
      have : (j ∈ v :: vs) ↔ j ∈ vs := by simp [Ne.symm e]
      by_cases c : j ∈ vs
      · rw [if_pos c, if_pos (this.mpr c)]
      · rw [if_neg c, if_neg (fun z => c (this.mp z))]
theorem wipe_ext {σ σ' : St} {vs : List Nat} (l : σ'.length = σ.length) (h : ∀ j, j ∉ vs → σ'[j]? = σ[j]?) : wipe σ' vs = wipe σ vs := by
  refine List.ext_getElem? fun j => ?_
  rw [wipe_at, wipe_at, l]
  by_cases c : j ∈ vs
  · rw [if_pos c, if_pos c]
  · rw [if_neg c, if_neg c, h j c]
theorem wipe_idem {σ : St} {vs : List Nat} : wipe (wipe σ vs) vs = wipe σ vs := wipe_ext (wipe_length σ vs) fun j c => by rw [wipe_at, if_neg c]
def wipeF (fs : List FP) : List Nat → List FP
  | [] => fs
  | i :: is => wipeF (fs.set i fz) is
theorem wipe_cons {σ : St} {i : Nat} {is : List Nat} : wipe (σ.set i none) is = wipe σ (i :: is) := by
  refine List.ext_getElem? fun j => ?_
  rw [wipe_at, wipe_at, List.length_set]
  by_cases c : j ∈ is
  · rw [if_pos c, if_pos (show j ∈ i :: is by simp [c])]
  · rw [if_neg c]
    by_cases e : i = j
    · subst e
      rw [if_pos (List.mem_cons_self)]
      by_cases l : i < σ.length
      · rw [List.getElem?_set_self l, if_pos l]
      · rw [if_neg l]
        exact List.getElem?_eq_none (by rw [List.length_set]; omega)
    · rw [List.getElem?_set_ne e, if_neg (show ¬ j ∈ i :: is by simp [c, Ne.symm e])]
section
variable {B : Bs} {H : Hp}
theorem Slots.wipe : ∀ {is : List Nat} {ρ : En} {σ : St} {fs : List FP}, Slots B H ρ σ fs → Slots B H (wipeE ρ is) (L2.wipe σ is) (wipeF fs is)
  | [], _, _, _, h => h
  | i :: is, ρ, σ, fs, h => by
    have := Slots.wipe (is := is) (h.set (i := i) (s := none) (o := none) (f := fz) .nul)
    rw [wipe_cons] at this
    exact this
theorem sum_wipe (p : ST → Bool) : ∀ {is : List Nat} {ρ : En} {fs : List FP}, ρ.length = fs.length → ∀ a, sumOf p (wipeE ρ is) (wipeF fs is) a ≤ sumOf p ρ fs a
  | [], _, _, _, _ => Nat.le_refl _
  | i :: is, ρ, fs, hl, a => by
    refine Nat.le_trans (sum_wipe p (is := is) (ρ := ρ.put i none) (fs := fs.set i fz) (by show (ρ.set i none).length = _; simp [hl]) a) ?_
    by_cases l : i < ρ.length
    · have e1 : ρ[i]? = some ρ[i] := List.getElem?_eq_getElem l
      have e2 : fs[i]? = some (fs[i]'(by omega)) := List.getElem?_eq_getElem _
      have := sum_del p e1 e2 a
      show sumOf p (ρ.set i none) (fs.set i fz) a ≤ _
      omega
    · have e1 : ρ.put i none = ρ := List.set_eq_of_length_le (by omega)
      have e2 : fs.set i fz = fs := List.set_eq_of_length_le (by omega)
      rw [e1, e2]
      exact Nat.le_refl _
theorem mem_wipeF : ∀ {is : List Nat} {fs : List FP} {g : FP}, g ∈ wipeF fs is → g = fz ∨ g ∈ fs
  | [], _, _, h => .inr h
  | i :: is, fs, g, h => by
    rcases mem_wipeF (is := is) h with h | h
    · exact .inl h
    · rcases List.mem_or_eq_of_mem_set h with h | h
      · exact .inr h
      · exact .inl h
theorem wipeE_at : ∀ {is : List Nat} {ρ : En} {j : Nat}, j ∉ is → (wipeE ρ is)[j]? = ρ[j]?
  | [], _, _, _ => rfl
  | i :: is, ρ, j, h => by
    have n1 : i ≠ j := fun q => h (by simp [q])
    show (wipeE (ρ.put i none) is)[j]? = _
    rw [wipeE_at (fun q => h (by simp [q]))]
    exact List.getElem?_set_ne n1
theorem wipeF_at : ∀ {is : List Nat} {fs : List FP} {j : Nat}, j ∉ is → (wipeF fs is)[j]? = fs[j]?
  | [], _, _, _ => rfl
  | i :: is, fs, j, h => by
    have n1 : i ≠ j := fun q => h (by simp [q])
    show (wipeF (fs.set i fz) is)[j]? = _
    rw [wipeF_at (fun q => h (by simp [q]))]
    exact List.getElem?_set_ne n1
/-- nothing owned is wiped: the sum stays -/
theorem sum_clear : ∀ {is : List Nat} {ρ : En} {fs : List FP}, ρ.length = fs.length → is.all (clearB ρ) = true → ∀ a, sumOf own (wipeE ρ is) (wipeF fs is) a = sumOf own ρ fs a
  | [], _, _, _, _, _ => rfl
  | i :: is, ρ, fs, hl, hc, a => by
    obtain ⟨c1, c2⟩ : clearB ρ i = true ∧ is.all (clearB ρ) = true := by simpa using hc
    have h2 : is.all (clearB (ρ.put i none)) = true := by
      rw [List.all_eq_true] at c2 ⊢
      intro j hj
      have q := c2 j hj
      by_cases e : i = j
      · subst e
        unfold clearB
        have : (ρ.put i none).at i = none := by
          unfold En.at En.put
          by_cases l : i < ρ.length
          · rw [List.getElem?_set_self l]
          · rw [List.getElem?_eq_none (by simpa using l)]
        rw [this]
      · unfold clearB at q ⊢
        have : (ρ.put i none).at j = ρ.at j := by
          unfold En.at En.put
          rw [List.getElem?_set_ne e]
        rw [this]
        exact q
    have ih := sum_clear (is := is) (ρ := ρ.put i none) (fs := fs.set i fz) (by show (ρ.set i none).length = _; simp [hl]) h2 a
    show sumOf own (wipeE (ρ.put i none) is) (wipeF (fs.set i fz) is) a = _
    rw [ih]
    by_cases l : i < ρ.length
    · have e1 : ρ[i]? = some ρ[i] := List.getElem?_eq_getElem l
      have e2 : fs[i]? = some (fs[i]'(by omega)) := List.getElem?_eq_getElem _
      have q := sum_del own e1 e2 a
      have z : ctr own ρ[i] (fs[i]'(by omega)) a = 0 := by
        unfold clearB En.at at c1
        rw [e1] at c1
        generalize ρ[i] = s at c1
        cases s with
        | none => rfl
        | some s =>
          obtain ⟨t, d⟩ := s
          cases t <;> first | rfl | (exact absurd c1 (by simp))
      show sumOf own (ρ.set i none) (fs.set i fz) a = _
      omega
    · have e1 : ρ.put i none = ρ := List.set_eq_of_length_le (by omega)
      have e2 : fs.set i fz = fs := List.set_eq_of_length_le (by omega)
      rw [e1, e2]
/-- the state, its own start being here -/
def Bs.here (B : Bs) (H H1 : Hp) : Bs := { B with H0 := H, M0 := fun _ => 1, A0 := fun a => H1 a ≠ none ∧ (B.H0 a = none ∨ B.A0 a) }
theorem StR.here {σ : St} {H H1 : Hp} {ρ : En} {fs : List FP} (st : StR B σ H ρ fs) (hf : ∀ f ∈ fs, ∀ a, 0 < f a → H1 a ≠ none) : StR (B.here H H1) σ H ρ fs := by
  refine ⟨?_, st.m1, st.mn, fun a o h _ => h, fun a h => h, fun f hm a z => .inr ⟨hf f hm a z, st.b3 f hm a z⟩, fun a z => .inr Nat.one_pos⟩
  have h := st.sl
  induction h with
  | nil => exact .nil
  | cons h1 h2 ih =>
    refine .cons ?_ (Slots.of (h2.len.1) (h2.len.2) fun i s e => ?_)
    · cases h1 with
      | nul => exact .nul
      | val r q => exact .val r q
    · obtain ⟨o, f, e1, e2, q⟩ := h2.get e
      refine ⟨o, f, e1, e2, ?_⟩
      cases q with
      | nul => exact .nul
      | val r q => exact .val r q
theorem StR.wipe {σ : St} {ρ : En} {fs : List FP} (st : StR B σ H ρ fs) (is : List Nat) : StR B (L2.wipe σ is) H (wipeE ρ is) (wipeF fs is) := by
  have hl : ρ.length = fs.length := st.sl.len.1.trans st.sl.len.2.symm
  refine ⟨st.sl.wipe, fun a => Nat.le_trans (sum_wipe own hl a) (st.m1 a), fun a z => ?_, st.b1, st.b2, fun f hf a z => ?_, fun a z => st.b4 a (Nat.lt_of_lt_of_le z (sum_wipe own hl a))⟩
  · have h1 := sum_wipe own (is := is) hl a
    have h2 := sum_wipe frz (is := is) hl a
    have := st.mn a (by omega)
    omega
  · rcases mem_wipeF hf with rfl | hf
    · exact absurd z (Nat.lt_irrefl _)
    · exact st.b3 f hf a z
theorem RepT.kept {H0 H' : Hp} {ρ0 ρ : En} {fs0 fs : List FP} : ∀ {xs : List V} {vs : List RV} {gs : List FP}, RepT B H0 ρ0 fs0 H ρ fs xs vs gs → (∀ a o, H a = some o → (0 < sumF gs a ∨ ¬ wr o) → H' a = some o) → RepT B H0 ρ0 fs0 H' ρ fs xs vs gs
  | _, _, _, .nil, _ => .nil
  | _, _, _, .cons (f := f) (gs := gs) h1 h2 h3 h4, k => .cons (h1.kept fun a o h z => k a o h (z.imp (fun z => by show 0 < f a + sumF gs a; omega) id)) h2 h3 (h4.kept fun a o h z => k a o h (z.imp (fun z => by show 0 < f a + sumF gs a; omega) id))
theorem RepT.snoc {H0 : Hp} {ρ0 ρ : En} {fs0 fs : List FP} {x : V} {v : RV} {f : FP} (r : Rep B.P B.w B.K H x v.d f) (t : TagOk H0 ρ0 fs0 ρ fs v.t f) (pv : ∀ a, 0 < f a → B.H0 a = none ∨ B.A0 a) : ∀ {xs : List V} {vs : List RV} {gs : List FP}, RepT B H0 ρ0 fs0 H ρ fs xs vs gs →
    RepT B H0 ρ0 fs0 H ρ fs (xs ++ [x]) (vs ++ [v]) (gs ++ [f]) ∧ (∀ a, sumF (gs ++ [f]) a = sumF gs a + f a) ∧ (∀ a, frSum (vs ++ [v]) (gs ++ [f]) a = frSum vs gs a + (if v.t = .fr then f else fz) a)
  | _, _, _, .nil => ⟨.cons r t pv .nil, fun a => by show f a + 0 = 0 + f a; omega, fun a => by show (if v.t = .fr then f else fz) a + 0 = 0 + _; omega⟩
  | _, _, _, .cons (v := w) (f := g) (vs := vs) (gs := gs) h1 h2 h3 h4 => by
    obtain ⟨q1, q2, q3⟩ := RepT.snoc r t pv h4
    refine ⟨.cons h1 h2 h3 q1, fun a => ?_, fun a => ?_⟩
    · have := q2 a
      show g a + sumF (gs ++ [f]) a = (g a + sumF gs a) + f a
      omega
    · have := q3 a
      show (if w.t = .fr then g else fz) a + frSum (vs ++ [v]) (gs ++ [f]) a = ((if w.t = .fr then g else fz) a + frSum vs gs a) + _
      omega
theorem frSum_sum : ∀ (vs : List RV) (gs : List FP) (a : Addr), frSum vs gs a ≤ sumF gs a
  | [], gs, a => Nat.zero_le _
  | v :: vs, [], a => Nat.zero_le _
  | v :: vs, g :: gs, a => by
    have := frSum_sum vs gs a
    show (if v.t = .fr then g else fz) a + frSum vs gs a ≤ g a + sumF gs a
    split
    · omega
    · have z : fz a = 0 := rfl
      omega
/-- a new list, made a while ago, over what was gathered -/
theorem TagOk.made {H1 : Hp} {ρ ρ1 : En} {fs fs1 : List FP} {t : RT} {f : FP} {p : Addr} {σ : St} (sl : Slots B H1 ρ1 σ fs1) (lv : ∀ a, H a ≠ none → H1 a ≠ none) (hp : H1 p = none) (fpz : f p = 0) (h : TagOk H ρ fs ρ1 fs1 t f) : TagOk H ρ fs ρ1 fs1 t.newL (Ev.fa (Ev.fs p) f) := by
  have z : ∀ (k : ST → Bool), sumOf k ρ1 fs1 p = 0 := fun k => Nat.eq_zero_of_not_pos fun y => by
    obtain ⟨o, e, _⟩ := sl.there k p y
    rw [hp] at e; cases e
  have sp : ∀ {a : Addr}, 0 < Ev.fa (Ev.fs p) f a → a = p ∨ 0 < f a := fun {a} y => by
    by_cases c : a = p
    · exact .inl c
    · have y' : 0 < Ev.fs p a + f a := y
      rw [fs_ne c] at y'
      exact .inr (by omega)
  have le1 : (∀ a, f a ≤ 1) → ∀ a, Ev.fa (Ev.fs p) f a ≤ 1 := fun q a => by
    show Ev.fs p a + f a ≤ 1
    by_cases c : a = p
    · subst c; rw [fs_self, fpz]
      exact Nat.le_refl _
    · rw [fs_ne c]
      have := q a
      omega
  cases t with
  | im =>
    have h' : f = Ev.fz := h
    refine fun a => ⟨le1 (fun b => by rw [h']; exact Nat.zero_le _) a, fun y => ?_⟩
    rcases sp y with c | c
    · subst c; exact ⟨z own, z frz, .inl (live_of lv hp)⟩
    · rw [h'] at c; exact absurd c (Nat.lt_irrefl _)
  | vl =>
    refine fun a y => ?_
    rcases sp y with c | c
    · subst c; exact z own
    · exact h a c
  | fr =>
    refine fun a => ⟨le1 (fun b => (h b).1) a, fun y => ?_⟩
    rcases sp y with c | c
    · subst c; exact ⟨z own, z frz, .inl (live_of lv hp)⟩
    · exact (h a).2 c
  | tm i =>
    refine fun a y y2 => ?_
    rcases sp y with c | c
    · subst c; rw [z own] at y2; exact absurd y2 (Nat.lt_irrefl _)
    · exact h a c y2
end
end Ev
end

section
set_option Elab.async false
set_option linter.all false
set_option maxRecDepth 100000
set_option maxHeartbeats 1000000
/-! Comprehensions: the walk. -/
namespace Ev
open PySem L2
theorem takesF {X : Cx} : Takes X (fun _ _ _ _ => False) := fun u s' ⟨a, B, sI, pins, σ, H, cls, d, e, I, nb, up, sky, na, os, ag, w⟩ => False.elim w
theorem relS_keep {sc : Scope} {x : Str} {k : NameKind} (hk : k ≠ .free) : ∀ {names : List (Str × NameKind)}, names.lookup x = some k →
    (names.map fun (n, k) => if (k == NameKind.free && sc.kind == .function && sc.names.lookup n == some .cell) then (n, NameKind.cell) else (n, k)).lookup x = some k
  | [], h => by cases h
  | (n, k') :: r, h => by
    rw [List.map_cons]
    rw [List.lookup_cons] at h
    cases hb : x == n with
    | true =>
      rw [hb] at h
      cases h
      have : (k == NameKind.free) = false := by cases k <;> first | rfl | exact absurd rfl hk
      dsimp only
      rw [this, Bool.false_and, Bool.false_and, if_neg (by decide), List.lookup_cons, hb]
    | false =>
      rw [hb] at h
      have ih := relS_keep (sc := sc) hk h
      dsimp only
      split <;> (rw [List.lookup_cons, hb]; exact ih)
abbrev WF : WX := fun _ _ _ _ => False
section
variable {I : Info} {G : Tab} {C : Nat → Option D} {exV : Nat → Value} {B : Bs} {k : Nat} {rd wr : Scope} {W : WX} {X : Cx} {pos : Pos}
theorem Gd.blk (g : Gd I G C exV B k rd wr W X) {B' : Bs} (hP : B'.P = B.P) (hw : B'.w = B.w) (hK : B'.K = B.K) {scope : Scope} {s : Shared} {H : Hp} {Cc : Addr} {cl : List (Str × Addr)} {fp : List Addr} :
    Gd I G C exV B' k (relS scope rd) scope WF (X.blk s H scope (compEnvC scope cl Cc X.env) fp) where
  eP := g.eP.trans hP.symm
  ew := g.ew.trans hw.symm
  eK := g.eK.trans hK.symm
  eN := g.eN
  nd := g.nd
  esc := by
    show relabel scope X.env = _
    rw [← g.esc]
    rfl
  sto := fun x h => by
    unfold stor at h
    split at h
    · rename_i e
      have := relS_keep (sc := rd) (k := .local) (fun z => nomatch z) e
      exact ⟨.inl this, .inr this⟩
    · rename_i e
      have := relS_keep (sc := rd) (k := .cell) (fun z => nomatch z) e
      refine ⟨.inr this, .inl ?_⟩
      show (scope.names.lookup x == some .cell) = true
      rw [e]
      rfl
    · cases h
  calm := g.calm
  room := g.room
  blt := g.blt
  glo := fun n x h => by rw [hP, hw, hK]; exact g.glo n x h
  fun_ := g.fun_
  takes := takesF
/-- readings in a block, the state's start wherever it is -/
def anyB {α : Type} (B : Bs) (t : Bs → α → Prop) : α → Prop := fun x => ∃ B', B'.P = B.P ∧ B'.w = B.w ∧ B'.K = B.K ∧ t B' x
theorem turns_cons {f : D → Option (Option RV)} {d : D} {ds : List D} {vs : List RV} (h : turns f (d :: ds) = some vs) : ∃ o r, f d = some o ∧ turns f ds = some r ∧ vs = (match o with
    | some v => v :: r
    | none => r) := by
  unfold turns at h
  obtain ⟨o, e1, e2⟩ := Option.bind_eq_some_iff.mp h
  obtain ⟨r, e3, e4⟩ := Option.map_eq_some_iff.mp e2
  refine ⟨o, r, e1, e3, e4.symm.trans ?_⟩
  cases o <;> rfl
theorem ret_solid {v w : RV} (h : retT v = some w) : w.d = v.d ∧ ((w.t = .im ∧ v.d.imm = true) ∨ w.t = v.t) ∧ ∀ i, w.t ≠ .tm i := by
  unfold retT at h
  split at h
  · split at h
    · rename_i c
      cases h
      exact ⟨rfl, .inl ⟨rfl, c⟩, fun i z => nomatch z⟩
    · cases h
  · rename_i c
    cases h
    exact ⟨rfl, .inr rfl, fun i z => c i z⟩
abbrev lcG (B : Bs) (tg : TG) : L2.TG := fun v σ H Q => ∃ B', B'.P = B.P ∧ B'.w = B.w ∧ B'.K = B.K ∧ gB B' tg v σ H Q
abbrev lcT (G : Tab) (C : Nat → Option D) (exV : Nat → Value) (B : Bs) (c : MT) : TT := fun σ H Q => ∃ B', B'.P = B.P ∧ B'.w = B.w ∧ B'.K = B.K ∧ tEvt G C exV B' WF c σ H Q
abbrev lcE (G : Tab) (C : Nat → Option D) (exV : Nat → Value) (B : Bs) (e : ME) : TE := fun σ H Q => ∃ B', B'.P = B.P ∧ B'.w = B.w ∧ B'.K = B.K ∧ tEv G C exV B' WF e σ H Q
theorem lc_read {e : ME} {tg : TG} {own : List Nat} {it : IT} {c : MT} (hsub : ∀ i ∈ tg.slots, i ∈ own) {σ : St} {H : Hp} {Q : VK} (q : tEv G C exV B W (.lc e tg own it c) σ H Q) : tLc (tEvi G C exV B W it) (lcG B tg) (lcT G C exV B c) (lcE G C exV B e) own σ H Q := by
  obtain ⟨ρ, fs, st, q⟩ := q
  unfold ev at q
  refine ⟨ρ, fs, st, q.bind.mono fun r ρ1 q J H1 f fs1 S src => ?_⟩
  intro Dn hD
  have q := q.later S
  obtain ⟨hp, q⟩ := q.ite
  obtain ⟨vs, ev_, q⟩ := q.of
  simp only [Bool.and_eq_true] at hp
  obtain ⟨⟨hpe, hpc⟩, hcl⟩ := hp
  obtain ⟨us, et, e2⟩ := Option.bind_eq_some_iff.mp ev_
  split at e2
  · rename_i hlen
    obtain ⟨jt, ej, rfl⟩ := Option.map_eq_some_iff.mp e2
    have st1 := S.st
    have hl1 : ρ1.length = fs1.length := st1.sl.len.1.trans st1.sl.len.2.symm
    have there1 : ∀ f ∈ fs1, ∀ a, 0 < f a → H1 a ≠ none := fun f hf a z => by
      obtain ⟨j, hj⟩ := List.getElem?_of_mem hf
      have hjl : j < ρ1.length := by rw [hl1]; exact (List.getElem?_eq_some_iff.mp hj).1
      obtain ⟨o, f', e1, e2, sl⟩ := st1.sl.get (List.getElem?_eq_getElem hjl)
      rw [hj] at e2; cases e2
      obtain ⟨u, eu, _⟩ := sl.there a z
      rw [eu]; exact fun z => nomatch z
    have sD : ∀ (k : ST → Bool), sumOf k ρ1 fs1 Dn = 0 := fun k => Nat.eq_zero_of_not_pos fun y => by
      obtain ⟨o, e, _⟩ := st1.sl.there k Dn y
      rw [hD] at e; cases e
    have up1 : Same H1 (upd H1 Dn (.lst [])) := same_upd hD
    -- the turns' invariant
    refine ⟨fun i m Hi => m = r.ds.length - i ∧ i ≤ r.ds.length ∧ Same H1 Hi ∧ ∃ ys acc gs rest, Hi Dn = some (.lst ys) ∧ RepT B H ρ fs Hi ρ1 fs1 ys acc gs ∧ (∀ a, frSum acc gs a ≤ 1) ∧ sumF gs Dn = 0 ∧
      turns (fun d => (bindT tg r.t d (wipeE ρ1 own)).bind fun ρ1 => (evt G C c ρ1).val.bind fun k => if k then (ev G C e ρ1).val.bind fun v => (retT v).map some else some none) (r.ds.drop i) = some rest ∧ acc ++ rest = us, ⟨r.ds.length, rfl, Nat.zero_le _, up1, [], [], [], us, upd_same, .nil, fun a => Nat.zero_le _, rfl, et, rfl⟩, ?_⟩
    rintro i m Hi ⟨rfl, hi, sm, ys, acc, gs, rest, hDi, reps, ap, gD, eturn, happ⟩
    by_cases hlt : i < r.ds.length
    · right
      have ed : r.ds[i]? = some r.ds[i] := List.getElem?_eq_getElem hlt
      obtain ⟨go, yl⟩ := src.go Hi (Same.kept sm f) i _ ed
      rw [List.drop_eq_getElem_cons hlt] at eturn
      obtain ⟨o, rs, ef, et2, erest⟩ := turns_cons eturn
      refine ⟨go, fun H' => ∃ m', m' < r.ds.length - i ∧ (m' = r.ds.length - (i + 1) ∧ i + 1 ≤ r.ds.length ∧ Same H1 H' ∧ ∃ ys acc gs rest, H' Dn = some (.lst ys) ∧ RepT B H ρ fs H' ρ1 fs1 ys acc gs ∧ (∀ a, frSum acc gs a ≤ 1) ∧ sumF gs Dn = 0 ∧
        turns (fun d => (bindT tg r.t d (wipeE ρ1 own)).bind fun ρ1 => (evt G C c ρ1).val.bind fun k => if k then (ev G C e ρ1).val.bind fun v => (retT v).map some else some none) (r.ds.drop (i + 1)) = some rest ∧ acc ++ rest = us), fun H' h => h, fun x H' y => ?_⟩
      obtain ⟨sm2, h, rx, hle, him⟩ := yl x H' y
      have sm1 := sm.trans sm2
      -- the block's state
      have stw := (st1.same sm1).wipe own
      have thw : ∀ f' ∈ wipeF fs1 own, ∀ a, 0 < f' a → H1 a ≠ none := fun f' hf a z => by
        rcases mem_wipeF hf with rfl | hf
        · exact absurd z (Nat.lt_irrefl _)
        · exact there1 f' hf a z
      have stB := stw.here (H1 := H1) thw
      have how1 := sum_clear hl1 hcl
      obtain ⟨ρ2, eb, ef⟩ := Option.bind_eq_some_iff.mp ef
      have tS : TagS (B.here H' H1) (wipeE ρ1 own) (wipeF fs1 own) r.t h := by
        rcases src.it with q | q
        · have tgr := src.tag
          generalize r.root = u at q tgr
          rw [q]
          cases u with
          | im => exact him q
          | vl => exact fun a z => (how1 a).trans (tgr a (Nat.lt_of_lt_of_le z (hle a)))
          | fr => exact fun a z => (how1 a).trans ((tgr a).2 (Nat.lt_of_lt_of_le z (hle a))).1
          | tm j => trivial
        · rw [q]; exact him q
      refine ⟨B.here H' H1, rfl, rfl, rfl, r.t, wipeE ρ1 own, wipeF fs1 own, r.ds[i], h, ρ2, stB, rx, tS, fun a z => .inr ⟨src.live a (Nat.lt_of_lt_of_le z (hle a)), src.prov a (Nat.lt_of_lt_of_le z (hle a))⟩, eb, fun σ2 fs2 bp bvl off => ?_⟩
      have offw : ∀ j, j ∉ own → σ2[j]? = (L2.wipe σ own)[j]? ∧ ρ2[j]? = (wipeE ρ1 own)[j]? ∧ fs2[j]? = (wipeF fs1 own)[j]? := fun j hj => off.2 j fun z => hj (hsub j z)
      refine ⟨?_, ?_⟩
      · rw [wipe_ext off.1.1 fun j hj => (offw j hj).1, wipe_idem]
      -- the test
      obtain ⟨b, ec, ef⟩ := Option.bind_eq_some_iff.mp ef
      obtain ⟨ρ3, ec⟩ : ∃ ρ3, evt G C c ρ2 = .ok b ρ3 := by
        unfold R.val at ec
        split at ec
        · rename_i z; cases ec; exact ⟨_, z⟩
        · cases ec
      refine ⟨B.here H' H1, rfl, rfl, rfl, ρ2, fs2, bp.st, ?_⟩
      rw [ec]
      intro H3 fs3 S3
      obtain ⟨sm3, e3, e4⟩ := S3.pu hpc
      -- behind the turn
      have sm13 : Same H1 H3 := sm1.trans sm3
      have hD3 : H3 Dn = some (.lst ys) := sm3 _ _ (sm2 _ _ hDi)
      have drop1 : r.ds.length - (i + 1) < r.ds.length - i := by omega
      cases b with
      | false =>
        rw [if_neg (by decide)] at ef ⊢
        cases ef
        refine ⟨_, drop1, rfl, hlt, sm13, ys, acc, gs, rs, hD3, reps.kept (fun a o h z => sm3 _ _ (sm2 _ _ h)), ap, gD, et2, by rw [← happ, erest]⟩
      | true =>
        rw [if_pos rfl] at ef ⊢
        obtain ⟨v, ee, ef⟩ := Option.bind_eq_some_iff.mp ef
        obtain ⟨w, ew, eo⟩ := Option.map_eq_some_iff.mp ef
        obtain ⟨ρ4, ee⟩ : ∃ ρ4, ev G C e ρ2 = .ok v ρ4 := by
          unfold R.val at ee
          split at ee
          · rename_i z; cases ee; exact ⟨_, z⟩
          · cases ee
        refine ⟨B.here H3 H1, rfl, rfl, rfl, ρ2, fs2, ?_, ?_⟩
        · have z := S3.st
          rw [e3, e4] at z
          refine ⟨?_, z.m1, z.mn, fun a o h _ => h, fun a h => h, fun f' hf a y => ?_, fun a y => .inr Nat.one_pos⟩
          · refine Slots.of z.sl.len.1 z.sl.len.2 fun j s es => ?_
            obtain ⟨o, f', e1, e2, q⟩ := z.sl.get es
            refine ⟨o, f', e1, e2, ?_⟩
            cases q with
            | nul => exact .nul
            | val r q => exact .val r q
          · rcases z.b3 f' hf a y with h | h
            · exfalso
              obtain ⟨j, hj⟩ := List.getElem?_of_mem hf
              have hjl : j < ρ2.length := by rw [bp.st.sl.len.1, ← bp.st.sl.len.2]; exact (List.getElem?_eq_some_iff.mp hj).1
              obtain ⟨o, f'', e1, e2, sl⟩ := bp.st.sl.get (List.getElem?_eq_getElem hjl)
              rw [hj] at e2; cases e2
              obtain ⟨u, eu, _⟩ := sl.there a y
              have h' : H' a = none := h
              rw [h'] at eu; cases eu
            · exact .inr h
        rw [ee]
        intro y H4 g4 fs4 P4
        obtain ⟨sm4, e5, e6⟩ := P4.stp.pu hpe
        have hD4 : H4 Dn = some (.lst ys) := sm4 _ _ hD3
        have sm14 : Same H1 H4 := sm13.trans sm4
        obtain ⟨wd, wt, wn⟩ := ret_solid ew
        -- the item's footprint is clear of the new list
        have fD : g4 Dn = 0 := Nat.eq_zero_of_not_pos fun z => by
          rcases P4.prov Dn z with h | h
          · have h' : H3 Dn = none := h
            rw [hD3] at h'; cases h'
          · exact h.1 hD
        have lsum : ∀ a, sumOf Ev.own ρ1 fs1 a ≤ sumOf Ev.own ρ2 fs2 a := fun a => by
          have ea : wipeE ρ2 own = wipeE ρ1 own := by
            refine List.ext_getElem? fun j => ?_
            by_cases cj : j ∈ own
            · have wz : ∀ {is : List Nat} {ρ : En}, j ∈ is → (wipeE ρ is)[j]? = if j < ρ.length then some none else none := fun {is} => by
                induction is with
                | nil => intro ρ h; cases h
                | cons i0 is ih =>
                  intro ρ hj
                  show (wipeE (ρ.put i0 none) is)[j]? = _
                  by_cases c2 : j ∈ is
                  · rw [ih c2]
                    show (if j < (ρ.set i0 none).length then _ else _) = _
                    rw [List.length_set]
                  · rw [wipeE_at c2]
                    have : j = i0 := by
                      rcases List.mem_cons.mp hj with q | q
                      · exact q
                      · exact absurd q c2
                    subst this
                    show (ρ.set j none)[j]? = _
                    by_cases l : j < ρ.length
                    · rw [List.getElem?_set_self l, if_pos l]
                    · rw [if_neg l]; exact List.getElem?_eq_none (by rw [List.length_set]; omega)
              rw [wz cj, wz cj]
              have hll : ρ2.length = ρ1.length := by
                rw [off.1.2.1]
                have : ∀ (is : List Nat) (ρ : En), (wipeE ρ is).length = ρ.length := fun is => by
                  induction is with
                  | nil => intro ρ; rfl
                  | cons i0 is ih => intro ρ; show (wipeE (ρ.put i0 none) is).length = _; rw [ih]; exact List.length_set
                exact this own ρ1
              rw [hll]
            · rw [wipeE_at cj, (offw j cj).2.1]
          have eb' : wipeF fs2 own = wipeF fs1 own := by
            refine List.ext_getElem? fun j => ?_
            by_cases cj : j ∈ own
            · have wz : ∀ {is : List Nat} {l : List FP}, j ∈ is → (wipeF l is)[j]? = if j < l.length then some fz else none := fun {is} => by
                induction is with
                | nil => intro ρ h; cases h
                | cons i0 is ih =>
                  intro ρ hj
                  show (wipeF (ρ.set i0 fz) is)[j]? = _
                  by_cases c2 : j ∈ is
                  · rw [ih c2, List.length_set]
                  · rw [wipeF_at c2]
                    have : j = i0 := by
                      rcases List.mem_cons.mp hj with q | q
                      · exact q
                      · exact absurd q c2
                    subst this
                    by_cases l : j < ρ.length
                    · rw [List.getElem?_set_self l, if_pos l]
                    · rw [if_neg l]; exact List.getElem?_eq_none (by rw [List.length_set]; omega)
              rw [wz cj, wz cj]
              have hll : fs2.length = fs1.length := by
                rw [off.1.2.2]
                have : ∀ (is : List Nat) (l : List FP), (wipeF l is).length = l.length := fun is => by
                  induction is with
                  | nil => intro ρ; rfl
                  | cons i0 is ih => intro ρ; show (wipeF (ρ.set i0 fz) is).length = _; rw [ih]; exact List.length_set
                exact this own fs1
              rw [hll]
            · rw [wipeF_at cj, (offw j cj).2.2]
          have h1 := sum_wipe Ev.own (is := own) (ρ := ρ2) (fs := fs2) (bp.st.sl.len.1.trans bp.st.sl.len.2.symm) a
          rw [ea, eb', how1 a] at h1
          exact h1
        have tagw : TagOk H ρ fs ρ1 fs1 w.t g4 := by
          rcases wt with ⟨q1, q2⟩ | q1
          · rw [q1]; exact P4.rep.imm q2
          · rw [q1]
            have tv := P4.tag
            rw [e5, e6] at tv
            have nt : ∀ i, v.t ≠ .tm i := fun i z => wn i (q1.trans z)
            generalize v.t = vt at tv nt
            cases vt with
            | im => exact tv
            | vl => exact fun a z => by have := tv a z; have := lsum a; omega
            | fr =>
              refine fun a => ⟨(tv a).1, fun z => ?_⟩
              obtain ⟨t1, t2, t3⟩ := (tv a).2 z
              have hn : H3 a = none := t3.resolve_right (by omega)
              have hn1 : H1 a = none := live_of (fun b hb hz => by
                cases q : H1 b with
                | none => exact hb q
                | some o => rw [sm13 _ _ q] at hz; cases hz) hn
              have nz : ∀ (p : ST → Bool), sumOf p ρ1 fs1 a = 0 := fun p => Nat.eq_zero_of_not_pos fun y => by
                obtain ⟨o, e, _⟩ := st1.sl.there p a y
                rw [hn1] at e; cases e
              exact ⟨nz _, nz _, .inl (live_of S.fr.live hn1)⟩
            | tm j => exact absurd rfl (nt j)
        have pvw : ∀ a, 0 < g4 a → B.H0 a = none ∨ B.A0 a := fun a z => by
          rcases P4.prov a z with h | h
          · refine .inl (st1.b2' (live_of (fun b hb hz => ?_) (show H3 a = none from h)))
            cases q : H1 b with
            | none => exact hb q
            | some o => rw [sm13 _ _ q] at hz; cases hz
          · exact h.2
        -- the list grows
        have upD : ∀ a o, a ≠ Dn → H4 a = some o → (upd H4 Dn (.lst (ys ++ [y]))) a = some o := fun a o ne h => by rw [upd_ne ne]; exact h
        have rw_ : Rep B.P B.w B.K (upd H4 Dn (.lst (ys ++ [y]))) y w.d g4 := by
          rw [wd]
          refine P4.rep.kept fun a o h z => upD a o (fun q => ?_) h
          subst q
          rcases z with z | z
          · omega
          · rw [hD4] at h; cases h; exact z trivial
        have repsN : RepT B H ρ fs (upd H4 Dn (.lst (ys ++ [y]))) ρ1 fs1 ys acc gs := reps.kept fun a o h z => by
          refine upD a o (fun q => ?_) (sm4 _ _ (sm3 _ _ (sm2 _ _ h)))
          subst q
          rcases z with z | z
          · omega
          · rw [hDi] at h; cases h; exact z trivial
        obtain ⟨r1, r2, r3⟩ := RepT.snoc rw_ tagw pvw repsN
        have hb : ys.length < sizeLine := by
          have l1 := reps.len
          have l2 : us.length ≤ sizeLine := by rw [← big_eq]; exact hlen
          rw [← happ, erest, ← eo, List.length_append, List.length_cons] at l2
          omega
        refine ⟨ys, hD4, hb, _, drop1, rfl, hlt, ?_, ys ++ [y], acc ++ [w], gs ++ [g4], rs, upd_same, r1, fun a => ?_, ?_, et2, ?_⟩
        · intro a o h
          exact upD a o (fun q => by subst q; rw [hD] at h; cases h) (sm14 _ _ h)
        · rw [r3 a]
          have h0 := ap a
          by_cases q : w.t = .fr
          · rw [if_pos q]
            rw [q] at tagw
            by_cases z : 0 < g4 a
            · have z2 : frSum acc gs a = 0 := Nat.eq_zero_of_not_pos fun y2 => by
                have h2 := frSum_sum acc gs a
                obtain ⟨u, eu, _⟩ := (reps.repL).there a (by omega)
                rcases P4.prov a z with h | h
                · have h' : H3 a = none := h
                  rw [sm3 _ _ (sm2 _ _ eu)] at h'; cases h'
                · -- what was there at the start is not new
                  rcases ((tagw a).2 z).2.2 with h3 | h3
                  · have tv := P4.tag
                    rcases wt with ⟨q1, _⟩ | q1
                    · rw [q] at q1; cases q1
                    · rw [← q1, q, e5, e6] at tv
                      obtain ⟨t1, t2, t3⟩ := (tv a).2 z
                      have hn : H3 a = none := t3.resolve_right (by omega)
                      rw [sm3 _ _ (sm2 _ _ eu)] at hn; cases hn
                  · have tv := P4.tag
                    rcases wt with ⟨q1, _⟩ | q1
                    · rw [q] at q1; cases q1
                    · rw [← q1, q, e5, e6] at tv
                      obtain ⟨t1, t2, t3⟩ := (tv a).2 z
                      have hn : H3 a = none := t3.resolve_right (by omega)
                      rw [sm3 _ _ (sm2 _ _ eu)] at hn; cases hn
              have := (tagw a).1
              omega
            · omega
          · rw [if_neg q]
            have z : fz a = 0 := rfl
            omega
        · rw [r2 Dn]; omega
        · rw [← happ, erest, ← eo, List.append_assoc]
          rfl
    · left
      have e0 : i = r.ds.length := by omega
      subst e0
      refine ⟨src.stop Hi (Same.kept sm f), ?_⟩
      rw [List.drop_length] at eturn
      have er : rest = [] := by
        unfold turns at eturn
        exact (Option.some.inj eturn).symm
      rw [er, List.append_nil] at happ
      subst happ
      have tagS := sum_tag reps ej ap
      refine q (.ref Dn) Hi _ fs1 ⟨(S.andSame sm).weak fun z => z, .lst hDi reps.repL, TagOk.made st1.sl S.fr.live hD gD tagS, fun a z => ?_, fun _ e => nomatch e⟩
      by_cases c2 : a = Dn
      · subst c2; exact .inl (st1.b2' hD)
      · have z' : 0 < Ev.fs Dn a + sumF gs a := z
        rw [fs_ne c2] at z'
        exact reps.prov a (by omega)
  · cases e2
theorem ok_lc (g : Gd I G C exV B k rd wr W X) {e : ME} {tg : TG} {own : List Nat} {it : IT} {c : MT} {elt t iter : Expr} {ifs : List Expr} {scope : Scope} (hi : PI X t iter (tEvi G C exV B W it)) (htg : chkg I scope tg t = true) (how : (ownP I own).map (·.2) = own) (hsub : ∀ i ∈ tg.slots, i ∈ own)
    (hblk : blkC I.N rd scope (ownP I own) = true) (hs : ∀ x, foldedSetIterable iter X.env x = pure x)
    (he : ∀ (B' : Bs) (X' : Cx), Gd I G C exV B' k (relS scope rd) scope WF X' → PE X' elt (tEv G C exV B' WF e)) (hc : ∀ (B' : Bs) (X' : Cx), Gd I G C exV B' k (relS scope rd) scope WF X' → PTs X' ifs (tEvt G C exV B' WF c)) :
    PE X (.ListComp elt [⟨t, iter, ifs, 0⟩] scope pos) (tEv G C exV B W (.lc e tg own it c)) := by
  have ok : BlkOk X.N X.env.scope scope (ownP I own) := by rw [g.eN, g.esc]; exact blkOk_by hblk
  have base := pe_lc (pos := pos) (elt := elt) (g := lcG B tg) (tt := lcT G C exV B c) (te := lcE G C exV B e) g.calm g.nd hi ok
    (fun s H C cl fp => ⟨fun pins s σ H v u Q I r ⟨B', h1, h2, h3, q⟩ => ((tg_ok (g.blk h1 h2 h3) tg).1 t htg).run pins s σ H v u Q I r q⟩)
    (fun s H C cl fp => ⟨fun pins s σ H Q I ⟨B', h1, h2, h3, q⟩ => (hc B' _ (g.blk h1 h2 h3)).run pins s σ H Q I q⟩)
    (fun s H C cl fp => ⟨fun pins s σ H Q I ⟨B', h1, h2, h3, q⟩ => (he B' _ (g.blk h1 h2 h3)).run pins s σ H Q I q⟩) hs
  rw [how] at base
  exact PE.weak base fun σ H Q q => lc_read hsub q
/-- name = [..] on one line -/
theorem ok_setLc (g : Gd I G C exV B k rd wr W X) {i : Nat} {y : Str} {py spos : Pos} {e : ME} {tg : TG} {own : List Nat} {it : IT} {c : MT} {elt t iter : Expr} {ifs : List Expr} {scope : Scope} (hy : X.N[i]? = some y) (hyl : X.env.scope.names.lookup y = some .local)
    (hsw : swapsWith (.ListComp elt [⟨t, iter, ifs, 0⟩] scope pos) (some (.Name y py)) spos.line X.env = pure true) (hi : PI X t iter (tEvi G C exV B W it)) (htg : chkg I scope tg t = true) (how : (ownP I own).map (·.2) = own) (hsub : ∀ i ∈ tg.slots, i ∈ own)
    (hblk : blkC I.N rd scope (ownP I own) = true) (hs : ∀ x, foldedSetIterable iter X.env x = pure x)
    (he : ∀ (B' : Bs) (X' : Cx), Gd I G C exV B' k (relS scope rd) scope WF X' → PE X' elt (tEv G C exV B' WF e)) (hc : ∀ (B' : Bs) (X' : Cx), Gd I G C exV B' k (relS scope rd) scope WF X' → PTs X' ifs (tEvt G C exV B' WF c)) :
    PS X (.Assign [.Name y py] (.ListComp elt [⟨t, iter, ifs, 0⟩] scope pos) spos) (fun D σ H => tEv G C exV B W (.lc e tg own it c) σ H fun x H1 => D.nx (σ.set i (some x)) H1) := by
  have ok : BlkOk X.N X.env.scope scope (ownP I own) := by rw [g.eN, g.esc]; exact blkOk_by hblk
  have base := ps_setLc (i := i) (pos := pos) (elt := elt) (g := lcG B tg) (tt := lcT G C exV B c) (te := lcE G C exV B e) g.calm g.nd hy hyl hsw hi ok
    (fun s H C cl fp => ⟨fun pins s σ H v u Q I r ⟨B', h1, h2, h3, q⟩ => ((tg_ok (g.blk h1 h2 h3) tg).1 t htg).run pins s σ H v u Q I r q⟩)
    (fun s H C cl fp => ⟨fun pins s σ H Q I ⟨B', h1, h2, h3, q⟩ => (hc B' _ (g.blk h1 h2 h3)).run pins s σ H Q I q⟩)
    (fun s H C cl fp => ⟨fun pins s σ H Q I ⟨B', h1, h2, h3, q⟩ => (he B' _ (g.blk h1 h2 h3)).run pins s σ H Q I q⟩) hs
  rw [how] at base
  exact ⟨fun pins s σ H D I q => base.run pins s σ H D I (lc_read hsub q)⟩
end
end Ev
end

section
set_option Elab.async false
set_option linter.all false
set_option maxRecDepth 100000
set_option maxHeartbeats 1000000
/-! Comprehensions with two clauses, all that they gather immediate. -/
namespace Ev
open PySem L2
section
variable {I : Info} {G : Tab} {C : Nat → Option D} {exV : Nat → Value} {B : Bs} {k : Nat} {rd wr : Scope} {W : WX} {X : Cx} {pos : Pos}
theorem turns2_cons {f : D → Option (List RV)} {d : D} {ds : List D} {vs : List RV} (h : turns2 f (d :: ds) = some vs) : ∃ o r, f d = some o ∧ turns2 f ds = some r ∧ vs = o ++ r := by
  unfold turns2 at h
  obtain ⟨o, e1, e2⟩ := Option.bind_eq_some_iff.mp h
  obtain ⟨r, e3, e4⟩ := Option.map_eq_some_iff.mp e2
  exact ⟨o, r, e1, e3, e4.symm⟩
abbrev lcI (G : Tab) (C : Nat → Option D) (exV : Nat → Value) (B : Bs) (it : IT) : TI := fun σ H Q => ∃ B', B'.P = B.P ∧ B'.w = B.w ∧ B'.K = B.K ∧ tEvi G C exV B' WF it σ H Q
/-- the state, another heap: but for one new thing all stays -/
theorem StR.heap {σ : St} {Ha Hb H1 : Hp} {ρ : En} {fs : List FP} {Dn : Addr} (z : StR (B.here Ha H1) σ Ha ρ fs) (hD : H1 Dn = none) {ys : List V} (ha : Ha Dn = some (.lst ys)) (sm : ∀ a o, a ≠ Dn → Ha a = some o → Hb a = some o) : StR (B.here Hb H1) σ Hb ρ fs := by
  have b3 : ∀ f ∈ fs, ∀ a, 0 < f a → H1 a ≠ none ∧ (B.H0 a = none ∨ B.A0 a) := fun f' hf a y => by
    rcases z.b3 f' hf a y with h | h
    · exfalso
      obtain ⟨j, hj⟩ := List.getElem?_of_mem hf
      have hjl : j < ρ.length := by rw [z.sl.len.1, ← z.sl.len.2]; exact (List.getElem?_eq_some_iff.mp hj).1
      obtain ⟨o, f'', e1, e2, sl⟩ := z.sl.get (List.getElem?_eq_getElem hjl)
      rw [hj] at e2; cases e2
      obtain ⟨u, eu, _⟩ := sl.there a y
      have h' : Ha a = none := h
      rw [h'] at eu; cases eu
    · exact h
  refine ⟨?_, z.m1, z.mn, fun a o h _ => h, fun a h => h, fun f' hf a y => .inr (b3 f' hf a y), fun a y => .inr Nat.one_pos⟩
  refine Slots.of z.sl.len.1 z.sl.len.2 fun j s es => ?_
  obtain ⟨o, f', e1, e2, q⟩ := z.sl.get es
  refine ⟨o, f', e1, e2, ?_⟩
  cases q with
  | nul => exact .nul
  | val r q =>
    refine .val (r.kept fun a u h w => sm a u (fun c => ?_) h) q
    subst c
    rcases w with w | w
    · exact (b3 f' (List.mem_of_getElem? e2) a w).1 hD
    · rw [ha] at h
      cases h
      exact w trivial
theorem lc2_read {e : ME} {tg tg' : TG} {own own' : List Nat} {it it' : IT} {c : MT} (hsub : ∀ i ∈ tg.slots, i ∈ own) (hsub' : ∀ i ∈ tg'.slots, i ∈ own') {σ : St} {H : Hp} {Q : VK} (q : tEv G C exV B W (.lc2 e tg own it tg' own' it' c) σ H Q) :
    tLc2 (tEvi G C exV B W it) (lcG B tg) tYes (lcI G C exV B it') (lcG B tg') (lcT G C exV B c) (lcE G C exV B e) own own' σ H Q := by
  obtain ⟨ρ, fs, st, q⟩ := q
  unfold ev at q
  refine ⟨ρ, fs, st, q.bind.mono fun r ρ1 q J H1 f fs1 S src => ?_⟩
  intro Dn hD
  have q := q.later S
  obtain ⟨hp, q⟩ := q.ite
  obtain ⟨vs, ev_, q⟩ := q.of
  simp only [Bool.and_eq_true] at hp
  obtain ⟨⟨⟨hpe, hpc⟩, hpi⟩, hcl⟩ := hp
  obtain ⟨us, et, e2⟩ := Option.bind_eq_some_iff.mp ev_
  split at e2
  · rename_i hlen
    cases e2
    have st1 := S.st
    have hl1 : ρ1.length = fs1.length := st1.sl.len.1.trans st1.sl.len.2.symm
    have there1 : ∀ f ∈ fs1, ∀ a, 0 < f a → H1 a ≠ none := fun f hf a z => by
      obtain ⟨j, hj⟩ := List.getElem?_of_mem hf
      have hjl : j < ρ1.length := by rw [hl1]; exact (List.getElem?_eq_some_iff.mp hj).1
      obtain ⟨o, f', e1, e2, sl⟩ := st1.sl.get (List.getElem?_eq_getElem hjl)
      rw [hj] at e2; cases e2
      obtain ⟨u, eu, _⟩ := sl.there a z
      rw [eu]; exact fun z => nomatch z
    have up1 : Same H1 (upd H1 Dn (.lst [])) := same_upd hD
    -- all but the new list
    have same_of : ∀ {Ha Hb : Hp}, Same H1 Ha → (∀ a o, a ≠ Dn → Ha a = some o → Hb a = some o) → Same H1 Hb := fun h1 h2 a o h => h2 a o (fun c => by subst c; rw [hD] at h; cases h) (h1 a o h)
    generalize hF : (fun d => (bindT tg r.t d (wipeE ρ1 own)).bind fun ρ1 => (evi G C it' ρ1).val.bind fun r' => if r'.t = .im then
        turns (fun d' => (bindT tg' .im d' (wipeE ρ1 own')).bind fun ρ2 => (evt G C c ρ2).val.bind fun k => if k = true then (ev G C e ρ2).val.bind fun v => if v.d.imm = true then some (some (⟨.im, v.d⟩ : RV)) else none else some none) r'.ds else none) = F at et
    refine ⟨fun i m Hi => m = r.ds.length - i ∧ i ≤ r.ds.length ∧ Same H1 Hi ∧ ∃ ys acc rest, Hi Dn = some (.lst ys) ∧ RepL B.P B.w B.K Hi ys (acc.map (·.d)) fz ∧ turns2 F (r.ds.drop i) = some rest ∧ acc ++ rest = us, ⟨r.ds.length, rfl, Nat.zero_le _, up1, [], [], us, upd_same, .nil, et, rfl⟩, ?_⟩
    rintro i m Hi ⟨rfl, hi, sm, ys, acc, rest, hDi, reps, eturn, happ⟩
    by_cases hlt : i < r.ds.length
    · right
      have ed : r.ds[i]? = some r.ds[i] := List.getElem?_eq_getElem hlt
      obtain ⟨go, yl⟩ := src.go Hi (Same.kept sm f) i _ ed
      rw [List.drop_eq_getElem_cons hlt] at eturn
      obtain ⟨o, rs, ef, et2, erest⟩ := turns2_cons eturn
      refine ⟨go, fun H' => ∃ m', m' < r.ds.length - i ∧ (m' = r.ds.length - (i + 1) ∧ i + 1 ≤ r.ds.length ∧ Same H1 H' ∧ ∃ ys acc rest, H' Dn = some (.lst ys) ∧ RepL B.P B.w B.K H' ys (acc.map (·.d)) fz ∧ turns2 F (r.ds.drop (i + 1)) = some rest ∧ acc ++ rest = us), fun H' h => h, fun x H' y => ?_⟩
      obtain ⟨sm2, h, rx, hle, him⟩ := yl x H' y
      have sm1 := sm.trans sm2
      have hD' : H' Dn = some (.lst ys) := sm2 _ _ hDi
      have stw := (st1.same sm1).wipe own
      have thw : ∀ f' ∈ wipeF fs1 own, ∀ a, 0 < f' a → H1 a ≠ none := fun f' hf a z => by
        rcases mem_wipeF hf with rfl | hf
        · exact absurd z (Nat.lt_irrefl _)
        · exact there1 f' hf a z
      have stB := stw.here (H1 := H1) thw
      have how1 := sum_clear hl1 hcl
      rw [← hF] at ef
      obtain ⟨ρ2, eb, ef⟩ := Option.bind_eq_some_iff.mp ef
      have tS : TagS (B.here H' H1) (wipeE ρ1 own) (wipeF fs1 own) r.t h := by
        rcases src.it with q | q
        · have tgr := src.tag
          generalize r.root = u at q tgr
          rw [q]
          cases u with
          | im => exact him q
          | vl => exact fun a z => (how1 a).trans (tgr a (Nat.lt_of_lt_of_le z (hle a)))
          | fr => exact fun a z => (how1 a).trans ((tgr a).2 (Nat.lt_of_lt_of_le z (hle a))).1
          | tm j => trivial
        · rw [q]; exact him q
      refine ⟨B.here H' H1, rfl, rfl, rfl, r.t, wipeE ρ1 own, wipeF fs1 own, r.ds[i], h, ρ2, stB, rx, tS, fun a z => .inr ⟨src.live a (Nat.lt_of_lt_of_le z (hle a)), src.prov a (Nat.lt_of_lt_of_le z (hle a))⟩, eb, fun σ2 fs2 bp bvl off => ?_⟩
      have offw : ∀ j, j ∉ own → σ2[j]? = (L2.wipe σ own)[j]? ∧ ρ2[j]? = (wipeE ρ1 own)[j]? ∧ fs2[j]? = (wipeF fs1 own)[j]? := fun j hj => off.2 j fun z => hj (hsub j z)
      refine ⟨?_, ?_⟩
      · rw [wipe_ext off.1.1 fun j hj => (offw j hj).1, wipe_idem]
      unfold tYes
      dsimp only
      rw [if_pos rfl]
      -- the second source
      obtain ⟨r', ei, ef⟩ := Option.bind_eq_some_iff.mp ef
      split at ef
      rotate_left
      · cases ef
      rename_i him'
      obtain ⟨ρ3, ei⟩ : ∃ ρ3, evi G C it' ρ2 = .ok r' ρ3 := by
        unfold R.val at ei
        split at ei
        · rename_i z; cases ei; exact ⟨_, z⟩
        · cases ei
      refine ⟨B.here H' H1, rfl, rfl, rfl, ρ2, fs2, bp.st, ?_⟩
      rw [ei]
      intro J4 H4 f4 fs4 S4 src4
      obtain ⟨sm4, e4, e5⟩ := S4.pu hpi
      subst e4
      subst e5
      have hD4 : H4 Dn = some (.lst ys) := sm4 _ _ hD'
      have sm14 : Same H1 H4 := sm1.trans sm4
      have f4D : f4 Dn = 0 := Nat.eq_zero_of_not_pos fun z => by
        rcases src4.prov Dn z with h | h
        · have h' : H' Dn = none := h
          rw [hD'] at h'; cases h'
        · exact h.1 hD
      generalize hF1 : (fun d' => (bindT tg' .im d' (wipeE ρ3 own')).bind fun ρ2 => (evt G C c ρ2).val.bind fun k => if k = true then (ev G C e ρ2).val.bind fun v => if v.d.imm = true then some (some (⟨.im, v.d⟩ : RV)) else none else some none) = F1 at ef
      have drop1 : r.ds.length - (i + 1) < r.ds.length - i := by omega
      refine ⟨fun j n Hj => n = r'.ds.length - j ∧ j ≤ r'.ds.length ∧ (∀ a o, a ≠ Dn → H4 a = some o → Hj a = some o) ∧ ∃ ys acc rest, Hj Dn = some (.lst ys) ∧ RepL B.P B.w B.K Hj ys (acc.map (·.d)) fz ∧ turns F1 (r'.ds.drop j) = some rest ∧ acc ++ rest ++ rs = us,
        ⟨r'.ds.length, rfl, Nat.zero_le _, fun a o _ h => h, ys, acc, o, hD4, reps.kept (Same.kept (sm2.trans sm4) _), ef, by rw [← happ, erest, List.append_assoc]⟩, ?_⟩
      rintro j n Hj ⟨rfl, hj, smj, ysj, accj, restj, hDj, repj, eturn1, happ1⟩
      have kj : Kept H4 Hj f4 := fun a o h w => smj a o (fun c => by
        subst c
        rcases w with w | w
        · omega
        · rw [hD4] at h; cases h; exact w trivial) h
      by_cases hlt1 : j < r'.ds.length
      · right
        have ed1 : r'.ds[j]? = some r'.ds[j] := List.getElem?_eq_getElem hlt1
        obtain ⟨go1, yl1⟩ := src4.go Hj kj j _ ed1
        rw [List.drop_eq_getElem_cons hlt1] at eturn1
        obtain ⟨o1, rs1, ef1, et3, erest1⟩ := turns_cons eturn1
        refine ⟨go1, fun H' => ∃ k', k' < r'.ds.length - j ∧ (k' = r'.ds.length - (j + 1) ∧ j + 1 ≤ r'.ds.length ∧ (∀ a o, a ≠ Dn → H4 a = some o → H' a = some o) ∧ ∃ ys acc rest, H' Dn = some (.lst ys) ∧ RepL B.P B.w B.K H' ys (acc.map (·.d)) fz ∧ turns F1 (r'.ds.drop (j + 1)) = some rest ∧ acc ++ rest ++ rs = us), fun H' h => h, fun x1 H6 y1 => ?_⟩
        obtain ⟨sm6, h1, rx1, hle1, him1⟩ := yl1 x1 H6 y1
        have z1 : h1 = fz := him1 him'
        subst z1
        have sm46 : ∀ a o, a ≠ Dn → H4 a = some o → H6 a = some o := fun a o c h => sm6 _ _ (smj a o c h)
        have hD6 : H6 Dn = some (.lst ysj) := sm6 _ _ hDj
        have st6 := (bp.st.heap (Hb := H6) hD hD' fun a o c h => sm46 a o c (sm4 _ _ h)).wipe own'
        rw [← hF1] at ef1
        obtain ⟨ρ4, eb1, ef1⟩ := Option.bind_eq_some_iff.mp ef1
        refine ⟨B.here H6 H1, rfl, rfl, rfl, .im, wipeE ρ3 own', wipeF fs4 own', r'.ds[j], fz, ρ4, st6, rx1, rfl, fun a z => absurd z (Nat.lt_irrefl _), eb1, fun σ7 fs7 bp7 bvl7 off7 => ?_⟩
        have offw7 : ∀ j, j ∉ own' → σ7[j]? = (L2.wipe σ2 own')[j]? := fun j hj => (off7.2 j fun z => hj (hsub' j z)).1
        refine ⟨?_, ?_⟩
        · rw [wipe_ext off7.1.1 fun j hj => offw7 j hj, wipe_idem]
        obtain ⟨b, ec, ef1⟩ := Option.bind_eq_some_iff.mp ef1
        obtain ⟨ρ5, ec⟩ : ∃ ρ5, evt G C c ρ4 = .ok b ρ5 := by
          unfold R.val at ec
          split at ec
          · rename_i z; cases ec; exact ⟨_, z⟩
          · cases ec
        refine ⟨B.here H6 H1, rfl, rfl, rfl, ρ4, fs7, bp7.st, ?_⟩
        rw [ec]
        intro H7 fs8 S7
        obtain ⟨sm7, e6, e7⟩ := S7.pu hpc
        have hD7 : H7 Dn = some (.lst ysj) := sm7 _ _ hD6
        have sm47 : ∀ a o, a ≠ Dn → H4 a = some o → H7 a = some o := fun a o c h => sm7 _ _ (sm46 a o c h)
        have dropj : r'.ds.length - (j + 1) < r'.ds.length - j := by omega
        cases b with
        | false =>
          rw [if_neg (by decide)] at ef1 ⊢
          cases ef1
          exact ⟨_, dropj, rfl, hlt1, sm47, ysj, accj, rs1, hD7, repj.kept (Same.kept (sm6.trans sm7) _), et3, by rw [← happ1, erest1]⟩
        | true =>
          rw [if_pos rfl] at ef1 ⊢
          obtain ⟨v, ee, ef1⟩ := Option.bind_eq_some_iff.mp ef1
          split at ef1
          rotate_left
          · cases ef1
          rename_i vi
          cases ef1
          obtain ⟨ρ6, ee⟩ : ∃ ρ6, ev G C e ρ4 = .ok v ρ6 := by
            unfold R.val at ee
            split at ee
            · rename_i z; cases ee; exact ⟨_, z⟩
            · cases ee
          refine ⟨B.here H7 H1, rfl, rfl, rfl, ρ4, fs7, bp7.st.heap (Hb := H7) hD hD6 (fun a o c h => sm7 _ _ h), ?_⟩
          rw [ee]
          intro y8 H8 g8 fs8' P8
          obtain ⟨sm8, e8, e9⟩ := P8.stp.pu hpe
          have hD8 : H8 Dn = some (.lst ysj) := sm8 _ _ hD7
          have rp8 := P8.rep
          have zg := rp8.imm vi
          subst zg
          have hb : ysj.length < sizeLine := by
            have l1 := repj.length
            have l2 : us.length ≤ sizeLine := by rw [← big_eq]; exact hlen
            rw [List.length_map] at l1
            rw [← happ1, erest1, List.length_append, List.length_append, List.length_cons] at l2
            omega
          have k8 : ∀ {g : FP}, g Dn = 0 → Kept H8 (upd H8 Dn (.lst (ysj ++ [y8]))) g := fun hg a o h w => by
            have c : a ≠ Dn := fun c => by
              subst c
              rcases w with w | w
              · omega
              · rw [hD8] at h; cases h; exact w trivial
            rw [upd_ne c]; exact h
          refine ⟨ysj, hD8, hb, _, dropj, rfl, hlt1, fun a o c h => by rw [upd_ne c]; exact sm8 _ _ (sm47 a o c h), ysj ++ [y8], accj ++ [⟨.im, v.d⟩], rs1, upd_same, ?_, et3, by rw [← happ1, erest1]; simp⟩
          rw [List.map_append]
          exact ((repj.kept (Same.kept ((sm6.trans sm7).trans sm8) _)).kept (k8 rfl)).append (.cons (rp8.kept (k8 rfl)) .nil)
      · left
        have e0 : j = r'.ds.length := by omega
        subst e0
        refine ⟨src4.stop Hj kj, ?_⟩
        rw [List.drop_length] at eturn1
        have er : restj = [] := by
          unfold turns at eturn1
          exact (Option.some.inj eturn1).symm
        rw [er, List.append_nil] at happ1
        exact ⟨_, drop1, rfl, hlt, same_of sm14 smj, ysj, accj, rs, hDj, repj, et2, happ1⟩
    · left
      have e0 : i = r.ds.length := by omega
      subst e0
      refine ⟨src.stop Hi (Same.kept sm f), ?_⟩
      rw [List.drop_length] at eturn
      have er : rest = [] := by
        unfold turns2 at eturn
        exact (Option.some.inj eturn).symm
      rw [er, List.append_nil] at happ
      subst happ
      refine q (.ref Dn) Hi _ fs1 ⟨(S.andSame sm).weak fun z => z, .lst hDi reps, TagOk.made (t := .im) st1.sl S.fr.live hD rfl rfl, fun a z => ?_, fun _ e => nomatch e⟩
      by_cases c2 : a = Dn
      · subst c2; exact .inl (st1.b2' hD)
      · have z' : 0 < Ev.fs Dn a + fz a := z
        rw [fs_ne c2] at z'
        exact absurd z' (Nat.lt_irrefl _)
  · cases e2
theorem ok_lc2 (g : Gd I G C exV B k rd wr W X) {e : ME} {tg tg' : TG} {own own' : List Nat} {it it' : IT} {c : MT} {elt t iter t' iter' : Expr} {ifs : List Expr} {scope : Scope} (hi : PI X t iter (tEvi G C exV B W it)) (htg : chkg I scope tg t = true) (how : (ownP I own).map (·.2) = own) (hsub : ∀ i ∈ tg.slots, i ∈ own)
    (hblk : blkC I.N rd scope (ownP I own) = true) (hs : ∀ x, foldedSetIterable iter X.env x = pure x) (hv : ∀ i ∈ own', i ∈ own) (hsub' : ∀ i ∈ tg'.slots, i ∈ own') (htg' : chkg I scope tg' t' = true) (hs' : ∀ env x, foldedSetIterable iter' env x = pure x)
    (hi' : ∀ (B' : Bs) (X' : Cx), Gd I G C exV B' k (relS scope rd) scope WF X' → PI X' t' iter' (tEvi G C exV B' WF it'))
    (he : ∀ (B' : Bs) (X' : Cx), Gd I G C exV B' k (relS scope rd) scope WF X' → PE X' elt (tEv G C exV B' WF e)) (hc : ∀ (B' : Bs) (X' : Cx), Gd I G C exV B' k (relS scope rd) scope WF X' → PTs X' ifs (tEvt G C exV B' WF c)) :
    PE X (.ListComp elt [⟨t, iter, [], 0⟩, ⟨t', iter', ifs, 0⟩] scope pos) (tEv G C exV B W (.lc2 e tg own it tg' own' it' c)) := by
  have ok : BlkOk X.N X.env.scope scope (ownP I own) := by rw [g.eN, g.esc]; exact blkOk_by hblk
  have base := pe_lc2 (pos := pos) (elt := elt) (g := lcG B tg) (g1 := lcG B tg') (wi1 := lcI G C exV B it') (tt1 := lcT G C exV B c) (te := lcE G C exV B e) (vs1 := own') g.calm g.nd hi ok (by rw [how]; exact hv)
    (fun s H C cl fp => ⟨fun pins s σ H v u Q I r ⟨B', h1, h2, h3, q⟩ => ((tg_ok (g.blk h1 h2 h3) tg).1 t htg).run pins s σ H v u Q I r q⟩)
    (fun s H C cl fp => pts_nil)
    (fun s H C cl fp => ⟨fun pins s σ H Q I ⟨B', h1, h2, h3, q⟩ => (hi' B' _ (g.blk h1 h2 h3)).run pins s σ H Q I q⟩)
    (fun s H C cl fp => ⟨fun pins s σ H v u Q I r ⟨B', h1, h2, h3, q⟩ => ((tg_ok (g.blk h1 h2 h3) tg').1 t' htg').run pins s σ H v u Q I r q⟩)
    (fun s H C cl fp => ⟨fun pins s σ H Q I ⟨B', h1, h2, h3, q⟩ => (hc B' _ (g.blk h1 h2 h3)).run pins s σ H Q I q⟩)
    (fun s H C cl fp => ⟨fun pins s σ H Q I ⟨B', h1, h2, h3, q⟩ => (he B' _ (g.blk h1 h2 h3)).run pins s σ H Q I q⟩) hs hs'
  rw [how] at base
  exact PE.weak base fun σ H Q q => lc2_read hsub hsub' q
/-- name = [..] on one line -/
theorem ok_setLc2 (g : Gd I G C exV B k rd wr W X) {i : Nat} {y : Str} {py spos : Pos} {e : ME} {tg tg' : TG} {own own' : List Nat} {it it' : IT} {c : MT} {elt t iter t' iter' : Expr} {ifs : List Expr} {scope : Scope} (hy : X.N[i]? = some y) (hyl : X.env.scope.names.lookup y = some .local)
    (hsw : swapsWith (.ListComp elt [⟨t, iter, [], 0⟩, ⟨t', iter', ifs, 0⟩] scope pos) (some (.Name y py)) spos.line X.env = pure true) (hi : PI X t iter (tEvi G C exV B W it)) (htg : chkg I scope tg t = true) (how : (ownP I own).map (·.2) = own) (hsub : ∀ i ∈ tg.slots, i ∈ own)
    (hblk : blkC I.N rd scope (ownP I own) = true) (hs : ∀ x, foldedSetIterable iter X.env x = pure x) (hv : ∀ i ∈ own', i ∈ own) (hsub' : ∀ i ∈ tg'.slots, i ∈ own') (htg' : chkg I scope tg' t' = true) (hs' : ∀ env x, foldedSetIterable iter' env x = pure x)
    (hi' : ∀ (B' : Bs) (X' : Cx), Gd I G C exV B' k (relS scope rd) scope WF X' → PI X' t' iter' (tEvi G C exV B' WF it'))
    (he : ∀ (B' : Bs) (X' : Cx), Gd I G C exV B' k (relS scope rd) scope WF X' → PE X' elt (tEv G C exV B' WF e)) (hc : ∀ (B' : Bs) (X' : Cx), Gd I G C exV B' k (relS scope rd) scope WF X' → PTs X' ifs (tEvt G C exV B' WF c)) :
    PS X (.Assign [.Name y py] (.ListComp elt [⟨t, iter, [], 0⟩, ⟨t', iter', ifs, 0⟩] scope pos) spos) (fun D σ H => tEv G C exV B W (.lc2 e tg own it tg' own' it' c) σ H fun x H1 => D.nx (σ.set i (some x)) H1) := by
  have ok : BlkOk X.N X.env.scope scope (ownP I own) := by rw [g.eN, g.esc]; exact blkOk_by hblk
  have base := ps_setLc2 (i := i) (pos := pos) (elt := elt) (g := lcG B tg) (g1 := lcG B tg') (wi1 := lcI G C exV B it') (tt1 := lcT G C exV B c) (te := lcE G C exV B e) (vs1 := own') g.calm g.nd hy hyl hsw hi ok (by rw [how]; exact hv)
    (fun s H C cl fp => ⟨fun pins s σ H v u Q I r ⟨B', h1, h2, h3, q⟩ => ((tg_ok (g.blk h1 h2 h3) tg).1 t htg).run pins s σ H v u Q I r q⟩)
    (fun s H C cl fp => pts_nil)
    (fun s H C cl fp => ⟨fun pins s σ H Q I ⟨B', h1, h2, h3, q⟩ => (hi' B' _ (g.blk h1 h2 h3)).run pins s σ H Q I q⟩)
    (fun s H C cl fp => ⟨fun pins s σ H v u Q I r ⟨B', h1, h2, h3, q⟩ => ((tg_ok (g.blk h1 h2 h3) tg').1 t' htg').run pins s σ H v u Q I r q⟩)
    (fun s H C cl fp => ⟨fun pins s σ H Q I ⟨B', h1, h2, h3, q⟩ => (hc B' _ (g.blk h1 h2 h3)).run pins s σ H Q I q⟩)
    (fun s H C cl fp => ⟨fun pins s σ H Q I ⟨B', h1, h2, h3, q⟩ => (he B' _ (g.blk h1 h2 h3)).run pins s σ H Q I q⟩) hs hs'
  rw [how] at base
  exact ⟨fun pins s σ H D I q => base.run pins s σ H D I (lc2_read hsub hsub' q)⟩
end
end Ev
end

section
set_option Elab.async false
set_option linter.all false
set_option maxRecDepth 100000
set_option maxHeartbeats 1000000
/-! Dicts' displays, dict(pairs), list(range(..)), t.index(x). -/
namespace Ev
open PySem L2
section
variable {G : Tab} {C : Nat → Option D} {exV : Nat → Value} {B : Bs} {W : WX}
theorem evs_uncons {a : ME} {as : MEs} {σ : St} {H : Hp} {Q : List V → Hp → Prop} (q : tEvs G C exV B W (.cons a as) σ H Q) : tEv G C exV B W a σ H fun x H1 => tEvs G C exV B W as σ H1 fun xs H2 => Q (x :: xs) H2 := by
  obtain ⟨ρ, fs, st, q⟩ := q
  unfold evs at q
  refine then_e st q fun v ρ1 x H1 f fs1 P q => ?_
  obtain ⟨hw, q⟩ := q.ite
  refine then_s P.stp.st q fun vs ρ2 xs H2 gs fs2 A q => ?_
  exact q (x :: xs) H2 (f :: gs) fs2 (PostA.cons P A hw)
end
/-- the values of the pairs -/
inductive PairV : List V → List (Value × Value) → Prop
  | nil : PairV [] []
  | cons {x y : V} {xs : List V} {u v : Value} {us : List (Value × Value)} : RelV x u → RelV y v → PairV xs us → PairV (x :: y :: xs) ((u, v) :: us)
section
variable {I : Info} {G : Tab} {C : Nat → Option D} {exV : Nat → Value} {B : Bs} {k : Nat} {rd wr : Scope} {W : WX} {X : Cx} {pos : Pos}
/-- the parts of a display are read -/
inductive PD (I : Info) (G : Tab) (C : Nat → Option D) (exV : Nat → Value) (B : Bs) (rd wr : Scope) (W : WX) (X : Cx) : MEs → List (Option Expr) → List Expr → Prop
  | nil : PD I G C exV B rd wr W X .nil [] []
  | cons {a b : ME} {r : MEs} {x y : Expr} {ks : List (Option Expr)} {vs : List Expr} : chk I rd wr a x = true → chk I rd wr b y = true → PE X x (tEv G C exV B W a) → PE X y (tEv G C exV B W b) → PD I G C exV B rd wr W X r ks vs → PD I G C exV B rd wr W X (.cons a (.cons b r)) (some x :: ks) (y :: vs)
theorem PD.all {kvs : MEs} {ks : List (Option Expr)} {vs : List Expr} (h : PD I G C exV B rd wr W X kvs ks vs) : ks.all (·.isSome) = true ∧ ks.length = vs.length ∧ kvs.slots.length = 2 * ks.length := by
  induction h with
  | nil => exact ⟨rfl, rfl, rfl⟩
  | cons _ _ _ _ _ ih =>
    obtain ⟨q1, q2, q3⟩ := ih
    refine ⟨by simpa using q1, by simp [q2], ?_⟩
    simp [MEs.slots]
    omega
theorem pairs_run {kvs : MEs} {ks : List (Option Expr)} {vs : List Expr} (h : PD I G C exV B rd wr W X kvs ks vs) : ∀ (pins : List (Addr × Obj)) (s : Shared) (σ : St) (H : Hp) (Q : List V → Hp → Prop), Inv X pins σ H s → tEvs G C exV B W kvs σ H Q →
    wpAny (model X.prog X.w) X.A (evalPairs (pairTrees ks vs X.env pos)) (fun us s' => ∃ xs H', Inv X pins σ H' s' ∧ PairV xs us ∧ Q xs H') X.xe s := by
  induction h with
  | nil =>
    intro pins s σ H Q I0 q
    refine pairTrees_nil_walk ⟨[], H, I0, .nil, ?_⟩
    obtain ⟨ρ, fs, st, q⟩ := q
    unfold evs at q
    exact q [] H [] fs (PostA.nil st)
  | cons _ _ h3 h4 h5 ih =>
    intro pins s σ H Q I0 q
    refine pairTrees_cons_walk (thn (h3.run pins s σ H _ I0 (evs_uncons q)) fun u s1 ⟨x1, H1, I1, r1, q1⟩ => thn (h4.run pins s1 σ H1 _ I1 (evs_uncons q1)) fun w2 s2 ⟨y1, H2, I2, r2, q2⟩ => ?_)
    refine thn (ih pins s2 σ H2 _ I2 q2) fun ws s3 ⟨xs, H3, I3, rel, q3⟩ => ?_
    exact ⟨x1 :: y1 :: xs, H3, I3, .cons r1 r2 rel, q3⟩
end
/-! ### pairs of data -/
section
variable {P : Program} {w : World} {K : PySem.W.Frag} {H : Hp}
theorem unpair_rep : ∀ {xs : List V} {ds ks vs : List D} {us : List (Value × Value)} {f : FP}, RepL P w K H xs ds f → PairV xs us → unpair ds = some (ks, vs) → immAll ks = true → immAll vs = true →
    ∃ xk xv, RepL P w K H xk ks fz ∧ RepL P w K H xv vs fz ∧ Vals xk (us.map (·.1)) ∧ Vals xv (us.map (·.2))
  | [], [], ks, vs, _, _, .nil, .nil, e, _, _ => by
    cases e
    exact ⟨[], [], .nil, .nil, .nil, .nil⟩
  | x :: y :: xs, d :: d' :: ds, ks, vs, _, _, .cons r1 (.cons r2 r3), .cons v1 v2 pv, e, ik, iv => by
    unfold unpair at e
    obtain ⟨q, e1, e2⟩ := Option.map_eq_some_iff.mp e
    cases e2
    have ik' : d.imm = true ∧ immAll q.1 = true := by simpa [immAll] using ik
    have iv' : d'.imm = true ∧ immAll q.2 = true := by simpa [immAll] using iv
    obtain ⟨xk, xv, q1, q2, q3, q4⟩ := unpair_rep r3 pv e1 ik'.2 iv'.2
    have z1 := r1.imm ik'.1
    have z2 := r2.imm iv'.1
    subst z1 z2
    exact ⟨x :: xk, y :: xv, (RepL.cons r1 q1).cast fun _ => rfl, (RepL.cons r2 q2).cast fun _ => rfl, .cons v1 q3, .cons v2 q4⟩
theorem dist_nodup {n : Nat} (g : D → NestedKey) : ∀ {ks : List D}, distD ks = true → (∀ k ∈ ks, ∀ k' ∈ ks, k'.eqv k = decide (g k' = g k)) → (ks.map g).Nodup
  | [], _, _ => List.nodup_nil
  | k :: ks, h, e => by
    have h' : ks.all (fun k' => !k'.eqv k) = true ∧ distD ks = true := by simpa [distD] using h
    rw [List.map_cons, List.nodup_cons]
    refine ⟨fun z => ?_, dist_nodup (n := n) g h'.2 fun a ha b hb => e a (by simp [ha]) b (by simp [hb])⟩
    obtain ⟨k', hk, ek⟩ := List.mem_map.mp z
    have q := List.all_eq_true.mp h'.1 k' hk
    rw [e k (by simp) k' (by simp [hk]), decide_eq_true ek] at q
    cases q
theorem dist_nodupL : ∀ {ks : List D}, distD ks = true → (∀ k ∈ ks, ∀ k' ∈ ks, k'.eqv k = decide (k'.leaf = k.leaf)) → (ks.map D.leaf).Nodup
  | [], _, _ => List.nodup_nil
  | k :: ks, h, e => by
    have h' : ks.all (fun k' => !k'.eqv k) = true ∧ distD ks = true := by simpa [distD] using h
    rw [List.map_cons, List.nodup_cons]
    refine ⟨fun z => ?_, dist_nodupL h'.2 fun a ha b hb => e a (by simp [ha]) b (by simp [hb])⟩
    obtain ⟨k', hk, ek⟩ := List.mem_map.mp z
    have q := List.all_eq_true.mp h'.1 k' hk
    rw [e k (by simp) k' (by simp [hk]), decide_eq_true ek] at q
    cases q
theorem dist_T {ks : List D} (h : distD ks = true) (hk : keyedAll 8 ks = true) : (ks.map D.nk).Nodup := dist_nodup (n := 0) D.nk h fun k hk1 k' hk2 => by
  obtain ⟨m, e1⟩ := keyedAll_mem hk hk1
  obtain ⟨m', e2⟩ := keyedAll_mem hk hk2
  exact nk_eqv k' k m' m e2 e1
theorem dist_L {ks : List D} (h : distD ks = true) (hk : keyedAll 8 ks = true) (ht : ks.all (fun k => !k.isTup) = true) : (ks.map D.leaf).Nodup := dist_nodupL h fun k hk1 k' hk2 => by
  obtain ⟨m, e1⟩ := keyedAll_mem hk hk1
  obtain ⟨m', e2⟩ := keyedAll_mem hk hk2
  have t1 : k.isTup = false := by simpa using List.all_eq_true.mp ht k hk1
  have t2 : k'.isTup = false := by simpa using List.all_eq_true.mp ht k' hk2
  exact leaf_eqv e2 e1 t2 t1
/-- keys with their addresses, and values -/
theorem keys_H : ∀ {xk : List V} {ks : List D} {uk uv : List Value}, RepL P w K H xk ks fz → Vals xk uk → ks.all D.isTup = true → uv.length = uk.length → ∃ xs : List (NestedKey × Addr × Value), xs.map (·.1) = ks.map D.nk ∧ (xs.map fun x => V.ref x.2.1) = xk ∧ (xs.map fun x => Value.ref x.2.1) = uk ∧ xs.map (·.2.2) = uv
  | [], [], [], [], _, _, _, _ => ⟨[], rfl, rfl, rfl, rfl⟩
  | [], [], [], _ :: _, _, _, _, h => by cases h
  | x :: xk, k :: ks, u :: uk, [], _, _, _, h => by cases h
  | x :: xk, k :: ks, u :: uk, v :: uv, r, .cons r1 rv, ht, hl => by
    obtain ⟨q1, q2⟩ := r.uncons0
    have ht' : k.isTup = true ∧ ks.all D.isTup = true := by simpa using ht
    obtain ⟨a, rfl⟩ : ∃ a, x = .ref a := by
      have t := ht'.1
      cases k <;> simp [D.isTup] at t
      obtain ⟨a, vs, e, _⟩ := tup_inv q1
      exact ⟨a, e⟩
    obtain ⟨xs, e1, e2, e3, e4⟩ := keys_H (uv := uv) q2 rv ht'.2 (by simpa using hl)
    cases r1
    exact ⟨(k.nk, a, v) :: xs, by simp [e1], by simp [e2], by simp [e3], by simp [e4]⟩
  | [], _ :: _, _, _, r, _, _, _ => nomatch r
  | _ :: _, [], _, _, r, _, _, _ => nomatch r
  | [], [], _ :: _, _, _, h, _, _ => nomatch h
  | _ :: _, _ :: _, [], _, _, h, _, _ => nomatch h
theorem keyed_unimm {n : Nat} : ∀ {ks : List D}, keyedAll n ks = true → immAll ks = true := fun h => by
  have key : ∀ (ks : List D), (∀ k ∈ ks, k.imm = true) → immAll ks = true := fun ks => by
    induction ks with
    | nil => intro _; simp [immAll]
    | cons k ks ih => intro h; simp [immAll, h k (by simp), ih fun k' hk => h k' (by simp [hk])]
  refine key _ fun k hk => ?_
  obtain ⟨m, e⟩ := keyedAll_mem h hk
  have : ∀ (d : D) (n : Nat), d.keyed n = true → d.imm = true := fun d => by
    refine D.rec (motive_1 := fun d => ∀ n, d.keyed n = true → d.imm = true) (motive_2 := fun ds => ∀ n, keyedAll n ds = true → immAll ds = true) ?_ ?_ ?_ ?_ ?_ ?_ ?_ ?_ ?_ ?_ ?_ ?_ d
    · intro n _; rfl
    · intro b n _; rfl
    · intro i n _; rfl
    · intro x n _; rfl
    · intro ds ih n h; simp only [D.imm]; exact ih n (by simpa [D.keyed] using h)
    · intro ds ih n h; simp [D.keyed] at h
    · intro ks vs _ _ n h; simp [D.keyed] at h
    · intro C ns ds _ n h; simp [D.keyed] at h
    · intro ns n h; simp [D.keyed] at h
    · intro v n h; simp [D.keyed] at h
    · intro n _; simp [immAll]
    · intro d ds h1 h2 n h
      cases n with
      | zero => simp [keyedAll] at h
      | succ n =>
        have h' : d.keyed n = true ∧ keyedAll (n + 1) ds = true := by simpa [keyedAll] using h
        simp [immAll, h1 n h'.1, h2 (n + 1) h'.2]
  exact this k m e
end

/-- a thing newly laid at p is written once more -/
theorem new_step {B : Bs} {σ : St} {H H2 : Hp} {ρ ρ1 : En} {fs fs2 : List FP} {pu : Bool} {p : Addr} {o1 o3 : HO} (st : StR B σ H ρ fs) (hn : H p = none) (S : Step B σ (upd H p o1) ρ fs pu H2 ρ1 fs2) (hw : wr o1) :
    Step B σ H ρ fs pu (upd H2 p o3) ρ1 fs2 ∧ H2 p = some o1 ∧ (∀ q, sumOf q ρ fs p = 0) ∧ sumOf own ρ1 fs2 p = 0 ∧ sumOf frz ρ1 fs2 p = 0 ∧ (∀ f : FP, f p = 0 → Kept H2 (upd H2 p o3) f) := by
  have z0 : ∀ (q : ST → Bool), sumOf q ρ fs p = 0 := fun q => Nat.eq_zero_of_not_pos fun y => by
    obtain ⟨u, e, _⟩ := st.sl.there q p y
    rw [hn] at e; cases e
  have e2 : H2 p = some o1 := S.fr.keep p o1 upd_same (z0 chg)
  have zo : sumOf own ρ1 fs2 p = 0 := Nat.eq_zero_of_not_pos fun y => by
    rcases S.fr.own p y with q | q
    · rw [z0] at q; exact Nat.lt_irrefl _ q
    · rw [upd_same] at q; cases q
  have zf : sumOf frz ρ1 fs2 p = 0 := by have := S.nf p; rw [z0] at this; omega
  have kp : ∀ f : FP, f p = 0 → Kept H2 (upd H2 p o3) f := fun f hf => kept_upd e2 hw hf
  have all0 : ∀ (i : Nat) (s : Option SV) (f : FP) (o : Option V), ρ1[i]? = some s → fs2[i]? = some f → Slot B H2 s o f → f p = 0 := fun i s f o e1 e2' sl => by
    cases sl with
    | nul => rfl
    | @val t d v _ r him =>
      have h1 : ctr own (some ⟨t, d⟩) f p ≤ sumOf own ρ1 fs2 p := sum_ge own e1 e2' p
      have h2 : ctr frz (some ⟨t, d⟩) f p ≤ sumOf frz ρ1 fs2 p := sum_ge frz e1 e2' p
      cases t with
      | im => rw [him rfl]; rfl
      | vl => have q : f p ≤ sumOf frz ρ1 fs2 p := h2; omega
      | mu => have q : f p ≤ sumOf own ρ1 fs2 p := h1; omega
      | rf => have q : f p ≤ sumOf own ρ1 fs2 p := h1; omega
      | lk => have q : f p ≤ sumOf own ρ1 fs2 p := h1; omega
  have nH : ∀ a, H a ≠ none → a ≠ p := fun a h q => by subst q; exact h hn
  refine ⟨⟨⟨?_, S.st.m1, S.st.mn, fun a o h z => ?_, fun a h => ?_, S.st.b3, S.st.b4⟩, ⟨fun a o h z => ?_, fun a h => ?_, fun a z => ?_, fun a z => ?_⟩, S.nf, S.lk, fun hp => ?_, S.rf⟩, e2, z0, zo, zf, kp⟩
  · refine Slots.of S.st.sl.len.1 S.st.sl.len.2 fun i s ei => ?_
    obtain ⟨o, f, e3, e4, sl⟩ := S.st.sl.get ei
    exact ⟨o, f, e3, e4, sl.kept (kp f (all0 i s f o ei e4 sl))⟩
  · have h1 := S.st.b1 a o h z
    rw [upd_ne (nH a fun q => by
      have := st.b2 a (by rw [h]; exact fun z => nomatch z)
      exact this q)]
    exact h1
  · have h0 := st.b2 a h
    rw [upd_ne (nH a h0)]
    exact S.st.b2 a h
  · rw [upd_ne (nH a (by rw [h]; exact fun z => nomatch z))]
    exact S.fr.keep a o (by rw [upd_ne (nH a (by rw [h]; exact fun z => nomatch z))]; exact h) z
  · rw [upd_ne (nH a h)]
    exact S.fr.live a (by rw [upd_ne (nH a h)]; exact h)
  · rcases S.fr.own a z with q | q
    · exact .inl q
    · by_cases c : a = p
      · subst c; exact .inr hn
      · rw [upd_ne c] at q; exact .inr q
  · rcases S.fr.chg a z with q | q
    · exact .inl q
    · by_cases c : a = p
      · subst c; exact .inr hn
      · rw [upd_ne c] at q; exact .inr q
  · obtain ⟨k1, k2, k3⟩ := S.pu hp
    refine ⟨fun a o h => ?_, k2, k3⟩
    have na := nH a (by rw [h]; exact fun z => nomatch z)
    rw [upd_ne na]
    exact k1 a o (by rw [upd_ne na]; exact h)
section
variable {X : Cx} {pins : List (Addr × Obj)} {σ : St} {H : Hp} {s : Shared}
theorem carriesH_of (I : Inv X pins σ H s) : ∀ {us : List (Value × Value)} {xs : List (NestedKey × Addr × Value)} {ks : List D}, xs.map (·.1) = ks.map D.nk → (xs.map fun x => Value.ref x.2.1) = us.map (·.1) → xs.map (·.2.2) = us.map (·.2) → RepL X.prog X.w X.K H (xs.map fun x => V.ref x.2.1) ks fz → keyedAll 8 ks = true →
    CarriesH (nestedKind X.prog X.w) s.heap us xs
  | [], [], _, _, _, _, _, _ => trivial
  | [], _ :: _, _, _, e, _, _, _ => by simp at e
  | _ :: _, [], _, _, e, _, _, _ => by simp at e
  | (u, v) :: us, (n, a, w) :: xs, ks, e1, e2, e3, r, hk => by
    cases ks with
    | nil => simp at e1
    | cons k ks =>
      simp only [List.map_cons, List.cons.injEq] at e1 e2 e3
      have hk' : k.keyed 7 = true ∧ keyedAll 8 ks = true := by simpa [keyedAll] using hk
      obtain ⟨q1, q2⟩ := RepL.uncons0 r
      refine ⟨e2.1.symm, e3.1.symm, ?_, carriesH_of I e1.2 e2.2 e3.2 q2 hk'.2⟩
      have z := key_is I q1 hk'.1 (u := Value.ref a) rfl
      have dd := nk_depth k 7 hk'.1
      rw [← e1.1] at z dd
      exact ⟨z, dd⟩
theorem carries_leaf : ∀ {us : List (Value × Value)} {xk : List V} {ks : List D}, RepL X.prog X.w X.K H xk ks fz → Vals xk (us.map (·.1)) → keyedAll 8 ks = true → ks.all (fun k => !k.isTup) = true → ∃ xs : List (Leaf × Value), Carries (leafKind X.prog X.w) us xs ∧ xs.map (·.1) = ks.map D.leaf ∧ xs.map (·.2) = us.map (·.2)
  | [], [], ks, r, _, _, _ => by
    cases ks with
    | nil => exact ⟨[], trivial, rfl, rfl⟩
    | cons k ks => exact nomatch r
  | (u, v) :: us, x :: xk, ks, r, .cons ru rv, hk, ht => by
    cases ks with
    | nil => exact nomatch r
    | cons k ks =>
      have hk' : k.keyed 7 = true ∧ keyedAll 8 ks = true := by simpa [keyedAll] using hk
      have ht' : k.isTup = false ∧ ks.all (fun k => !k.isTup) = true := by simpa using ht
      obtain ⟨q1, q2⟩ := RepL.uncons0 r
      obtain ⟨xs, c, e1, e2⟩ := carries_leaf q2 rv hk'.2 ht'.2
      exact ⟨(k.leaf, v) :: xs, ⟨leaf_is q1 hk'.1 ht'.1 ru, rfl, c⟩, by simp [e1], by simp [e2]⟩
  | [], _ :: _, _, _, h, _, _ => nomatch h
  | _ :: _, [], _, _, h, _, _ => nomatch h
end
section
variable {I : Info} {G : Tab} {C : Nat → Option D} {exV : Nat → Value} {B : Bs} {k : Nat} {rd wr : Scope} {W : WX} {X : Cx} {pos : Pos}
theorem unpair_len : ∀ {ds : List D} {ks vs : List D}, unpair ds = some (ks, vs) → ks.length = vs.length
  | [], _, _, e => by cases e; rfl
  | [_], _, _, e => by cases e
  | k :: v :: r, _, _, e => by
    unfold unpair at e
    obtain ⟨q, e1, e2⟩ := Option.map_eq_some_iff.mp e
    cases e2
    simp [unpair_len e1]
theorem unpair_len2 : ∀ {ds : List D} {ks vs : List D}, unpair ds = some (ks, vs) → ds.length = 2 * ks.length
  | [], _, _, e => by cases e; rfl
  | [_], _, _, e => by cases e
  | k :: v :: r, _, _, e => by
    unfold unpair at e
    obtain ⟨q, e1, e2⟩ := Option.map_eq_some_iff.mp e
    cases e2
    have := unpair_len2 e1
    simp
    omega
theorem leaf_all : ∀ {n : Nat} {ks : List D}, keyedAll n ks = true → ks.all (fun k => !k.isTup) = true → keyedAll 1 ks = true
  | _, [], _, _ => by simp [keyedAll]
  | 0, _ :: _, h, _ => by simp [keyedAll] at h
  | n + 1, k :: ks, h, ht => by
    have h' : k.keyed n = true ∧ keyedAll (n + 1) ks = true := by simpa [keyedAll] using h
    have ht' : k.isTup = false ∧ ks.all (fun k => !k.isTup) = true := by simpa using ht
    have := leaf_all h'.2 ht'.2
    simp only [keyedAll, Bool.and_eq_true]
    exact ⟨keyed_leaf h'.1 ht'.1, this⟩
theorem ok_dic (g : Gd I G C exV B k rd wr W X) {kvs : MEs} {ks : List (Option Expr)} {vs : List Expr} (hc : PD I G C exV B rd wr W X kvs ks vs) (h15 : ks.length ≤ 15) (h0 : ks ≠ []) :
    PE X (.Dict ks vs pos) (tEv G C exV B W (.dic kvs)) := by
  obtain ⟨hall, hlen, hsl⟩ := hc.all
  refine ⟨fun pins s σ H Q I0 q => ?_⟩
  obtain ⟨ρ, fs, st, q⟩ := q
  unfold ev at q
  have hn : H s.heap.objs.size = none := I0.hok.fresh (Nat.le_refl _)
  have hs : (s.heap.objs.size == sysModules) = false := (dk_empty (P := X.prog) (w := X.w) (H := H) s.heap I0.big).2.1
  have e0 : (s.heap.push { cls := .type "dict", data := .dict #[] }).get? s.heap.objs.size = some { cls := .type "dict", data := .dict #[] } := Heap.get?_push_size _ rfl
  have I1 : Inv X pins σ (upd H s.heap.objs.size (.ext (DE.phi X.prog X.w s.heap.objs.size (.tp dicO [])))) { s with heap := s.heap.push { cls := .type "dict", data := .dict #[] } } := by
    refine I0.laid (a := s.heap.objs.size) (o := .ext (DE.phi X.prog X.w s.heap.objs.size (.tp dicO []))) (t' := s.toks) (fun _ _ q => Heap.get?_push_of_some _ q) (Nat.le_refl _) ⟨⟨#[], 0, e0, ⟨rfl, rfl, rfl⟩, rfl, rfl, by simp⟩, ⟨_, e0⟩, ?_⟩
    rintro h1 h2 ⟨es, ep, q1, q2⟩ k
    exact ⟨es, ep, k _ q1, q2⟩
  have smH := same_upd (o := .ext (DE.phi X.prog X.w s.heap.objs.size (.tp dicO []))) hn
  have qq := (RunR.bind q)
  have qq1 := qq.later (Step.same (p := true) st smH)
  cases ee : evs G C kvs ρ with
  | no => rw [ee] at qq; exact qq.elim
  | ex c ρ' =>
    rw [ee] at qq1
    refine wpAny_Dict_walk (knd := leafKind X.prog X.w) hall hlen h0 h15 (thn (pairs_run hc pins _ σ _ (fun _ _ => False) I1 ⟨ρ, fs, st.same smH, ?_⟩) fun ws s2 ⟨xs, H2, I2, rel, z⟩ => z.elim)
    rw [ee]
    exact qq1
  | ok vs0 ρ1 =>
    rw [ee] at qq
    obtain ⟨r, er, qk⟩ := RunR.of qq
    unfold dispD at er
    obtain ⟨⟨dk, dv⟩, eu, er⟩ := Option.bind_eq_some_iff.mp er
    split at er
    rotate_left
    · cases er
    rename_i cnd
    cases er
    simp only [Bool.and_eq_true, Bool.or_eq_true] at cnd
    obtain ⟨⟨⟨c1, c2⟩, c3⟩, c4⟩ := cnd
    have tE : tEvs G C exV B W kvs σ (upd H s.heap.objs.size (.ext (DE.phi X.prog X.w s.heap.objs.size (.tp dicO [])))) fun xs H2 => ∃ gs fs2, PostA B σ (upd H s.heap.objs.size (.ext (DE.phi X.prog X.w s.heap.objs.size (.tp dicO [])))) ρ fs kvs.pure kvs.slots vs0 xs H2 gs ρ1 fs2 := by
      refine ⟨ρ, fs, st.same smH, ?_⟩
      rw [ee]
      exact fun xs H' gs fs' A => ⟨gs, fs', A⟩
    -- the end
    have fin : ∀ {s2 : Shared} {xs : List V} {H2 : Hp} {gs : List FP} {fs2 : List FP} {h' : Heap} {tk : Nat} {e : DE}, Inv X pins σ H2 s2 → PostA B σ (upd H s.heap.objs.size (.ext (DE.phi X.prog X.w s.heap.objs.size (.tp dicO [])))) ρ fs kvs.pure kvs.slots vs0 xs H2 gs ρ1 fs2 →
        Heap.SameBut s.heap.objs.size s2.heap h' → DE.phi X.prog X.w s.heap.objs.size e h' → ((∀ f : FP, f s.heap.objs.size = 0 → Kept H2 (upd H2 s.heap.objs.size (.ext (DE.phi X.prog X.w s.heap.objs.size e))) f) → Rep X.prog X.w X.K (upd H2 s.heap.objs.size (.ext (DE.phi X.prog X.w s.heap.objs.size e))) (.ref s.heap.objs.size) (.dic dk dv) (Ev.fs s.heap.objs.size)) →
        EP X pins σ Q (.ref s.heap.objs.size) { s2 with heap := h', toks := tk } := fun {s2 xs H2 gs fs2 h' tk e} I2 A sb hphi hrep => by
      obtain ⟨S, e2, z0, zo, zf, kp⟩ := new_step (o3 := .ext (DE.phi X.prog X.w s.heap.objs.size e)) st hn A.stp trivial
      refine ⟨.ref s.heap.objs.size, _, d_write (ob := .ext (DE.phi X.prog X.w s.heap.objs.size e)) (t' := tk) I2 (by rw [e2]; exact True.intro) sb (phi_there hphi) ⟨hphi, phi_there hphi, phi_stable⟩, rfl, ?_⟩
      refine qk (.ref s.heap.objs.size) _ (Ev.fs s.heap.objs.size) fs2 ⟨S, ?_, fun a => ?_, fun a z => ?_, fun _ e => nomatch e⟩
      · have := hrep kp
        rw [← g.eP, ← g.ew, ← g.eK]
        exact this
      · by_cases c : a = s.heap.objs.size
        · subst c
          rw [fs_self]
          exact ⟨Nat.le_refl _, fun _ => ⟨zo, zf, .inl hn⟩⟩
        · rw [fs_ne c]
          exact ⟨Nat.zero_le _, fun z => absurd z (Nat.lt_irrefl _)⟩
      · rw [fs_pos z]; exact .inl (st.b2' hn)
    have lk : dk.length = dv.length := unpair_len eu
    by_cases ct : dk.all D.isTup = true
    · -- keys are tuples
      have hpl : (pairTrees ks vs X.env pos).length = ks.length := pairTrees_length ks vs X.env pos hall hlen
      rw [arm_eval_Dict, zip_pairTrees ks vs X.env pos hall hlen, dictDisplay_pairs (pairTrees ks vs X.env pos) (fun z => h0 (List.length_eq_zero_iff.mp (by rw [← hpl, z]; rfl))) (by omega)]
      refine wpAny_bind (wpAny_standAt (wpAny_bind (wpAny_subDictH (knd := nestedKind X.prog X.w) (Q := fun d s' => wpAny (model X.prog X.w) X.A (pure (Value.ref d)) (EP X pins σ Q) X.xe s') (by show X.A.units + 8 < cLine; have := g.room.un; omega) (by omega) ?_)))
      refine thn (pairs_run hc pins _ σ _ _ I1 tE) fun us s2 ⟨xs, H2, I2, rel, gs, fs2, A⟩ => ?_
      obtain ⟨xk, xv, q1, q2, q3, q4⟩ := unpair_rep A.reps.repL rel eu (keyed_unimm c1) c3
      rw [← g.eP, ← g.ew, ← g.eK] at q1 q2
      obtain ⟨ps, p1, p2, p3, p4⟩ := keys_H (uv := us.map (·.2)) q1 q3 ct (by simp)
      have e2 := (new_step (o3 := .ext (DE.phi X.prog X.w s.heap.objs.size (.tp dicO ps))) st hn A.stp trivial).2.1
      obtain ⟨⟨es, ep, z1, z2, z3, z4, z5⟩, _, _⟩ := (show ObjOk X.prog X.w H2 s2.heap s.heap.objs.size (.ext _) from I2.hok _ _ e2)
      have nd : (ps.map (·.1)).Nodup := by rw [p1]; exact dist_T c4 c1
      refine ⟨ps, carriesH_of I2 p1 p3 p4 (by rw [p2]; exact q1) c1, ⟨dicO, es, ep, z1, z2, z3, z4, (fun x hx => by simp at hx), z5⟩, fun h' tk hd sb => ?_⟩
      rw [storedAllH_nil_of_nodup ps nd] at hd
      obtain ⟨ob, es', ep', y1, y2, y3, y4, y5, y6⟩ := hd
      refine wpAny_pure (fin (e := .tp ob ps) I2 A sb ⟨es', ep', y1, y2, y3, y4, y6⟩ fun kp => ?_)
      have hl : ps.length = dk.length := by have := congrArg List.length p1; simpa using this
      have hks : dk.length ≤ 15 := by
        have l2 := A.vr.len
        have l3 := A.reps.repL.length
        have l4 := unpair_len2 eu
        omega
      refine (Rep.dicT (xs := ps) (vs := xv) upd_same hs (by rw [hl, sizeLine_eq]; omega) p1 ct c1 (by rw [p2]; exact q1.kept (kp fz rfl)) (by rw [p4]; exact q4) (q2.kept (kp fz rfl))).cast fun _ => rfl
    · -- plain keys
      have cl : dk.all (fun k => !k.isTup) = true := c2.resolve_left ct
      refine wpAny_Dict_walk (knd := leafKind X.prog X.w) hall hlen h0 h15 (thn (pairs_run hc pins _ σ _ _ I1 tE) fun us s2 ⟨xs, H2, I2, rel, gs, fs2, A⟩ => ?_)
      obtain ⟨xk, xv, q1, q2, q3, q4⟩ := unpair_rep A.reps.repL rel eu (keyed_unimm c1) c3
      rw [← g.eP, ← g.ew, ← g.eK] at q1 q2
      obtain ⟨ps, p0, p1, p2⟩ := carries_leaf q1 q3 c1 cl
      have e2 := (new_step (o3 := .ext (DE.phi X.prog X.w s.heap.objs.size (.tp dicO []))) st hn A.stp trivial).2.1
      obtain ⟨⟨es, ep, z1, z2, z3, z4, z5⟩, _, _⟩ := (show ObjOk X.prog X.w H2 s2.heap s.heap.objs.size (.ext _) from I2.hok _ _ e2)
      have nd : (ps.map (·.1)).Nodup := by rw [p1]; exact dist_L c4 c1 cl
      have he : es = #[] := by simpa using z4
      subst he
      refine ⟨ps, p0, ⟨dicO, #[], ep, z1, z2, z3, fun e he => by simp at he, .nil, by simp⟩, fun h' hd sb => ?_⟩
      rw [merged_nil_of_nodup ps nd] at hd
      obtain ⟨ob, y⟩ := id hd
      obtain ⟨es', ep', y1, y2⟩ := y
      refine fin (e := .lf ob ps) I2 A sb ⟨y1, hd⟩ fun kp => ?_
      have hl : ps.length = dk.length := by have := congrArg List.length p1; simpa using this
      have hks : dk.length ≤ 15 := by
        have l2 := A.vr.len
        have l3 := A.reps.repL.length
        have l4 := unpair_len2 eu
        omega
      have c1' : keyedAll 1 dk = true := leaf_all c1 cl
      exact (Rep.dicL (xs := ps) (vs := xv) upd_same hs (by rw [hl, sizeLine_eq]; omega) p1 c1' cl (by rw [p2]; exact q4) (q2.kept (kp fz rfl))).cast fun _ => rfl

/-! ### list(range(n)) -/
theorem ok_lrg (g : Gd I G C exV B k rd wr W X) {a : ME} {z : Expr} {x y : Str} {p p2 pos2 : Pos} (hx : x = "list") (hy : y = "range") (gx : glob rd x = true) (gy : glob rd y = true) (hz : chk I rd wr a z = true) (ha : PE X z (tEv G C exV B W a)) :
    PE X (.Call (.Name x p) [.Call (.Name y p2) [z] [] pos2] [] pos) (tEv G C exV B W (.lrg a)) := by
  obtain ⟨g1, g2⟩ := gl_b g gx (by rw [hx]; simp)
  obtain ⟨g3, g4⟩ := gl_b g gy (by rw [hy]; simp)
  subst hx hy
  refine PE.weak (pe_listRg g.calm g1 g2 (prg_1 g3 g4 ha (chk_plain hz [] X.env)) (by rfl)) fun σ H Q q => ?_
  obtain ⟨ρ, fs, st, q⟩ := q
  unfold ev at q
  refine then_e st q fun v ρ1 x H1 f fs1 P q => ?_
  obtain ⟨r, e, q⟩ := q.of
  unfold lrgD at e
  split at e
  · rename_i j ej
    split at e
    · rename_i c
      cases e
      have rp := P.rep
      rw [ej] at rp
      cases rp
      have hb : (big : Int) = 16777216 := rfl
      rw [hb] at c
      refine ⟨j, rfl, ⟨by omega, by omega, by omega, by omega, by show (j - 0).toNat ≤ 16777216; omega⟩, fun p hp => ?_⟩
      have hrg : rgV 0 j = ((List.range j.toNat).map fun (i : Nat) => V.int i) := by
        unfold rgV
        simp
      rw [hrg]
      have hr : ∀ n : Nat, RepL B.P B.w B.K H1 ((List.range n).map fun (i : Nat) => V.int i) ((List.range n).map fun (i : Nat) => D.int i) fz := fun n => by
        have key : ∀ (l : List Nat), RepL B.P B.w B.K H1 (l.map fun (i : Nat) => V.int i) (l.map fun (i : Nat) => D.int i) fz := fun l => by
          induction l with
          | nil => exact .nil
          | cons i l ih => exact (RepL.cons (.int _) ih).cast fun _ => rfl
        exact key _
      exact Res.list (t := .im) P.stp.st P.stp.fr.live (res_of P.stp q) (hr _) rfl (fun b z => absurd z (Nat.lt_irrefl _)) p hp
    · cases e
  · cases e
/-! ### t.index(x) -/
theorem ok_ixo (g : Gd I G C exV B k rd wr W X) {n : Nat} {a : ME} {x : Str} {y : Expr} {p ap cp : Pos} (h1 : I.gls[n]? = some x) (h2 : glob rd x = true) (hline : (ap.endLine == cp.line) = true) (hy : chk I rd wr a y = true) (ha : PE X y (tEv G C exV B W a)) :
    PE X (.Call (.Attribute (.Name x p) "index" ap) [y] [] cp) (tEv G C exV B W (.ixo (.glob n) a)) := by
  obtain ⟨d, u, v, e1, e2, e3, e4, e40⟩ := g.glo n x h1
  obtain ⟨g1, g2⟩ := glob_gl g.esc h2
  have hs : starEach [y] X.env = [(false, eval y X.env)] := chk_plain hy [] X.env
  refine PE.weak (pe_bm (X := X) F.plainAttrs_tuple F.slot_tuple_index F.type_tuple_index mt_tup_index (pe_glob (pos := p) g1 e2 e3 g2) (pa_cons ha pa_nil (chk_plain hy [] X.env)) (base_plain rfl _) (by rw [hs]; rfl) hline hs (by rfl)) fun σ H Q q => ?_
  obtain ⟨ρ, fs, st, q⟩ := q
  have eg : ev G C (.glob n) ρ = .ok ⟨.im, d⟩ ρ := by unfold ev; rw [e1]
  unfold ev at q
  rw [eg] at q
  have q : RunR exV B W σ H ρ fs (if (true && strTup d) = true then (ev G C a ρ).bind fun w ρ'' => R.of ρ'' (ixoD d w.d) else .no) _ := q
  obtain ⟨c, q⟩ := q.ite
  rw [Bool.true_and] at c
  cases d with
  | tup ds =>
    have c : (strsOf ds).isSome = true := c
    obtain ⟨ys, e5⟩ := Option.isSome_iff_exists.mp c
    obtain ⟨b, vs, rfl, e8, e9⟩ := tup_inv (e4 fun _ => none)
    have := strs_rep e9 e5
    subst this
    have kk : ∃ (o : Obj), B.K.lookup b = some o ∧ o.cls = .type "tuple" ∧ o.dict = none := by
      obtain ⟨b', o, eb, q⟩ := e40 rfl
      cases eb
      exact ⟨o, q⟩
    refine ⟨.inr (.inl ⟨rfl, by rw [g.eK]; exact kk⟩), ?_⟩
    refine then_e st q fun w ρ1 y H1 f fs1 P q => ?_
    obtain ⟨r, e, q⟩ := q.of
    unfold ixoD at e
    split at e
    · rename_i ds' z e10 e11
      cases e10
      rw [e5] at e
      have e : (ys.findIdx? (fun y => decide (y = z))).map (fun (j : Nat) => (⟨.im, .int (j : Int)⟩ : RV)) = some r := e
      obtain ⟨j, e12, rfl⟩ := Option.map_eq_some_iff.mp e
      have rp := P.rep
      rw [e11] at rp
      cases rp
      have fi := List.findIdx?_eq_some_iff_getElem.mp e12
      obtain ⟨hj, f1, f2⟩ := fi
      refine ⟨b, ys, z, j, rfl, rfl, ?_, ?_, fun m hm e13 => ?_, imm_end P.stp q (.int _)⟩
      · rw [g.eK]
        rcases e8 with (e8 | ⟨_, e8⟩) | e8
        · cases e8
        · cases e8
        · exact .inr e8
      · rw [List.getElem?_eq_getElem hj]
        rw [of_decide_eq_true f1]
      · have := f2 m hm
        rw [List.getElem?_eq_getElem (by omega)] at e13
        have e14 := Option.some.inj e13
        simp [e14] at this
    · cases e
  | _ => exact absurd c Bool.false_ne_true
end
end Ev
end

section
set_option Elab.async false
set_option linter.all false
set_option maxRecDepth 100000
set_option maxHeartbeats 1000000
/-! dict(pairs), the keys tuples. -/
namespace Ev
open PySem L2
section
variable {X : Cx} {pins : List (Addr × Obj)} {σ : St} {H : Hp} {s : Shared}
theorem pairsOf_cons {d : D} {ds ks vs : List D} (h : pairsOf (d :: ds) = some (ks, vs)) : ∃ k v q, d = .tup [k, v] ∧ pairsOf ds = some q ∧ ks = k :: q.1 ∧ vs = v :: q.2 := by
  unfold pairsOf at h
  split at h
  · rename_i e; cases e
  · rename_i k v ds' e
    cases e
    obtain ⟨q, e1, e2⟩ := Option.map_eq_some_iff.mp h
    cases e2
    exact ⟨k, v, q, rfl, e1, rfl, rfl⟩
  · cases h
theorem repl_two {us : List V} {k v : D} {f : FP} (h : RepL X.prog X.w X.K H us [k, v] f) : ∃ x y f1 f2, us = [x, y] ∧ Rep X.prog X.w X.K H x k f1 ∧ Rep X.prog X.w X.K H y v f2 := by
  cases h with
  | cons h1 h2 =>
    cases h2 with
    | cons h2 h3 =>
      cases h3
      exact ⟨_, _, _, _, rfl, h1, h2⟩
theorem vals_two {x y : V} {us : List Value} (h : Vals [x, y] us) : ∃ u v, us = [u, v] ∧ RelV x u ∧ RelV y v := by
  cases h with
  | cons h1 h2 =>
    cases h2 with
    | cons h2 h3 =>
      cases h3
      exact ⟨_, _, rfl, h1, h2⟩
theorem pairs_heap (I : Inv X pins σ H s) : ∀ {ds : List D} {ws : List V} {ks vs : List D} {f : FP}, RepL X.prog X.w X.K H ws ds f → pairsOf ds = some (ks, vs) → ks.all D.isTup = true → immAll ks = true → immAll vs = true →
    ∃ (ts : List Addr) (ps : List (NestedKey × Addr × Value)) (xv : List V), ws = ts.map V.ref ∧ ps.map (·.1) = ks.map D.nk ∧ RepL X.prog X.w X.K H (ps.map fun y => V.ref y.2.1) ks fz ∧ Vals xv (ps.map (·.2.2)) ∧ RepL X.prog X.w X.K H xv vs fz ∧ ts.length = ps.length ∧
      ∀ (j : Nat) (p : NestedKey × Addr × Value), ps[j]? = some p → ∃ t, ts[j]? = some t ∧ s.heap.IsTuple t #[.ref p.2.1, p.2.2] := by
  intro ds
  induction ds with
  | nil =>
    intro ws ks vs f r e _ _ _
    cases r
    cases e
    exact ⟨[], [], [], rfl, rfl, .nil, .nil, .nil, rfl, fun j p h => by simp at h⟩
  | cons d ds ih =>
    intro ws ks vs f r e ht ik iv
    obtain ⟨k, v, q, rfl, e1, rfl, rfl⟩ := pairsOf_cons e
    cases r with
    | cons r1 r2 =>
      have ik' : k.imm = true ∧ immAll q.1 = true := by simpa [immAll] using ik
      have iv' : v.imm = true ∧ immAll q.2 = true := by simpa [immAll] using iv
      have ht' : k.isTup = true ∧ q.1.all D.isTup = true := by simpa using ht
      obtain ⟨ts, ps, xv, h1, h2, h3, h4, h5, h6, h7⟩ := ih r2 e1 ht'.2 ik'.2 iv'.2
      obtain ⟨a, us, rfl, sq, l⟩ := tup_inv r1
      obtain ⟨x, y, f1, f2, rfl, l1, l2⟩ := repl_two l
      have z1 := l1.imm ik'.1
      have z2 := l2.imm iv'.1
      subst z1 z2
      obtain ⟨b, rfl⟩ := tup_ref l1 ht'.1
      obtain ⟨its, rv, p, hz⟩ := I.tuple sq
      obtain ⟨u, u', rfl, ru, ru'⟩ := vals_two rv
      obtain rfl : u = Value.ref b := ru
      refine ⟨a :: ts, (k.nk, b, u') :: ps, y :: xv, by simp [h1], by simp [h2], (RepL.cons l1 h3).cast fun _ => rfl, .cons ru' h4, (RepL.cons l2 h5).cast fun _ => rfl, by simp [h6], fun j q hq => ?_⟩
      cases j with
      | zero =>
        simp at hq
        subst hq
        exact ⟨a, rfl, p⟩
      | succ j =>
        obtain ⟨t, q1, q2⟩ := h7 j q (by simpa using hq)
        exact ⟨t, by simpa using q1, q2⟩
theorem keys_is (I : Inv X pins σ H s) : ∀ {xs : List (NestedKey × Addr × Value)} {ks : List D}, xs.map (·.1) = ks.map D.nk → keyedAll 8 ks = true → RepL X.prog X.w X.K H (xs.map fun x => V.ref x.2.1) ks fz → ∀ x ∈ xs, (nestedKind X.prog X.w).is s.heap x.1 x.2.1
  | [], ks, _, _, _, x, hx => by cases hx
  | x0 :: xs, ks, e1, e2, e3, x, hx => by
    cases ks with
    | nil => simp at e1
    | cons k ks =>
      simp only [List.map_cons, List.cons.injEq] at e1
      have e2' : k.keyed 7 = true ∧ keyedAll 8 ks = true := by simpa [keyedAll] using e2
      obtain ⟨rr, rt⟩ := RepL.uncons0 e3
      rcases List.mem_cons.mp hx with rfl | hx
      · have z := key_is I rr e2'.1 (u := Value.ref x.2.1) rfl
        have dd := nk_depth k 7 e2'.1
        rw [← e1.1] at z dd
        exact ⟨z, dd⟩
      · exact keys_is I e1.2 e2'.2 rt x hx
def rDpr (B : Program × World × PySem.W.Frag) : List V → Hp → VK → Prop := fun xs H Q => ∃ x ks vs ds f, xs = [x] ∧ Rep B.1 B.2.1 B.2.2 H x (.lst ds) f ∧ pairsOf ds = some (ks, vs) ∧ keyedAll 8 ks = true ∧ ks.all D.isTup = true ∧ immAll vs = true ∧ distD ks = true ∧ ks.length ≤ big ∧
  ∀ (p : Addr) (o : Obj) (ps : List (NestedKey × Addr × Value)), H p = none → Rep B.1 B.2.1 B.2.2 (upd H p (.ext (DE.phi B.1 B.2.1 p (.tp o ps)))) (.ref p) (.dic ks vs) (Ev.fs p) → Q (.ref p) (upd H p (.ext (DE.phi B.1 B.2.1 p (.tp o ps))))
theorem call_dpr (hc : X.calm = true) (hu : X.A.units + 16 < cLine) : CallR X (.type "dict") (rDpr (X.prog, X.w, X.K)) := by
  intro pins s σ H xs us Q I r h
  obtain ⟨x, ks, vs, ds, f, rfl, rep, pe, c1, c2, c3, c4, c5, q⟩ := h
  obtain ⟨u, rfl, rx⟩ := vals1 r
  obtain ⟨a, ws, g, rfl, hh, l, rfl⟩ := lst_inv rep
  obtain rfl : u = Value.ref a := rx
  obtain ⟨ts, ps, xv, rfl, h2, h3, h4, h5, h6, h7⟩ := pairs_heap I l pe c2 (keyed_unimm c1) c3
  obtain ⟨its, n, rv, ho, hz⟩ := I.lst hh
  have ei := refs_at rv
  subst ei
  have nd : (ps.map (·.1)).Nodup := by rw [h2]; exact dist_T c4 c1
  have lp : ps.length = ks.length := by have := congrArg List.length h2; simpa using this
  have szb : ps.length ≤ sizeLine := by rw [lp, ← big_eq]; exact c5
  have ap : ∀ j, (h : j < ts.length) → ts[j]? = some ts[j] := fun j h => List.getElem?_eq_getElem h
  refine call_dict_pairsH (knd := nestedKind X.prog X.w) (ps := ps) (PairArg.list a _ (fun j => (ts[j]?).getD 0) (ps.map fun p => (Value.ref p.2.1, p.2.2))) (I.ok.hd hc) (by show X.A.units + 1 + 1 + 8 < cLine; omega) ⟨⟨_, n, ho, rfl, rfl, rfl⟩, by simp [h6], fun j k v hj => ?_⟩ ⟨by simp, fun i key v hr => ?_⟩ (fun h' hk x hx => ?_) (by simpa using szb) fun h' tk hd k => ?_
  · rw [List.getElem?_map] at hj
    obtain ⟨p, e1, e2⟩ := Option.map_eq_some_iff.mp hj
    cases e2
    obtain ⟨t, e3, e4⟩ := h7 j p e1
    exact ⟨by simp [e3], .inl (by show s.heap.IsTuple ((ts[j]?).getD 0) _; rw [e3]; exact e4)⟩
  · have hr : (ps.map fun p => (Value.ref p.2.1, p.2.2))[i]? = some (key, v) := hr
    rw [List.getElem?_map] at hr
    obtain ⟨p, e1, e2⟩ := Option.map_eq_some_iff.mp hr
    cases e2
    exact ⟨p.1, p.2.1, e1, rfl⟩
  · exact nestedKind_stays.stays (fun b o vs n e _ => hk b o (Nat.ne_of_lt (Heap.lt_size e)) (by simp) e) (keys_is I h2 c1 h3 x hx)
  · rw [storedAllH_nil_of_nodup ps nd] at hd
    obtain ⟨ob, es, ep, p1, p2, p3, p4, p5, p6⟩ := hd
    have hn : H s.heap.objs.size = none := I.hok.fresh (Nat.le_refl _)
    have hs : (s.heap.objs.size == sysModules) = false := beq_eq_false_iff_ne.mpr (Nat.ne_of_gt I.big)
    refine ⟨.ref s.heap.objs.size, upd H s.heap.objs.size (.ext (DE.phi X.prog X.w s.heap.objs.size (.tp ob ps))), I.laid (t' := tk) (fun b o e => k b o (by simp) e) (Nat.le_refl _) ⟨⟨es, ep, p1, p2, p3, p4, p6⟩, ⟨ob, p1⟩, phi_stable⟩, rfl, q _ ob ps hn ?_⟩
    have kp : ∀ {vs : List V} {ds : List D}, RepL X.prog X.w X.K H vs ds fz → RepL X.prog X.w X.K (upd H s.heap.objs.size (.ext (DE.phi X.prog X.w s.heap.objs.size (.tp ob ps)))) vs ds fz := fun l => l.kept (Same.kept (same_upd hn) fz)
    exact (Rep.dicT (xs := ps) (vs := xv) upd_same hs szb h2 c2 c1 (kp h3) h4 (kp h5)).cast fun _ => rfl
end
section
variable {I : Info} {G : Tab} {C : Nat → Option D} {exV : Nat → Value} {B : Bs} {k : Nat} {rd wr : Scope} {W : WX} {X : Cx} {pos : Pos}
theorem ok_dpr (g : Gd I G C exV B k rd wr W X) {a : ME} {y : Expr} {x : Str} {p : Pos} (hx : x = "dict") (gx : glob rd x = true) (hy : chk I rd wr a y = true) (ha : PE X y (tEv G C exV B W a)) :
    PE X (.Call (.Name x p) [y] [] pos) (tEv G C exV B W (.dpr a)) := by
  obtain ⟨g1, g2⟩ := gl_b g gx (by rw [hx]; simp)
  subst hx
  refine PE.weak (pe_callTy (call_dpr g.calm (by have := g.room.un; omega)) g1 g2 (by decide +kernel) (pa_cons ha pa_nil (chk_plain hy [] X.env)) (by decide) (by decide) (chk_plain hy [] X.env) (by rfl)) fun σ H Q q => ?_
  obtain ⟨ρ, fs, st, q⟩ := q
  unfold ev at q
  refine then_e st q fun v ρ1 x H1 f fs1 P q => ?_
  obtain ⟨r, e, q⟩ := q.of
  unfold dprD at e
  split at e
  · rename_i ds ed
    obtain ⟨⟨ks, vs⟩, e1, e2⟩ := Option.bind_eq_some_iff.mp e
    split at e2
    · rename_i c
      cases e2
      simp only [Bool.and_eq_true, decide_eq_true_eq] at c
      obtain ⟨⟨⟨⟨c1, c2⟩, c3⟩, c4⟩, c5⟩ := c
      have rp := P.rep
      rw [ed] at rp
      rw [← g.eP, ← g.ew, ← g.eK] at rp
      refine ⟨x, ks, vs, ds, f, rfl, rp, e1, c1, c2, c3, c4, c5, fun p o ps hn rr => ?_⟩
      rw [g.eP, g.ew, g.eK] at rr
      rw [g.eP, g.ew]
      refine q (.ref p) _ (Ev.fs p) fs1 ⟨P.stp.andSame (same_upd hn), rr, ?_, fun a z => ?_, fun _ e => nomatch e⟩
      · exact TagOk.new (t := .im) (f := fz) P.stp.st.sl P.stp.fr.live hn (fun a z => absurd z (Nat.lt_irrefl _)) rfl
      · rw [fs_pos z]; exact .inl (P.stp.st.b2' hn)
    · cases e2
  · cases e
end
end Ev
end

section
set_option Elab.async false
set_option linter.all false
set_option maxRecDepth 100000
set_option maxHeartbeats 1000000
/-! sorted(..): ints; rows of ints that stand in order. -/
namespace Ev
open PySem L2
theorem insI_perm (n : Int) : ∀ ms : List Int, (insI n ms).Perm (n :: ms)
  | [] => .refl _
  | m :: ms => by
    unfold insI
    split
    · exact .refl _
    · exact ((insI_perm n ms).cons m).trans (.swap _ _ _)
theorem srtI_perm : ∀ ns : List Int, (srtI ns).Perm ns
  | [] => .refl _
  | n :: ns => (insI_perm n _).trans ((srtI_perm ns).cons n)
theorem insI_asc (n : Int) : ∀ ms : List Int, ms.Pairwise (· ≤ ·) → (insI n ms).Pairwise (· ≤ ·)
  | [], _ => by simp [insI]
  | m :: ms, h => by
    unfold insI
    obtain ⟨h1, h2⟩ := List.pairwise_cons.mp h
    split
    · rename_i c
      refine List.pairwise_cons.mpr ⟨fun z hz => ?_, h⟩
      rcases List.mem_cons.mp hz with rfl | hz
      · exact c
      · exact Int.le_trans c (h1 z hz)
    · rename_i c
      refine List.pairwise_cons.mpr ⟨fun z hz => ?_, insI_asc n ms h2⟩
      rcases List.mem_cons.mp ((insI_perm n ms).mem_iff.mp hz) with rfl | hz
      · omega
      · exact h1 z hz
theorem srtI_asc : ∀ ns : List Int, (srtI ns).Pairwise (· ≤ ·)
  | [] => .nil
  | n :: ns => insI_asc n _ (srtI_asc ns)
theorem asc_uniq {α : Type} {key : α → Int} : ∀ {xs ys : List α}, ys.Perm xs → xs.Pairwise (fun x y => key x < key y) → ys.Pairwise (fun x y => key x ≤ key y) → ys = xs
  | [], ys, p, _, _ => p.eq_nil
  | x :: xs, [], p, _, _ => absurd p.length_eq (by simp)
  | x :: xs, y :: ys, p, hx, hy => by
    obtain ⟨x1, x2⟩ := List.pairwise_cons.mp hx
    obtain ⟨y1, y2⟩ := List.pairwise_cons.mp hy
    have e : y = x := by
      rcases List.mem_cons.mp (p.mem_iff.mp (List.mem_cons_self)) with e | my
      · exact e
      · rcases List.mem_cons.mp (p.symm.mem_iff.mp (List.mem_cons_self)) with e | mx
        · exact e.symm
        · have := x1 y my
          have := y1 x mx
          omega
    subst e
    rw [asc_uniq (p.cons_inv) x2 y2]
theorem int_uniq {ns ms : List Int} : ns.Perm ms → ns.Pairwise (· ≤ ·) → ms.Pairwise (· ≤ ·) → ns = ms := fun p h1 h2 => p.eq_of_pairwise (fun a b _ _ h h' => Int.le_antisymm h h') h1 h2
theorem rowsOf_get : ∀ {ds : List D} {rows : List (List Int)}, rowsOf ds = some rows → ds = rows.map fun r => D.tup (r.map D.int)
  | [], rows, e => by cases e; rfl
  | d :: ds, rows, e => by
    cases d <;> simp only [rowsOf] at e <;> try cases e
    rename_i es
    obtain ⟨ns, e1, e2⟩ := Option.bind_eq_some_iff.mp e
    obtain ⟨q, e3, rfl⟩ := Option.map_eq_some_iff.mp e2
    rw [rowsOf_get e3]
    have : ∀ {es : List D} {ns : List Int}, intsOf es = some ns → es = ns.map D.int := fun {es} => by
      induction es with
      | nil => intro ns e; cases e; rfl
      | cons d es ih =>
        intro ns e
        cases d <;> simp only [intsOf] at e <;> try cases e
        obtain ⟨ms, e1, rfl⟩ := Option.map_eq_some_iff.mp e
        rw [ih e1]
        rfl
    rw [this e1]
    rfl
theorem codeR_eq : ∀ ns : List Int, codeR ns = TS.code 64 ns
  | [] => rfl
  | n :: ns => by show n * 64 ^ ns.length + codeR ns = n * 64 ^ ns.length + TS.code 64 ns; rw [codeR_eq ns]
section
variable {P : Program} {w : World} {K : PySem.W.Frag} {H : Hp}
inductive Rows (K : PySem.W.Frag) (H : Hp) : List V → List (List Int) → Prop
  | nil : Rows K H [] []
  | cons {x : V} {xs : List V} {r : List Int} {rs : List (List Int)} : TupI K H x r → Rows K H xs rs → Rows K H (x :: xs) (r :: rs)
theorem Rows.length {xs : List V} {rs : List (List Int)} (h : Rows K H xs rs) : xs.length = rs.length := by
  induction h with
  | nil => rfl
  | cons _ _ ih => simp [ih]
theorem Rows.mem {xs : List V} {rs : List (List Int)} (h : Rows K H xs rs) : ∀ x ∈ xs, ∃ r ∈ rs, TupI K H x r := by
  induction h with
  | nil => intro x hx; cases hx
  | cons t _ ih =>
    intro x hx
    rcases List.mem_cons.mp hx with rfl | hx
    · exact ⟨_, List.mem_cons_self, t⟩
    · obtain ⟨r, h1, h2⟩ := ih x hx
      exact ⟨r, List.mem_cons_of_mem _ h1, h2⟩
theorem rows_rep : ∀ {rows : List (List Int)} {vs : List V} {f : FP}, RepL P w K H vs (rows.map fun r => D.tup (r.map D.int)) f → Rows K H vs rows
  | [], _, _, .nil => .nil
  | r :: rows, v :: vs, f, h => by
    rw [List.map_cons] at h
    obtain ⟨g1, g2, _, h1, h2⟩ := h.uncons
    obtain ⟨a, us, rfl, s1, l1⟩ := tup_inv h1
    have hi : ∀ ns : List Int, intsOf (ns.map D.int) = some ns := fun ns => by
      induction ns with
      | nil => rfl
      | cons n ns ih => show (intsOf (ns.map D.int)).map _ = _; rw [ih]; rfl
    rw [ints_rep l1 (hi r)] at s1
    exact .cons ⟨a, rfl, s1⟩ (rows_rep h2)
theorem ints_repL : ∀ (ns : List Int), RepL P w K H (ns.map V.int) (ns.map D.int) fz
  | [] => .nil
  | n :: ns => (RepL.cons (.int n) (ints_repL ns)).cast fun _ => rfl
end
theorem ascR_pw : ∀ {rs : List (List Int)}, ascR rs = true → rs.Pairwise fun r q => codeR r < codeR q
  | [], _ => .nil
  | [r], _ => by simp
  | r :: r' :: rs, h => by
    unfold ascR at h
    obtain ⟨h1, h2⟩ := Bool.and_eq_true_iff.mp h
    have ih := ascR_pw h2
    refine List.pairwise_cons.mpr ⟨fun z hz => ?_, ih⟩
    have h1 := of_decide_eq_true h1
    rcases List.mem_cons.mp hz with rfl | hz
    · exact h1
    · exact Int.lt_trans h1 ((List.pairwise_cons.mp ih).1 z hz)
def rSrt (K : PySem.W.Frag) : List V → Hp → VK → Prop := fun vs H Q => rSortedI K vs H Q ∨ ∃ (a : Addr) (xs : List V) (d : Nat) (rows : List (List Int)), vs = [V.ref a] ∧ SqL K H a xs ∧ Rows K H xs rows ∧ 1 ≤ d ∧ xs.length < 64 ∧ (∀ r ∈ rows, r.length = d ∧ TS.Bd 64 r) ∧ ascR rows = true ∧ ∀ p, H p = none → Q (.ref p) (upd H p (.lst xs))
section
variable {I : Info} {G : Tab} {C : Nat → Option D} {exV : Nat → Value} {B : Bs} {k : Nat} {rd wr : Scope} {W : WX} {X : Cx} {pos : Pos}
theorem cr_srt : CallR X (.builtin "sorted") (rSrt X.K) := by
  intro pins s σ H vs us Q I r h
  rcases h with h | ⟨a, xs, d, rows, rfl, hs, hr, hd, h64, hb, ha, q⟩
  · exact cr_sortedI pins s σ H vs us Q I r h
  · refine cr_sortT (B := 64) hd pins s σ H _ us Q I r ⟨a, xs, rfl, hs, h64, fun x hx => ?_, fun ys p hp hpw hn => ?_⟩
    · obtain ⟨r, h1, h2⟩ := hr.mem x hx
      exact ⟨r, h2, hb r h1⟩
    · have un : ∀ {x n}, TupI X.K H x n → codeR n = codeR (TS.intsOf s.heap (match x with | .ref t => .ref t | _ => .none)) := fun {x n} h => by
        obtain ⟨t, rfl, h⟩ := h
        have := (tupI_raw I h).ints
        show codeR n = codeR (TS.intsOf s.heap (.ref t))
        rw [this]
      have : ys = xs := by
        refine asc_uniq (key := fun x => codeR (TS.intsOf s.heap (match x with | .ref t => .ref t | _ => .none))) hp ?_ ?_
        · have pw := ascR_pw ha
          clear q hp hb h64 hs hpw r ha
          induction hr with
          | nil => exact .nil
          | cons t hr ih =>
            obtain ⟨p1, p2⟩ := List.pairwise_cons.mp pw
            refine List.pairwise_cons.mpr ⟨fun y hy => ?_, ih p2⟩
            obtain ⟨r', m1, m2⟩ := hr.mem y hy
            have := p1 r' m1
            rw [un t, un m2] at this
            exact this
        · refine List.Pairwise.imp_of_mem (fun {x y} hx hy hxy => ?_) hpw
          obtain ⟨n, _, h1⟩ := hr.mem x (hp.mem_iff.mp hx)
          obtain ⟨m, _, h2⟩ := hr.mem y (hp.mem_iff.mp hy)
          have := hxy n m h1 h2
          rw [← codeR_eq, ← codeR_eq, un h1, un h2] at this
          exact this
      rw [this]
      exact q p hn
theorem ok_srt (g : Gd I G C exV B k rd wr W X) {a : ME} {b : Bool} {y : Expr} {x : Str} {p : Pos} (hx : x = "sorted") (gx : glob rd x = true) (hy : chk I rd wr a y = true) (ha : PE X y (tEv G C exV B W a)) :
    PE X (.Call (.Name x p) [y] [] pos) (tEv G C exV B W (.srt a b)) := by
  obtain ⟨g1, g2⟩ := gl_b g gx (by rw [hx]; simp)
  subst hx
  refine PE.weak (pe_callB cr_srt g1 g2 (by decide +kernel) (pa_cons ha pa_nil (chk_plain hy [] X.env)) (by decide) (by decide) (chk_plain hy [] X.env) (by rfl)) fun σ H Q q => ?_
  obtain ⟨ρ, fs, st, q⟩ := q
  unfold ev at q
  refine then_e st q fun v ρ1 x H1 f fs1 P q => ?_
  obtain ⟨r, e, q⟩ := q.of
  unfold srtD at e
  split at e
  · rename_i ds ed
    have rp := P.rep
    rw [ed] at rp
    rw [← g.eP, ← g.ew, ← g.eK] at rp
    obtain ⟨l, vs, f1, rfl, s1, l1, rfl⟩ := lst_inv rp
    split at e
    · rename_i ns en
      cases e
      have ev := ints_rep l1 en
      subst ev
      refine .inl ⟨l, ns, rfl, .inl (.inl s1), fun ns' p hp hw hn => ?_⟩
      have : ns' = srtI ns := int_uniq (hp.trans (srtI_perm ns).symm) hw (srtI_asc ns)
      subst this
      refine q (.ref p) _ (Ev.fs p) fs1 ⟨P.stp.andSame (same_upd hn), (Rep.lst upd_same (ints_repL _)).cast fun _ => rfl, ?_, fun a z => ?_, fun _ e => nomatch e⟩
      · exact TagOk.new (t := .im) (f := fz) P.stp.st.sl P.stp.fr.live hn (fun a z => absurd z (Nat.lt_irrefl _)) rfl
      · rw [fs_pos z]; exact .inl (P.stp.st.b2' hn)
    · split at e
      · rename_i r0 rs er
        split at e
        · rename_i c
          cases e
          simp only [Bool.and_eq_true, decide_eq_true_eq] at c
          obtain ⟨⟨⟨c1, c2⟩, c3⟩, c4⟩ := c
          have ed2 := rowsOf_get er
          have im : immAll ds = true := by
            rw [ed2]
            have hi : ∀ ns : List Int, immAll (ns.map D.int) = true := fun ns => by
              induction ns with
              | nil => rfl
              | cons n ns ih => simp [immAll, D.imm, ih]
            generalize (r0 :: rs) = rows
            induction rows with
            | nil => rfl
            | cons r rows ih => simp [immAll, D.imm, ih, hi]
          have zf := l1.imm im
          subst zf
          refine .inr ⟨l, vs, r0.length, r0 :: rs, rfl, .inl (.inl s1), rows_rep (by rw [← ed2]; exact l1), c1, by rw [l1.length]; exact c4, fun r hr => ?_, c3, fun p hn => ?_⟩
          · rw [List.all_eq_true] at c2
            have := c2 r hr
            simp only [Bool.and_eq_true, decide_eq_true_eq, List.all_eq_true] at this
            exact ⟨this.1, fun n hn => this.2 n hn⟩
          · rw [g.eP, g.ew, g.eK] at l1
            refine q (.ref p) _ (Ev.fs p) fs1 ⟨P.stp.andSame (same_upd hn), (Rep.lst upd_same (l1.kept (Same.kept (same_upd hn) _))).cast fun _ => rfl, ?_, fun a z => ?_, fun _ e => nomatch e⟩
            · exact TagOk.new (t := .im) (f := fz) P.stp.st.sl P.stp.fr.live hn (fun a z => absurd z (Nat.lt_irrefl _)) rfl
            · rw [fs_pos z]; exact .inl (P.stp.st.b2' hn)
        · cases e
      · cases e
  · cases e
end
end Ev
end

section
set_option Elab.async false
set_option linter.all false
set_option maxRecDepth 100000
set_option maxHeartbeats 4000000
/-! What is checked is read rightly: expressions. -/
namespace Ev
open PySem L2
section
variable {I : Info} {rd wr : Scope}
theorem chk_truth {m : ME} {e : Expr} (h : chkt I rd wr (.val m) e = true) (hc : ∀ x ops ys p, e ≠ .Compare x ops ys p) (env : Env) : ∀ whole, isTrue e env whole = (do let v ← whole; standAt e.pos; holding [v] (truthy v)) := by
  intro whole
  cases e <;> first
    | rfl
    | exact absurd rfl (hc _ _ _ _)
    | (rename_i op _ _; cases op <;> first | rfl | (exfalso; simp [chkt] at h))
    | (exfalso; simp [chkt] at h)
theorem chki_fold {it : IT} {e : Expr} (h : chki I rd wr it e = true) (env : Env) : ∀ x, foldedSetIterable e env x = pure x := by
  intro x
  cases e <;> first | rfl | (exfalso; cases it <;> first | (rename_i a; cases a <;> simp [chki, chk] at h) | simp [chki] at h)
theorem chkt_val {m : ME} {e : Expr} (h : chkt I rd wr (.val m) e = true) : chk I rd wr m e = true ∧ (∀ op es p, e ≠ .BoolOp op es p) := by
  unfold chkt at h
  split at h
  · cases h
  · cases h
  · cases h
  · rename_i h1 h2 h3
    exact ⟨h, fun op es p z => h1 op es p z⟩
end
section
variable {I : Info} {G : Tab} {C : Nat → Option D} {exV : Nat → Value} {k : Nat}
mutual
theorem pe_ok : ∀ (m : ME) {B : Bs} {rd wr : Scope} {W : WX} {X : Cx} {e : Expr}, Gd I G C exV B k rd wr W X → chk I rd wr m e = true → PE X e (tEv G C exV B W m)
  | .var i, B, rd, wr, W, X, e, g, h => by
    unfold chk at h
    split at h
    · exact ok_var g h
    · cases h
  | .mv i, B, rd, wr, W, X, e, g, h => by
    unfold chk at h
    split at h
    · exact ok_mv g h
    · cases h
  | .lit d, B, rd, wr, W, X, e, g, h => ok_lit h
  | .glob n, B, rd, wr, W, X, e, g, h => by
    unfold chk at h
    split at h
    · obtain ⟨h1, h2⟩ := Bool.and_eq_true_iff.mp h
      exact ok_glob g (of_decide_eq_true h1) h2
    · cases h
  | .tup as, B, rd, wr, W, X, e, g, h => by
    unfold chk at h
    split at h
    · obtain ⟨h1, h2⟩ := Bool.and_eq_true_iff.mp h
      exact ok_tup (pa_ok as g h1) (chks_len h1) (of_decide_eq_true h2)
    · cases h
  | .lst as, B, rd, wr, W, X, e, g, h => by
    unfold chk at h
    split at h
    · obtain ⟨h1, h2⟩ := Bool.and_eq_true_iff.mp h
      exact ok_lst (pa_ok as g h1) (chks_len h1) (of_decide_eq_true h2)
    · cases h
  | .dic0, B, rd, wr, W, X, e, g, h => by
    unfold chk at h
    split at h
    · exact ok_dic0 g
    · cases h
  | .dic kvs, B, rd, wr, W, X, e, g, h => by
    unfold chk at h
    split at h
    · rename_i ks vs p
      simp only [Bool.and_eq_true, decide_eq_true_eq, Bool.not_eq_true'] at h
      exact ok_dic g (pd_ok kvs g h.1.1) h.1.2 (fun z => by rw [z] at h; exact absurd h.2 (by simp))
    · cases h
  | .dpr a, B, rd, wr, W, X, e, g, h => by
    unfold chk at h
    split at h
    · simp only [Bool.and_eq_true, decide_eq_true_eq] at h
      exact ok_dpr g h.1.1 h.1.2 h.2 (pe_ok a g h.2)
    · cases h
  | .lrg a, B, rd, wr, W, X, e, g, h => by
    unfold chk at h
    split at h
    · simp only [Bool.and_eq_true, decide_eq_true_eq] at h
      exact ok_lrg g h.1.1.1.1 h.1.1.1.2 h.1.1.2 h.1.2 h.2 (pe_ok a g h.2)
    · cases h
  | .srt a b, B, rd, wr, W, X, e, g, h => by
    unfold chk at h
    split at h
    · simp only [Bool.and_eq_true, decide_eq_true_eq] at h
      exact ok_srt g h.1.1 h.1.2 h.2 (pe_ok a g h.2)
    · cases h
  | .ixo o a, B, rd, wr, W, X, e, g, h => by
    unfold chk at h
    split at h
    · simp only [Bool.and_eq_true, decide_eq_true_eq] at h
      obtain ⟨⟨⟨⟨h1, h2⟩, h3⟩, h4⟩, h5⟩ := h
      subst h1
      exact ok_ixo g h3 h4 h2 h5 (pe_ok a g h5)
    · cases h
  | .bin o a b, B, rd, wr, W, X, e, g, h => by
    unfold chk at h
    split at h
    · simp only [Bool.and_eq_true] at h
      exact ok_bin g h.1.1 (pe_ok a g h.1.2) (pe_ok b g h.2)
    · cases h
  | .neg a, B, rd, wr, W, X, e, g, h => by
    unfold chk at h
    split at h
    · exact ok_neg (pe_ok a g h)
    · cases h
  | .not a, B, rd, wr, W, X, e, g, h => by
    unfold chk at h
    split at h
    · exact ok_not (pe_ok a g h)
    · cases h
  | .cmp o a b, B, rd, wr, W, X, e, g, h => by
    unfold chk at h
    split at h
    · simp only [Bool.and_eq_true] at h
      exact ok_cmp g h.1.1 h.2 (pe_ok a g h.1.2) (pe_ok b g h.2)
    · cases h
  | .chn o o' a b c, B, rd, wr, W, X, e, g, h => by
    unfold chk at h
    split at h
    · simp only [Bool.and_eq_true] at h
      exact ok_chn g h.1.1.1.1 h.1.1.1.2 h.2 (pe_ok a g h.1.1.2) (pe_ok b g h.1.2) (pe_ok c g h.2)
    · cases h
  | .and a b, B, rd, wr, W, X, e, g, h => by
    unfold chk at h
    split at h
    · simp only [Bool.and_eq_true] at h
      exact PE.weak (pe_and (pe_ok a g h.1) (pe_one (pe_ok b g h.2))) fun _ _ _ q => and_read q
    · simp only [Bool.and_eq_true] at h
      exact PE.weak (pe_and (pe_ok a g h.1) (pe_ok b g h.2)) fun _ _ _ q => and_read q
    · cases h
  | .or a b, B, rd, wr, W, X, e, g, h => by
    unfold chk at h
    split at h
    · simp only [Bool.and_eq_true] at h
      exact PE.weak (pe_or (pe_ok a g h.1) (pe_one (pe_ok b g h.2))) fun _ _ _ q => or_read q
    · simp only [Bool.and_eq_true] at h
      exact PE.weak (pe_or (pe_ok a g h.1) (pe_ok b g h.2)) fun _ _ _ q => or_read q
    · cases h
  | .ite c a b, B, rd, wr, W, X, e, g, h => by
    unfold chk at h
    split at h
    · simp only [Bool.and_eq_true] at h
      exact ok_ite (pt_ok c g h.1.1).1 (pe_ok a g h.1.2) (pe_ok b g h.2)
    · cases h
  | .idx a i, B, rd, wr, W, X, e, g, h => by
    unfold chk at h
    split at h
    · simp only [Bool.and_eq_true] at h
      exact ok_idx g h.2 (pe_ok a g h.1) (pe_ok i g h.2)
    · cases h
  | .slc a bl l bh hh, B, rd, wr, W, X, e, g, h => by
    unfold chk at h
    split at h
    · rename_i x lo hi p1 p2
      simp only [Bool.and_eq_true] at h
      obtain ⟨⟨h1, h2⟩, h3⟩ := h
      have part : ∀ (o : Option Expr) (b : Bool) (m : ME), (match o with
        | none => !b && (match m with
          | .lit .non => true
          | _ => false)
        | some y => b && chk I rd wr m y) = true → (∀ y, o = some y → b = true ∧ chk I rd wr m y = true) ∧ (o = none → b = false) ∧ (b = false → m = .lit .non) := fun o b m h => by
        cases o with
        | none =>
          obtain ⟨q1, q2⟩ := Bool.and_eq_true_iff.mp h
          refine ⟨fun y z => (nomatch z), fun _ => by simpa using q1, fun _ => ?_⟩
          split at q2
          · rfl
          · cases q2
        | some y =>
          obtain ⟨q1, q2⟩ := Bool.and_eq_true_iff.mp h
          refine ⟨fun y' z => by cases z; exact ⟨q1, q2⟩, fun z => (nomatch z), fun z => by rw [q1] at z; cases z⟩
      obtain ⟨l1, l2, l3⟩ := part lo bl l h2
      obtain ⟨m1, m2, m3⟩ := part hi bh hh h3
      exact ok_slc g (pe_ok a g h1) (po_part (fun y z => ⟨(l1 y z).1, pe_ok l g (l1 y z).2⟩) l2) l3 (po_part (fun y z => ⟨(m1 y z).1, pe_ok hh g (m1 y z).2⟩) m2) m3
    · cases h
  | .rev a, B, rd, wr, W, X, e, g, h => by
    unfold chk at h
    split at h
    · exact ok_rev g (pe_ok a g h)
    · cases h
  | .call f as, B, rd, wr, W, X, e, g, h => by
    unfold chk at h
    split at h
    · simp only [Bool.and_eq_true, decide_eq_true_eq] at h
      exact ok_call g h.1.1 h.1.2 h.2 (pa_ok as g h.2)
    · cases h
  | .callm f as, B, rd, wr, W, X, e, g, h => by
    unfold chk at h
    split at h
    · simp only [Bool.and_eq_true, decide_eq_true_eq] at h
      exact ok_callm g h.1.1 h.1.2 h.2 (pa_ok as g h.2)
    · cases h
  | .bi b as, B, rd, wr, W, X, e, g, h => by
    unfold chk at h
    split at h
    · rename_i x p y ys pos a
      simp only [Bool.and_eq_true, decide_eq_true_eq] at h
      obtain ⟨⟨⟨⟨h1, h2⟩, h3⟩, h4⟩, h5⟩ := h
      have ha := pe_ok a g h4
      unfold tailB at h5
      split at h5
      · simp only [Bool.and_eq_true, decide_eq_true_eq] at h5
        exact ok_isi g h1 h3 h5.1 h5.2 h4 ha
      · cases h5
      · rename_i hi
        have h' : chks I rd wr (.cons a .nil) [y] = true := by simp [chks, h4]
        refine ok_bi g h1 h3 h2 (fun T z => ?_) h' (ok_cons h4 ha ok_nil)
        subst z
        exact hi T rfl
      · cases h5
    · rename_i x p y y' pos a a'
      simp only [Bool.and_eq_true, decide_eq_true_eq] at h
      obtain ⟨⟨⟨⟨⟨h1, h2⟩, h3⟩, h4⟩, h5⟩, h6⟩ := h
      have h' : chks I rd wr (.cons a (.cons a' .nil)) [y, y'] = true := by simp [chks, h4, h5]
      refine ok_bi g h1 h3 h2 (fun T z => ?_) h' (ok_cons h4 (pe_ok a g h4) (ok_cons h5 (pe_ok a' g h5) ok_nil))
      subst z
      cases h6
    · cases h
  | .mth m o as, B, rd, wr, W, X, e, g, h => by
    unfold chk at h
    split at h
    · simp only [Bool.and_eq_true, decide_eq_true_eq] at h
      obtain ⟨⟨⟨⟨⟨h1, h2⟩, h3⟩, h4⟩, h5⟩, h6⟩ := h
      split at h6
      · rename_i a
        exact ok_mth g h1 h2 h3 h4 h6 (pe_ok o g h5) (pe_ok a g h6)
      · cases h6
    · cases h
  | .lc e0 tg own it c, B, rd, wr, W, X, e, g, h => by
    unfold chk at h
    split at h
    · rename_i x t iter ifs scope pos
      simp only [Bool.and_eq_true, decide_eq_true_eq] at h
      obtain ⟨⟨⟨⟨⟨⟨⟨h1, h0⟩, h2⟩, h3⟩, h4⟩, h5⟩, h6⟩, h7⟩ := h
      refine ok_lc g (pi_ok it g h1 h0) h2 h3 h4 h5 (chki_fold h1 X.env) (fun B' X' g' => pe_ok e0 g' h6) fun B' X' g' => ?_
      split at h7
      · split at h7
        · refine ⟨fun pins s σ H Q I q => pts_nil.run pins s σ H Q I ?_⟩
          obtain ⟨ρ, fs, st, q⟩ := q
          unfold evt at q
          exact q H fs (Step.refl st)
        · cases h7
      · exact pts_one (pt_ok c g' h7).1
      · cases h7
    · cases h
  | .lc2 e0 tg own it tg' own' it' c, B, rd, wr, W, X, e, g, h => by
    unfold chk at h
    split at h
    · rename_i x t iter t' iter' ifs scope pos
      simp only [Bool.and_eq_true, decide_eq_true_eq] at h
      obtain ⟨⟨⟨⟨⟨⟨⟨⟨⟨⟨⟨⟨h1, h0⟩, h2⟩, h3⟩, h4⟩, h5⟩, h6⟩, h7⟩, h8⟩, h9⟩, h10⟩, h11⟩, h12⟩ := h
      refine ok_lc2 g (pi_ok it g h1 h0) h2 h3 h4 h5 (chki_fold h1 X.env) h6 h7 h10 (fun env => chki_fold h8 env) (fun B' X' g' => pi_ok it' g' h8 h9) (fun B' X' g' => pe_ok e0 g' h11) fun B' X' g' => ?_
      split at h12
      · split at h12
        · refine ⟨fun pins s σ H Q I q => pts_nil.run pins s σ H Q I ?_⟩
          obtain ⟨ρ, fs, st, q⟩ := q
          unfold evt at q
          exact q H fs (Step.refl st)
        · cases h12
      · exact pts_one (pt_ok c g' h12).1
      · cases h12
    · cases h
  | .mpop i, B, rd, wr, W, X, e, g, h => by
    unfold chk at h
    split at h
    · simp only [Bool.and_eq_true, decide_eq_true_eq] at h
      obtain ⟨⟨h1, h2⟩, h3⟩ := h
      subst h1
      exact ok_mpop g h3 h2
    · cases h
theorem pa_ok : ∀ (as : MEs) {B : Bs} {rd wr : Scope} {W : WX} {X : Cx} {es : List Expr}, Gd I G C exV B k rd wr W X → chks I rd wr as es = true → PA X es (tEvs G C exV B W as)
  | .nil, B, rd, wr, W, X, es, g, h => by
    cases es with
    | nil => exact ok_nil
    | cons e es => simp [chks] at h
  | .cons a as, B, rd, wr, W, X, es, g, h => by
    cases es with
    | nil => simp [chks] at h
    | cons e es =>
      have h' : chk I rd wr a e = true ∧ chks I rd wr as es = true := by simpa [chks] using h
      exact ok_cons h'.1 (pe_ok a g h'.1) (pa_ok as g h'.2)
theorem pi_ok : ∀ (it : IT) {B : Bs} {rd wr : Scope} {W : WX} {X : Cx} {tg e : Expr}, Gd I G C exV B k rd wr W X → chki I rd wr it e = true → okT it tg = true → PI X tg e (tEvi G C exV B W it)
  | .seq a, B, rd, wr, W, X, tg, e, g, h, ht => by
    unfold chki at h
    exact ok_seq g (pe_ok a g h)
  | .rng as, B, rd, wr, W, X, tg, e, g, h, ht => by
    unfold chki at h
    split at h
    · simp only [Bool.and_eq_true, decide_eq_true_eq] at h
      exact ok_rng g h.1.1 h.1.2 h.2 (pa_ok as g h.2) (.inl rfl)
    · simp only [Bool.and_eq_true, decide_eq_true_eq] at h
      exact ok_rng g h.1.1 h.1.2 h.2 (pa_ok as g h.2) (.inr rfl)
    · cases h
  | .enu a, B, rd, wr, W, X, tg, e, g, h, ht => by
    unfold chki at h
    split at h
    · simp only [Bool.and_eq_true, decide_eq_true_eq] at h
      cases tg with
      | Tuple es n p => exact ok_enu g h.1.1 h.1.2 h.2 (pe_ok a g h.2)
      | _ => exact absurd ht Bool.false_ne_true
    · cases h
  | .zip _ _, B, rd, wr, W, X, tg, e, g, h, ht => by
    unfold chki at h
    cases h
  | .vals a, B, rd, wr, W, X, tg, e, g, h, ht => by
    unfold chki at h
    split at h
    · simp only [Bool.and_eq_true, decide_eq_true_eq] at h
      obtain ⟨⟨⟨h1, h2⟩, h3⟩, h4⟩ := h
      subst h1
      exact ok_vals g h4 h2 (pe_ok a g h3)
    · cases h
/-- the parts of a display -/
theorem pd_ok : ∀ (kvs : MEs) {B : Bs} {rd wr : Scope} {W : WX} {X : Cx} {ks : List (Option Expr)} {vs : List Expr}, Gd I G C exV B k rd wr W X → chkd I rd wr kvs ks vs = true → PD I G C exV B rd wr W X kvs ks vs
  | .nil, B, rd, wr, W, X, ks, vs, g, h => by
    cases ks <;> cases vs <;> first | (exfalso; simp [chkd] at h; done) | exact .nil
  | .cons a .nil, B, rd, wr, W, X, ks, vs, g, h => by
    exfalso
    cases ks <;> cases vs <;> simp [chkd] at h
  | .cons a (.cons b r), B, rd, wr, W, X, ks, vs, g, h => by
    match ks, vs, h with
    | [], [], h => simp [chkd] at h
    | [], _ :: _, h => simp [chkd] at h
    | none :: _, [], h => simp [chkd] at h
    | some _ :: _, [], h => simp [chkd] at h
    | none :: _, _ :: _, h => simp [chkd] at h
    | some x :: ks, y :: vs, h =>
      have h' : (chk I rd wr a x = true ∧ chk I rd wr b y = true) ∧ chkd I rd wr r ks vs = true := by simpa [chkd] using h
      exact .cons h'.1.1 h'.1.2 (pe_ok a g h'.1.1) (pe_ok b g h'.1.2) (pd_ok r g h'.2)
theorem pt_ok : ∀ (t : MT) {B : Bs} {rd wr : Scope} {W : WX} {X : Cx} {e : Expr}, Gd I G C exV B k rd wr W X → chkt I rd wr t e = true → PT X e (tEvt G C exV B W t) ∧ ∀ op es p, e = .BoolOp op es p → PW X e (tEvt G C exV B W t)
  | .tt, B, rd, wr, W, X, e, g, h => by
    unfold chkt at h
    cases h
  | .val a, B, rd, wr, W, X, e, g, h => by
    obtain ⟨h1, h2⟩ := chkt_val h
    have ha := pe_ok a g h1
    refine ⟨?_, fun op es p z => absurd z (h2 op es p)⟩
    by_cases hc : ∃ x ops ys p, e = .Compare x ops ys p
    · obtain ⟨x, ops, ys, p, rfl⟩ := hc
      cases a with
      | cmp o a b =>
        unfold chk at h1
        split at h1
        · rename_i ez
          cases ez
          simp only [Bool.and_eq_true] at h1
          exact ok_cmpT g h1.1.1 h1.2 (pe_ok a g h1.1.2) (pe_ok b g h1.2)
        · cases h1
      | chn o o' a b c =>
        unfold chk at h1
        split at h1
        · rename_i ez
          cases ez
          simp only [Bool.and_eq_true] at h1
          exact ok_chnT g h1.1.1.1.1 h1.1.1.1.2 h1.2 (pe_ok a g h1.1.1.2) (pe_ok b g h1.1.2) (pe_ok c g h1.2)
        · cases h1
      | _ => exfalso; simp [chk] at h1
    · exact ok_valT g ha (chk_truth h (fun x ops ys p z => hc ⟨x, ops, ys, p, z⟩) X.env)
  | .and a b, B, rd, wr, W, X, e, g, h => by
    have key : PW X e (tEvt G C exV B W (.and a b)) := by
      unfold chkt at h
      split at h
      · simp only [Bool.and_eq_true] at h
        exact PW.weak (pw_and (pt_ok a g h.1).1 (pw_and1 (pt_ok b g h.2).1)) fun _ _ _ q => andT_read q
      · simp only [Bool.and_eq_true] at h
        exact PW.weak (pw_and (pt_ok a g h.1).1 ((pt_ok b g h.2).2 _ _ _ rfl)) fun _ _ _ q => andT_read q
      · cases h
    exact ⟨key.pt, fun _ _ _ _ => key⟩
  | .or a b, B, rd, wr, W, X, e, g, h => by
    have key : PW X e (tEvt G C exV B W (.or a b)) := by
      unfold chkt at h
      split at h
      · simp only [Bool.and_eq_true] at h
        exact PW.weak (pw_or (pt_ok a g h.1).1 (pw_or1 (pt_ok b g h.2).1)) fun _ _ _ q => orT_read q
      · simp only [Bool.and_eq_true] at h
        exact PW.weak (pw_or (pt_ok a g h.1).1 ((pt_ok b g h.2).2 _ _ _ rfl)) fun _ _ _ q => orT_read q
      · cases h
    exact ⟨key.pt, fun _ _ _ _ => key⟩
  | .not a, B, rd, wr, W, X, e, g, h => by
    unfold chkt at h
    split at h
    · exact ⟨PT.weak (pt_not (pt_ok a g h).1) fun _ _ _ q => notT_read q, fun _ _ _ z => by cases z⟩
    · cases h
end
end
end Ev
end

section
set_option Elab.async false
set_option linter.all false
set_option maxRecDepth 100000
set_option maxHeartbeats 1000000
/-! Statements: what a statement leaves. -/
namespace Ev
open PySem L2

structure StepS (B : Bs) (σ : St) (H : Hp) (ρ : En) (fs : List FP) (σ' : St) (H' : Hp) (ρ' : En) (fs' : List FP) : Prop where
  st : StR B σ' H' ρ' fs'
  keep : ∀ a o, H a = some o → (sumOf own ρ fs a = 0 ∨ ∃ (i : Nat) (d : D) (g : FP), ρ[i]? = some (some ⟨.lk, d⟩) ∧ fs[i]? = some g ∧ 0 < g a) → H' a = some o
  live : ∀ a, H a ≠ none → H' a ≠ none
  own : ∀ a, 0 < sumOf own ρ' fs' a → 0 < sumOf own ρ fs a ∨ H a = none
  lk : ∀ (i : Nat) (d : D), ρ[i]? = some (some ⟨.lk, d⟩) → ρ'[i]? = some (some ⟨.lk, d⟩) ∧ fs'[i]? = fs[i]? ∧ σ'[i]? = σ[i]?
  rf : ∀ (i : Nat) (d : D), ρ'[i]? = some (some ⟨.rf, d⟩) → (∃ d0, ρ[i]? = some (some ⟨.rf, d0⟩)) ∧ σ'[i]? = σ[i]?
section
variable {B : Bs} {σ σ1 σ2 : St} {H H1 H2 : Hp} {ρ ρ1 ρ2 : En} {fs fs1 fs2 : List FP}
theorem StepS.refl (st : StR B σ H ρ fs) : StepS B σ H ρ fs σ H ρ fs := ⟨st, fun _ _ h _ => h, fun _ h => h, fun _ h => .inl h, fun _ _ h => ⟨h, rfl, rfl⟩, fun _ d h => ⟨⟨d, h⟩, rfl⟩⟩
theorem StepS.trans (a : StepS B σ H ρ fs σ1 H1 ρ1 fs1) (b : StepS B σ1 H1 ρ1 fs1 σ2 H2 ρ2 fs2) : StepS B σ H ρ fs σ2 H2 ρ2 fs2 where
  st := b.st
  keep := fun x o e z => by
    refine b.keep x o (a.keep x o e z) ?_
    rcases z with z | ⟨i, d, g, e1, e2, e3⟩
    · refine .inl (Nat.eq_zero_of_not_pos fun y => ?_)
      rcases a.own x y with q | q
      · omega
      · rw [e] at q; cases q
    · obtain ⟨k1, k2, k3⟩ := a.lk i d e1
      exact .inr ⟨i, d, g, k1, k2.trans e2, e3⟩
  live := fun x e => b.live x (a.live x e)
  own := fun x q => by
    rcases b.own x q with r | r
    · exact a.own x r
    · exact .inr (live_of a.live r)
  lk := fun i d e => by
    obtain ⟨k1, k2, k3⟩ := a.lk i d e
    obtain ⟨k4, k5, k6⟩ := b.lk i d k1
    exact ⟨k4, k5.trans k2, k6.trans k3⟩
  rf := fun i d e => by
    obtain ⟨⟨d1, e1⟩, e2⟩ := b.rf i d e
    obtain ⟨e3, e4⟩ := a.rf i d1 e1
    exact ⟨e3, e2.trans e4⟩
/-- what lies in a locked slot is not among what may be changed -/
theorem lk_chg (st : StR B σ H ρ fs) {i : Nat} {d : D} {g : FP} {a : Addr} (e1 : ρ[i]? = some (some ⟨.lk, d⟩)) (e2 : fs[i]? = some g) (z : 0 < g a) : sumOf chg ρ fs a = 0 := by
  have h1 := sum_del own e1 e2 a
  have h2 := sum_del chg e1 e2 a
  have h3 := sum_chg_le (ρ.set i none) (fs.set i fz) a
  have h4 := st.m1 a
  have c1 : ctr own (some ⟨.lk, d⟩) g a = g a := rfl
  have c2 : ctr chg (some ⟨.lk, d⟩) g a = 0 := rfl
  omega
theorem Step.toS {p : Bool} (st : StR B σ H ρ fs) (s : Step B σ H ρ fs p H1 ρ1 fs1) : StepS B σ H ρ fs σ H1 ρ1 fs1 where
  st := s.st
  keep := fun a o e z => s.fr.keep a o e (by
    rcases z with z | ⟨i, d, g, e1, e2, e3⟩
    · have := sum_chg_le ρ fs a; omega
    · exact lk_chg st e1 e2 e3)
  live := s.fr.live
  own := s.fr.own
  lk := fun i d e => ⟨(s.lk i d e).1, (s.lk i d e).2, rfl⟩
  rf := fun i d e => ⟨s.rf i d e, rfl⟩

/-! ### what a statement's reading asks -/
def TagR (B : Bs) (ρ : En) (fs : List FP) (t : RT) (f : FP) : Prop := match t with
  | .im => f = fz
  | .vl => ∀ a, 0 < f a → sumOf Ev.own ρ fs a = 0
  | .fr => ∀ a, f a ≤ 1 ∧ (0 < f a → sumOf Ev.own ρ fs a = 0 ∧ (B.H0 a = none ∨ 0 < B.M0 a))
  | .tm _ => False
def RunS (exV : Nat → Value) (B : Bs) (W : WX) (D : Ends) (σ : St) (H : Hp) (ρ : En) (fs : List FP) (r : R Flow) : Prop := match r with
  | .ok .nx ρ' => ∀ σ' H' fs', StepS B σ H ρ fs σ' H' ρ' fs' → D.nx σ' H'
  | .ok .bk ρ' => ∀ σ' H' fs', StepS B σ H ρ fs σ' H' ρ' fs' → D.bk σ' H'
  | .ok .ct ρ' => ∀ σ' H' fs', StepS B σ H ρ fs σ' H' ρ' fs' → D.ct σ' H'
  | .ok (.rt v) ρ' => ∀ σ' x H' f fs', StepS B σ H ρ fs σ' H' ρ' fs' → Rep B.P B.w B.K H' x v.d f → TagR B ρ' fs' v.t f → (∀ a, 0 < f a → B.H0 a = none ∨ B.A0 a) → D.rt x H'
  | .ex c ρ' => ∀ σ' H' fs', StepS B σ H ρ fs σ' H' ρ' fs' → W (exV c) none σ' H'
  | .no => False
variable {exV : Nat → Value} {W : WX} {E : Ends}
theorem RunS.later {r : R Flow} (h : RunS exV B W E σ H ρ fs r) (s : StepS B σ H ρ fs σ1 H1 ρ1 fs1) : RunS exV B W E σ1 H1 ρ1 fs1 r := by
  cases r with
  | ok f ρ' =>
    cases f with
    | nx => exact fun σ' H' fs' s' => h σ' H' fs' (s.trans s')
    | bk => exact fun σ' H' fs' s' => h σ' H' fs' (s.trans s')
    | ct => exact fun σ' H' fs' s' => h σ' H' fs' (s.trans s')
    | rt v => exact fun σ' x H' f fs' s' => h σ' x H' f fs' (s.trans s')
  | ex c ρ' => exact fun σ' H' fs' s' => h σ' H' fs' (s.trans s')
  | no => exact h
/-- an expression first -/
theorem RunS.bind {α : Type} {r : R α} {k : α → En → R Flow} (st : StR B σ H ρ fs) (h : RunS exV B W E σ H ρ fs (r.bind k)) : RunR exV B W σ H ρ fs r fun a ρ' => RunS exV B W E σ H ρ fs (k a ρ') := by
  cases r with
  | ok a ρ' => exact h
  | ex c ρ' => exact fun H' fs' s => h σ H' fs' (s.toS st)
  | no => exact h
/-- a statement's result, the end behind it handed on -/
theorem RunS.seq {r : R Flow} {k : En → R Flow} (h : RunS exV B W E σ H ρ fs (r.bind fun f ρ' => match f with
    | .nx => k ρ'
    | f => .ok f ρ')) : RunS exV B W { E with nx := fun σ' H' => ∃ ρ' fs', StR B σ' H' ρ' fs' ∧ RunS exV B W E σ' H' ρ' fs' (k ρ') } σ H ρ fs r := by
  cases r with
  | ok f ρ' =>
    cases f with
    | nx => exact fun σ' H' fs' s => ⟨ρ', fs', s.st, RunS.later h s⟩
    | bk => exact h
    | ct => exact h
    | rt v => exact h
  | ex c ρ' => exact h
  | no => exact h
theorem ret_ok {p : Bool} {va : Option Nat} {v w : RV} {x : V} {f : FP} (st : StR B σ H ρ fs) (P : PostE B σ H ρ fs p va v x H1 f ρ1 fs1) (e : retT v = some w) : ∃ f', Rep B.P B.w B.K H1 x w.d f' ∧ TagR B ρ1 fs1 w.t f' ∧ (∀ a, 0 < f' a → B.H0 a = none ∨ B.A0 a) := by
  obtain ⟨e1, e2, e3⟩ := ret_solid e
  refine ⟨f, by rw [e1]; exact P.rep, ?_, P.prov⟩
  rcases e2 with ⟨q1, q2⟩ | q
  · rw [q1]; exact P.rep.imm q2
  · rw [q]
    have tg := P.tag
    have nt : ∀ i, v.t ≠ .tm i := fun i z => e3 i (q.trans z)
    generalize v.t = t at tg nt
    cases t with
    | im => exact tg
    | vl => exact tg
    | fr =>
      refine fun a => ⟨(tg a).1, fun z => ?_⟩
      obtain ⟨t1, t2, t3⟩ := (tg a).2 z
      refine ⟨t1, ?_⟩
      rcases t3 with q | q
      · exact .inl (st.b2' q)
      · exact st.b4 a q
    | tm i => exact absurd rfl (nt i)
/-! ### stores -/
theorem bind_tm : ∀ {tg : TG} {j : Nat} {d : D} {ρ ρ' : En}, bindT tg (.tm j) d ρ = some ρ' → d.imm = true
  | .nm i o, j, d, ρ, ρ', e => by
    unfold bindT at e
    split at e
    · obtain ⟨s, e1, _⟩ := Option.map_eq_some_iff.mp e
      have e' : (if d.imm = true then some ST.im else none) = some s := e1
      split at e'
      · assumption
      · cases e'
    · cases e
  | .one a, j, d, ρ, ρ', e => by
    cases d with
    | tup ds =>
      match ds, e with
      | [], e => cases e
      | d :: d' :: ds, e => cases e
      | [d], e =>
        have e' : bindT a (.tm j) d ρ = some ρ' := e
        have := bind_tm e'
        simp [D.imm, immAll, this]
    | _ => exfalso; simp [bindT] at e
  | .tp a b, j, d, ρ, ρ', e => by
    cases d with
    | tup ds =>
      match ds, e with
      | [], e => cases e
      | d :: ds, e =>
        unfold bindT at e
        obtain ⟨ρ1, e1, e2⟩ := Option.bind_eq_some_iff.mp e
        have h1 := bind_tm e1
        have h2 := bind_tm e2
        simp only [D.imm] at h2
        simp [D.imm, immAll, h1, h2]
    | _ => exfalso; simp [bindT] at e
/-- a value's tag as a store wants it -/
theorem tagS_of {t : RT} {f : FP} (st : StR B σ H ρ fs) (tg : TagOk H ρ fs ρ1 fs1 t f) : TagS B ρ1 fs1 t f := by
  cases t with
  | im => exact tg
  | vl => exact tg
  | fr =>
    refine fun a => ⟨(tg a).1, fun z => ?_⟩
    obtain ⟨t1, t2, t3⟩ := (tg a).2 z
    refine ⟨t1, t2, ?_⟩
    rcases t3 with q | q
    · exact .inl (st.b2' q)
    · exact st.b4 a q
  | tm i => trivial
/-- behind a store -/
theorem bind_step {tg : TG} {t : RT} {d : D} {f : FP} {ρ2 : En} {x : V} (s : StepS B σ H ρ fs σ1 H1 ρ1 fs1) (r : Rep B.P B.w B.K H1 x d f) (hfr : t = .fr → ∀ a, 0 < f a → H a = none ∨ 0 < sumOf Ev.own ρ fs a) (him : t = .im → f = fz) (hvl : t = .vl → ∀ a, 0 < f a → sumOf Ev.own ρ1 fs1 a = 0) (e : bindT tg t d ρ1 = some ρ2)
    (b : BPost B σ1 H1 ρ1 fs1 f σ2 ρ2 fs2) (bv : t = .vl → ∀ a, sumOf Ev.own ρ2 fs2 a ≤ sumOf Ev.own ρ1 fs1 a) : StepS B σ H ρ fs σ2 H1 ρ2 fs2 where
  st := b.st
  keep := s.keep
  live := s.live
  own := fun a z => by
    by_cases c : 0 < sumOf Ev.own ρ1 fs1 a
    · exact s.own a c
    · have h1 := b.own a
      cases t with
      | im => rw [him rfl] at h1; have z0 : fz a = 0 := rfl; omega
      | vl => have := bv rfl a; omega
      | fr =>
        rcases hfr rfl a (by omega) with q | q
        · exact .inr q
        · exact .inl q
      | tm j =>
        have := r.imm (bind_tm e)
        rw [this] at h1
        have z0 : fz a = 0 := rfl
        omega
  lk := fun i d' e => by
    obtain ⟨k1, k2, k3⟩ := s.lk i d' e
    obtain ⟨k4, k5, k6⟩ := b.lk i d' k1
    exact ⟨k4, k5.trans k2, k6.trans k3⟩
  rf := fun i d' e => by
    obtain ⟨⟨d1, e1⟩, e2⟩ := b.rf i d' e
    obtain ⟨e3, e4⟩ := s.rf i d1 e1
    exact ⟨e3, e2.trans e4⟩
end
end Ev
end

section
set_option Elab.async false
set_option linter.all false
set_option maxRecDepth 100000
set_option maxHeartbeats 1000000
/-! Statements, one form at a time. -/
namespace Ev
open PySem L2

/-! ### the check -/
def lcl (sc : Scope) (x : Str) : Bool := match sc.names.lookup x with
  | some .local => true
  | _ => false
/-- is the value stored within the comprehension's own frame -/
def swB (sc : Scope) (t x : Expr) : Bool := match x, t with
  | .ListComp _ _ s lp, .Name y py => lcl sc y && (py.line == lp.line) && !(s.names.any fun (n, k) => n == y && (k == .local || k == .cell))
  | _, _ => false
def noComp : Expr → Bool
  | .ListComp _ _ _ _ => false
  | .SetComp _ _ _ _ => false
  | .DictComp _ _ _ _ _ => false
  | _ => true
def tupB : Expr → Bool
  | .Tuple _ _ _ => true
  | _ => false
def foldB : Expr → Bool
  | .Tuple vs _ _ => vs.all (foldedForSure 8)
  | _ => false
def subB : Expr → Bool
  | .Subscript _ _ _ => true
  | _ => false
def okComp : Expr → Bool
  | .SetComp _ _ _ _ => false
  | .DictComp _ _ _ _ _ => false
  | _ => true
/-- one of the names is a cell, or stands on another line: the stores are the tuple's own -/
def swapNo (sc : Scope) : Expr → Bool
  | .Tuple ts _ _ => decide ((ts.filterMap fun (t : Expr) => match t with
    | .Name id pos => if lcl sc id && pos.line == (ts.head?.map (·.pos.line)).getD 0 then some id else none
    | _ => none).length ≠ ts.length)
  | _ => false
theorem swap_no {env : Env} {sc : Scope} {ts vs : List Expr} {k1 k2 : Nat} {p1 p2 : Pos} (esc : env.scope = sc) (h : swapNo sc (.Tuple ts k1 p1) = true) : swappedStores [.Tuple ts k1 p1] (.Tuple vs k2 p2) env = pure none := by
  subst esc
  have h' := of_decide_eq_true h
  have key : ∀ y : Str, (env.kindOf y == some NameKind.local) = lcl env.scope y := fun y => by
    show (env.scope.names.lookup y == some NameKind.local) = _
    unfold lcl
    cases env.scope.names.lookup y with
    | none => rfl
    | some k => cases k <;> rfl
  unfold swappedStores
  dsimp only
  split
  · rfl
  · split
    · rfl
    · rw [if_pos]
      rw [Bool.or_eq_true]
      left
      rw [bne_iff_ne]
      intro e
      apply h'
      rw [← e]
      congr 2
      funext t
      cases t <;> first | rfl | simp only [key]
theorem sw_eq {env : Env} {sc : Scope} {t x : Expr} {l : Nat} (e : env.scope = sc) (hk : sc.kind = .function) (hx : okComp x = true) : swapsWith x (some t) l env = pure (swB sc t x) := by
  subst e
  have hb : env.blockKind = .function := by unfold Env.blockKind; rw [hk]; rfl
  cases x <;> first
    | (cases t <;> rfl)
    | exact absurd hx Bool.false_ne_true
    | skip
  rename_i elt gs s lp
  cases t <;> first | rfl | skip
  rename_i y py
  unfold swapsWith swB lcl
  simp only [hb, Expr.pos]
  show (pure (_ && _ && _ && _) : Sem Bool) = _
  have key : (env.kindOf y == some NameKind.local) = (match env.scope.names.lookup y with
      | some .local => true
      | _ => false) := by
    show (env.scope.names.lookup y == some NameKind.local) = _
    cases env.scope.names.lookup y with
    | none => rfl
    | some k => cases k <;> rfl
  rw [key]
  rfl
/-- what a clause may do -/
def hsimp : MS → Bool
  | .asg (.nm _ false) (.lit _) => true
  | .ret (.var _) => true
  | _ => false
/-! behind a written text that was given a name: .replace of written texts -/
section
variable (I : Info) (sc : Scope)
def rep1B (m : ME) (e : Expr) : Bool := match m, e with
  | .mth .replace o (.cons (.lit (.str y)) (.cons (.lit (.str z)) .nil)), .Call (.Attribute x nm ap) [.Constant (.str y') _ _, .Constant (.str z') _ _] [] cp => decide (nm = ("replace" : Str)) && decide (y = y') && decide (z = z') && !(y == z) && (ap.endLine == cp.line) && plainO x && chk I sc sc o x
  | _, _ => false
def repsB : MEs → List Expr → Bool
  | .nil, [] => true
  | .cons m ms, e :: es => rep1B I sc m e && repsB ms es
  | _, _ => false
def rep2B (m : ME) (e : Expr) : Bool := match m, e with
  | .lst ms, .List es _ => repsB I sc ms es && decide (es.length ≤ 1000)
  | _, _ => false
def rep3B (m : ME) (e : Expr) : Bool := match m, e with
  | .bin o a b, .BinOp x op y _ => opB o op && chk I sc sc a x && rep2B I sc b y
  | _, _ => false
def repS (m : MS) (s : Stmt) : Bool := match m, s with
  | .asg (.nm i o) e, .Assign [.Name x p] y _ => chkg I sc (.nm i o) (.Name x p) && rep3B I sc e y
  | .app i .nil e, .Expr (.Call (.Attribute (.Name x _) nm ap) [y] [] cp) _ => decide (nm = ("append" : Str)) && (ap.endLine == cp.line) && slotB I sc i x && rep1B I sc e y
  | _, _ => false
def litAsg (m : MS) (s : Stmt) : Bool := match m, s with
  | .asg (.nm i o) (.lit (.str c)), .Assign [.Name x p] (.Constant (.str c') j q) pos => chkg I sc (.nm i o) (.Name x p) && decide (c = c') && lcl sc x
  | _, _ => false
end
section
variable (I : Info) (sc : Scope)
mutual
def chkS : MS → Stmt → Bool
  | .asg tg e, s => (match s with
    | .Assign [t] x _ => chkg I sc tg t && chk I sc sc e x && (!(tupB t && tupB x) || foldB x || swapNo sc t) && !(subB t) && (match tg, e, t, x with
      | .nm _ _, .lc _ _ _ _ _, .Name _ _, .ListComp _ [⟨_, _, _, 0⟩] _ _ => true
      | .nm _ _, .lc2 _ _ _ _ _ _ _ _, .Name _ _, .ListComp _ [⟨_, _, [], 0⟩, ⟨_, _, _, 0⟩] _ _ => true
      | _, _, _, _ => !(swB sc t x))
    | _ => false)
  | .par ts es, s => (match s, ts with
    | .Assign [.Tuple [.Name x px, .Name y py] _ _] (.Tuple [a, b] _ _) _, [(i, _), (j, _)] => decide (I.N[i]? = some x) && decide (I.N[j]? = some y) && lcl sc x && lcl sc y && (py.line == px.line) && decide (x ≠ y) && !([a, b].all (foldedForSure 8)) && !([a, b].all (constantsAlone 8)) && chks I sc sc es [a, b]
    | .Assign [.Tuple [.Name x px, .Name y py, .Name z pz] kt pt] (.Tuple [a, b, c] _ _) _, [(i, _), (j, _), (l, _)] => (decide (I.N[i]? = some x) && decide (I.N[j]? = some y) && decide (I.N[l]? = some z) && lcl sc x && lcl sc y && lcl sc z && (py.line == px.line) && (pz.line == px.line) && decide (x ≠ y) && decide (x ≠ z) && decide (y ≠ z) && !([a, b, c].all (foldedForSure 8)) && !([a, b, c].all (constantsAlone 8)) && chks I sc sc es [a, b, c]) || (decide (I.N[i]? = some x) && decide (I.N[j]? = some y) && decide (I.N[l]? = some z) && stor sc x && stor sc y && stor sc z && swapNo sc (.Tuple [.Name x px, .Name y py, .Name z pz] kt pt) && chks I sc sc es [a, b, c])
    | _, _ => false)
  | .set i p e, s => (match s, p with
    | .Assign [.Subscript (.Name x _) y _] z _, .cons k .nil => slotB I sc i x && chk I sc sc k y && k.pure && chk I sc sc e z
    | _, _ => false)
  | .app i p e, s => (match s, p with
    | .Expr (.Call (.Attribute (.Name x _) nm ap) [y] [] cp) _, .nil => decide (nm = ("append" : Str)) && (ap.endLine == cp.line) && slotB I sc i x && chk I sc sc e y
    | _, _ => false)
  | .st2 i a b e, s => (match s with
    | .Assign [.Subscript (.Subscript (.Name x _) y1 _) y2 _] z _ => slotB I sc i x && chk I sc sc a y1 && chk I sc sc b y2 && chk I sc sc e z
    | _ => false)
  | .apk i a e, s => (match s with
    | .Expr (.Call (.Attribute (.Subscript (.Name x _) y1 _) nm ap) [z] [] cp) _ => decide (nm = ("append" : Str)) && (ap.endLine == cp.line) && slotB I sc i x && chk I sc sc a y1 && chk I sc sc e z
    | _ => false)
  | .expr e, s => (match s with
    | .Expr x _ => noComp x && chk I sc sc e x
    | _ => false)
  | .ret e, s => (match s with
    | .Return (some x) _ => chk I sc sc e x
    | _ => false)
  | .retN, s => (match s with
    | .Return none _ => true
    | _ => false)
  | .ife c a b, s => (match s with
    | .If t x y _ => chkt I sc sc c t && chkSs a x && chkSs b y
    | _ => false)
  | .whl c b, s => (match s with
    | .While t x [] _ => chkt I sc sc c t && chkSs b x
    | _ => false)
  | .fr tg it b, s => (match s with
    | .For t iter x [] _ => chkg I sc tg t && chki I sc sc it iter && okT it t && chkSs b x
    | _ => false)
  | .rse c, s => (match s with
    | .Raise (some (.Call (.Name x _) [.Constant (.str _) _ _] [] _)) none _ => decide (I.xcs[c]? = some x) && glob sc x
    | _ => false)
  | .tri b hs, s => (match s with
    | .Try x (h :: hds) [] [] _ => chkSs b x && chkH hs (h :: hds)
    | _ => false)
  | .pass, s => (match s with
    | .Pass _ => true
    | _ => false)
  | .brk, s => (match s with
    | .Break _ => true
    | _ => false)
  | .cnt, s => (match s with
    | .Continue _ => true
    | _ => false)
def chkH : MHs → List ExceptHandler → Bool
  | .nil, [] => true
  | .cons c m hs, .ExceptHandler (some (.Name x _)) none [st] _ :: hds => decide (I.xcs[c]? = some x) && glob sc x && hsimp m && chkS m st && chkH hs hds
  | _, _ => false
def chkSs : MSs → List Stmt → Bool
  | .nil, [] => true
  | .cons m ms, s :: ss => (chkS m s && chkSs ms ss) || (litAsg I sc m s && chkST ms ss)
  | _, _ => false
def chkST : MSs → List Stmt → Bool
  | .nil, [] => true
  | .cons m ms, s :: ss => (chkS m s || repS I sc m s) && chkST ms ss
  | _, _ => false
end
end
/-- the context of a def's statements -/
structure GdS (I : Info) (G : Tab) (C : Nat → Option D) (exV : Nat → Value) (B : Bs) (k : Nat) (sc : Scope) (W : WX) (X : Cx) : Prop where
  g : Gd I G C exV B k sc sc W X
  kn : sc.kind = .function
  po : PassesOwn (model X.prog X.w) X.A X.env X.xe
  stk : X.stack = X.env :: X.outer
  frm : X.env.frame = some X.env.locals
  xm : ∀ c x, I.xcs[c]? = some x → X.mg x = some (exV c)
  xd : ∀ c0 c1 x1, I.xcs[c1]? = some x1 → PySem.W.exmOne X.K (exV c0) (exV c1) = some (decide (c0 = c1))
  xc : ∀ (X' : Cx), X'.prog = X.prog → X'.w = X.w → X'.K = X.K → X'.mg = X.mg → X'.base = X.base → ∀ c x, I.xcs[c]? = some x → Gl X' x → ∀ (m : Str) (j : Nat) (p p2 pos : Pos), PMk X' (.Call (.Name x p) [.Constant (.str m) j p2] [] pos) (fun _ H Q => Q (exV c) none H)
section
variable (G : Tab) (C : Nat → Option D) (exV : Nat → Value) (B : Bs) (W : WX)
def tExc (m : MS) : TS := fun E σ H => ∃ ρ fs, StR B σ H ρ fs ∧ RunS exV B W E σ H ρ fs (exc G C m ρ)
def tExs (m : MSs) : TS := fun E σ H => ∃ ρ fs, StR B σ H ρ fs ∧ RunS exV B W E σ H ρ fs (exs G C m ρ)
end
theorem PS.weak {X : Cx} {e : Stmt} {t t' : TS} (h : PS X e t) (q : ∀ E σ H, t' E σ H → t E σ H) : PS X e t' := ⟨fun pins s σ H E I hq => h.run pins s σ H E I (q E σ H hq)⟩
theorem PSs.weak {X : Cx} {e : List Stmt} {t t' : TS} (h : PSs X e t) (q : ∀ E σ H, t' E σ H → t E σ H) : PSs X e t' := ⟨fun pins s σ H E I hq => h.run pins s σ H E I (q E σ H hq)⟩
section
variable {I : Info} {G : Tab} {C : Nat → Option D} {exV : Nat → Value} {B : Bs} {k : Nat} {sc : Scope} {W : WX} {X : Cx} {pos : Pos}
section
variable {σ : St} {H : Hp} {ρ : En} {fs : List FP} {E : Ends}
/-- an expression's reading within a statement's -/
theorem s_e {m : ME} {kk : RV → En → R Flow} {Q : VK} (st : StR B σ H ρ fs) (h : RunS exV B W E σ H ρ fs ((ev G C m ρ).bind kk))
    (hq : ∀ v ρ1 x H1 f fs1, PostE B σ H ρ fs m.pure m.slot? v x H1 f ρ1 fs1 → StepS B σ H ρ fs σ H1 ρ1 fs1 → RunS exV B W E σ H ρ fs (kk v ρ1) → Q x H1) : tEv G C exV B W m σ H Q :=
  ⟨ρ, fs, st, (RunS.bind st h).mono fun v ρ' q x H' f fs' P => hq v ρ' x H' f fs' P (P.stp.toS st) q⟩
theorem s_t {m : MT} {kk : Bool → En → R Flow} {Q : Bool → Hp → Prop} (st : StR B σ H ρ fs) (h : RunS exV B W E σ H ρ fs ((evt G C m ρ).bind kk))
    (hq : ∀ v ρ1 H1 fs1, StepS B σ H ρ fs σ H1 ρ1 fs1 → RunS exV B W E σ H ρ fs (kk v ρ1) → Q v H1) : tEvt G C exV B W m σ H Q :=
  ⟨ρ, fs, st, (RunS.bind st h).mono fun v ρ' q H' fs' P => hq v ρ' H' fs' (P.toS st) q⟩
end
/-- a value is stored -/
theorem store_val {tg : TG} {σ : St} {H H1 : Hp} {ρ ρ1 ρ2 : En} {fs fs1 : List FP} {p : Bool} {va : Option Nat} {v : RV} {x : V} {f : FP} {E : Ends} (st : StR B σ H ρ fs) (P : PostE B σ H ρ fs p va v x H1 f ρ1 fs1) (s : StepS B σ H ρ fs σ H1 ρ1 fs1) (e : bindT tg v.t v.d ρ1 = some ρ2)
    (q : RunS exV B W E σ H ρ fs (.ok .nx ρ2)) : gB B tg x σ H1 E.nx := by
  refine ⟨v.t, ρ1, fs1, v.d, f, ρ2, P.stp.st, P.rep, tagS_of st P.tag, P.prov, e, fun σ' fs' b bv off => ?_⟩
  have tg := P.tag
  refine q σ' H1 fs' (bind_step s P.rep (fun et a z => ?_) (fun et => ?_) (fun et => ?_) e b bv)
  · rw [et] at tg; exact ((tg a).2 z).2.2
  · rw [et] at tg; exact tg
  · rw [et] at tg; exact tg
theorem chkg_asg {rd wr : Scope} {tg : TG} {e : Expr} {env : Env} (h : chkg I wr tg e = true) : (assignEach [e] env).map (·.2) = [assign e env] := by
  rw [chkg_plain h]; rfl
theorem swapped_fold {ts vs : List Expr} {k1 k2 : Nat} {p1 p2 : Pos} {env : Env} (h : vs.all (foldedForSure 8) = true) : swappedStores [.Tuple ts k1 p1] (.Tuple vs k2 p2) env = pure none := by
  unfold swappedStores
  dsimp only
  split
  · rfl
  · split
    · rfl
    · split
      · rfl
      · simp [h]
theorem swapped_none {t x : Expr} {env : Env} (esc : env.scope = sc) (h : (!(tupB t && tupB x) || foldB x || swapNo sc t) = true) (hl : chkg I sc tg t = true) : swappedStores [t] x env = pure none := by
  by_cases c : (tupB t && tupB x) = true
  · rw [c] at h
    have hf : foldB x = true ∨ swapNo sc t = true := by simpa using h
    cases t <;> first | (exact absurd c Bool.false_ne_true) | skip
    cases x <;> first | (exact absurd c Bool.false_ne_true) | skip
    rcases hf with hf | hf
    · exact swapped_fold hf
    · exact swap_no esc hf
  · have h : (tupB t && tupB x) = false := Bool.eq_false_iff.mpr c
    cases tg <;> cases t <;> simp [chkg] at hl <;> cases x <;> first | rfl | (exfalso; revert h; simp [tupB])
theorem chk_comp {m : ME} {rd wr : Scope} {e : Expr} (h : chk I rd wr m e = true) : okComp e = true := by
  cases e <;> first | rfl | (exfalso; cases m <;> simp [chk] at h)
theorem ok_asg (g : GdS I G C exV B k sc W X) {tg : TG} {e : ME} {t x : Expr} (ht : chkg I sc tg t = true) (hx : chk I sc sc e x = true) (hn : (!(tupB t && tupB x) || foldB x || swapNo sc t) = true) (hs : swB sc t x = false) (hp : PE X x (tEv G C exV B W e)) :
    PS X (.Assign [t] x pos) (tExc G C exV B W (.asg tg e)) := by
  refine PS.weak (ps_asg hp ((tg_ok g.g tg).1 t ht) ?_ (swapped_none g.g.esc hn ht) (chkg_asg (rd := sc) ht)) fun E σ H q => ?_
  · show swapsWith x (some t) pos.line X.env = pure false
    rw [sw_eq g.g.esc g.kn (chk_comp hx), hs]
  · obtain ⟨ρ, fs, st, q⟩ := q
    unfold exc at q
    refine s_e st q fun v ρ1 x H1 f fs1 P s q => ?_
    split at q
    · rename_i ρ2 e
      exact store_val st P s e q
    · exact q.elim
theorem ok_ret {e : ME} {x : Expr} (hp : PE X x (tEv G C exV B W e)) : PS X (.Return (some x) pos) (tExc G C exV B W (.ret e)) := by
  refine PS.weak (ps_ret hp) fun E σ H q => ?_
  obtain ⟨ρ, fs, st, q⟩ := q
  unfold exc at q
  refine s_e st q fun v ρ1 x H1 f fs1 P s q => ?_
  split at q
  · rename_i v' e
    obtain ⟨f', r, tg, pv⟩ := ret_ok st P e
    exact q σ x H1 f' fs1 s r tg pv
  · exact q.elim
theorem ok_retN : PS X (.Return none pos) (tExc G C exV B W .retN) := by
  refine PS.weak ps_retN fun E σ H q => ?_
  obtain ⟨ρ, fs, st, q⟩ := q
  unfold exc at q
  exact q σ .non H fz fs (StepS.refl st) .non rfl fun a z => absurd z (Nat.lt_irrefl _)
theorem ok_expr (g : GdS I G C exV B k sc W X) {e : ME} {x : Expr} (hn : noComp x = true) (hp : PE X x (tEv G C exV B W e)) : PS X (.Expr x pos) (tExc G C exV B W (.expr e)) := by
  refine PS.weak (ps_expr hp ?_) fun E σ H q => ?_
  · cases x <;> first | rfl | cases hn
  · obtain ⟨ρ, fs, st, q⟩ := q
    unfold exc at q
    refine s_e st q fun v ρ1 x H1 f fs1 P s q => ?_
    exact q σ H1 fs1 s
theorem ok_ife {c : MT} {a b : MSs} {t : Expr} {x y : List Stmt} (hc : PT X t (tEvt G C exV B W c)) (ha : PSs X x (tExs G C exV B W a)) (hb : PSs X y (tExs G C exV B W b)) : PS X (.If t x y pos) (tExc G C exV B W (.ife c a b)) := by
  refine PS.weak (ps_if hc ha hb) fun E σ H q => ?_
  obtain ⟨ρ, fs, st, q⟩ := q
  unfold exc at q
  refine s_t st q fun v ρ1 H1 fs1 s q => ?_
  cases v with
  | true =>
    rw [if_pos rfl] at q ⊢
    exact ⟨ρ1, fs1, s.st, RunS.later q s⟩
  | false =>
    rw [if_neg (by decide)] at q ⊢
    exact ⟨ρ1, fs1, s.st, RunS.later q s⟩
theorem ok_snil : PSs X [] (tExs G C exV B W .nil) := PSs.weak pss_nil fun E σ H q => by
  obtain ⟨ρ, fs, st, q⟩ := q
  unfold exs at q
  exact q σ H fs (StepS.refl st)
theorem ok_scons {m : MS} {ms : MSs} {s : Stmt} {ss : List Stmt} (h1 : PS X s (tExc G C exV B W m)) (h2 : PSs X ss (tExs G C exV B W ms)) : PSs X (s :: ss) (tExs G C exV B W (.cons m ms)) := by
  refine PSs.weak (pss_cons h1 h2) fun E σ H q => ?_
  obtain ⟨ρ, fs, st, q⟩ := q
  unfold exs at q
  exact ⟨ρ, fs, st, RunS.seq q⟩
theorem ok_pass : PS X (.Pass pos) (tExc G C exV B W .pass) := PS.weak ps_pass fun E σ H q => by
  obtain ⟨ρ, fs, st, q⟩ := q
  unfold exc at q
  exact q σ H fs (StepS.refl st)
theorem ok_brk : PS X (.Break pos) (tExc G C exV B W .brk) := PS.weak ps_break fun E σ H q => by
  obtain ⟨ρ, fs, st, q⟩ := q
  unfold exc at q
  exact q σ H fs (StepS.refl st)
theorem ok_cnt : PS X (.Continue pos) (tExc G C exV B W .cnt) := PS.weak ps_continue fun E σ H q => by
  obtain ⟨ρ, fs, st, q⟩ := q
  unfold exc at q
  exact q σ H fs (StepS.refl st)
theorem ok_rse (g : GdS I G C exV B k sc W X) {c : Nat} {x m : Str} {j : Nat} {p p2 cp : Pos} (hx : I.xcs[c]? = some x) (hg : glob sc x = true) : PS X (.Raise (some (.Call (.Name x p) [.Constant (.str m) j p2] [] cp)) none pos) (tExc G C exV B W (.rse c)) := by
  refine PS.weak (ps_raise g.g.calm g.g.takes (g.xc X rfl rfl rfl rfl rfl c x hx (glob_gl g.g.esc hg).1 m j p p2 cp)) fun E σ H q => ?_
  obtain ⟨ρ, fs, st, q⟩ := q
  unfold exc at q
  exact q σ H fs (StepS.refl st)
theorem ok_whl (g : GdS I G C exV B k sc W X) {c : MT} {b : MSs} {t : Expr} {x : List Stmt} (hc : PT X t (tEvt G C exV B W c)) (hb : PSs X x (tExs G C exV B W b)) : PS X (.While t x [] pos) (tExc G C exV B W (.whl c b)) := by
  refine PS.weak (ps_while g.po hc hb) fun E σ H q => ?_
  obtain ⟨ρ, fs, st, q⟩ := q
  unfold exc at q
  have hn : loopR (whlS (evt G C c) (exs G C b)) ρ ≠ .no := fun z => by rw [z] at q; exact q
  obtain ⟨n, en⟩ := loopR_some hn
  generalize loopR (whlS (evt G C c) (exs G C b)) ρ = r at q en
  refine ⟨fun m σ' H' => ∃ ρ' fs', StR B σ' H' ρ' fs' ∧ RunS exV B W E σ' H' ρ' fs' r ∧ loopN (whlS (evt G C c) (exs G C b)) m ρ' = some r, ⟨n, ρ, fs, st, q, en⟩, ?_⟩
  rintro m σ1 H1 ⟨ρ1, fs1, st1, q1, e1⟩
  cases m with
  | zero => cases e1
  | succ m =>
    have e1 : (match whlS (evt G C c) (exs G C b) ρ1 with
      | .inl r => some r
      | .inr ρ' => loopN (whlS (evt G C c) (exs G C b)) m ρ') = some r := e1
    refine ⟨ρ1, fs1, st1, ?_⟩
    cases ec : evt G C c ρ1 with
    | no =>
      have hw : whlS (evt G C c) (exs G C b) ρ1 = .inl .no := by unfold whlS; rw [ec]
      rw [hw] at e1
      cases e1
      exact q1
    | ex cc ρ2 =>
      have hw : whlS (evt G C c) (exs G C b) ρ1 = .inl (.ex cc ρ2) := by unfold whlS; rw [ec]
      rw [hw] at e1
      cases e1
      exact fun H' fs' s => q1 σ1 H' fs' (s.toS st1)
    | ok bb ρ2 =>
      intro H2 fs2 s2
      have s2 := s2.toS st1
      cases bb with
      | false =>
        have hw : whlS (evt G C c) (exs G C b) ρ1 = .inl (.ok .nx ρ2) := by unfold whlS; rw [ec]
        rw [hw] at e1
        rw [if_neg (by decide)]
        cases e1
        exact q1 σ1 H2 fs2 s2
      | true =>
        rw [if_pos rfl]
        refine ⟨fun σ' H' => ∃ ρ' fs', StR B σ' H' ρ' fs' ∧ RunS exV B W E σ' H' ρ' fs' r ∧ loopN (whlS (evt G C c) (exs G C b)) m ρ' = some r, fun σ' H' h => ⟨m, Nat.lt_succ_self _, h⟩, ρ2, fs2, s2.st, ?_⟩
        have q2 := RunS.later q1 s2
        cases eb : exs G C b ρ2 with
        | no =>
          have hw : whlS (evt G C c) (exs G C b) ρ1 = .inl .no := by unfold whlS; rw [ec]; dsimp only; rw [eb]
          rw [hw] at e1; cases e1; exact q1
        | ex cc ρ3 =>
          have hw : whlS (evt G C c) (exs G C b) ρ1 = .inl (.ex cc ρ3) := by unfold whlS; rw [ec]; dsimp only; rw [eb]
          rw [hw] at e1; cases e1; exact q2
        | ok f ρ3 =>
          cases f with
          | nx =>
            have hw : whlS (evt G C c) (exs G C b) ρ1 = .inr ρ3 := by unfold whlS; rw [ec]; dsimp only; rw [eb]
            rw [hw] at e1
            exact fun σ' H' fs' s => ⟨ρ3, fs', s.st, RunS.later q2 s, e1⟩
          | ct =>
            have hw : whlS (evt G C c) (exs G C b) ρ1 = .inr ρ3 := by unfold whlS; rw [ec]; dsimp only; rw [eb]
            rw [hw] at e1
            exact fun σ' H' fs' s => ⟨ρ3, fs', s.st, RunS.later q2 s, e1⟩
          | bk =>
            have hw : whlS (evt G C c) (exs G C b) ρ1 = .inl (.ok .nx ρ3) := by unfold whlS; rw [ec]; dsimp only; rw [eb]
            rw [hw] at e1; cases e1; exact q2
          | rt v =>
            have hw : whlS (evt G C c) (exs G C b) ρ1 = .inl (.ok (.rt v) ρ3) := by unfold whlS; rw [ec]; dsimp only; rw [eb]
            rw [hw] at e1; cases e1; exact q2
end
end Ev
end

section
set_option Elab.async false
set_option linter.all false
set_option maxRecDepth 100000
set_option maxHeartbeats 1000000
/-! for loops. -/
namespace Ev
open PySem L2
section
variable {B : Bs} {σ σ1 : St} {H H1 : Hp} {ρ ρ1 ρL : En} {fs fs1 : List FP}
/-- another owner's tag -/
theorem tag_set {i : Nat} {t t' : ST} {d : D} (st : StR B σ H ρ fs) (e : ρ[i]? = some (some ⟨t, d⟩)) (h : own t = true) (h' : own t' = true) : StR B σ H (ρ.set i (some ⟨t', d⟩)) fs ∧ ∀ a, sumOf own (ρ.set i (some ⟨t', d⟩)) fs a = sumOf own ρ fs a := by
  obtain ⟨o, f, eo, ef, sl⟩ := st.sl.get e
  have hfs : fs.set i f = fs := by
    refine List.ext_getElem? fun j => ?_
    by_cases q : i = j
    · subst q
      rw [List.getElem?_set_self (List.getElem?_eq_some_iff.mp ef).1, ef]
    · rw [List.getElem?_set_ne q]
  have S := fun p a => sum_set p ρ fs i (some ⟨t, d⟩) (some ⟨t', d⟩) f f e ef a
  have So : ∀ a, sumOf own (ρ.set i (some ⟨t', d⟩)) fs a = sumOf own ρ fs a := fun a => by
    have q := S own a
    have c1 : ctr own (some ⟨t, d⟩) f a = f a := by show (if own t = true then f else fz) a = f a; rw [if_pos h]
    have c2 : ctr own (some ⟨t', d⟩) f a = f a := by show (if own t' = true then f else fz) a = f a; rw [if_pos h']
    rw [hfs] at q
    omega
  have Sf : ∀ a, sumOf frz (ρ.set i (some ⟨t', d⟩)) fs a = sumOf frz ρ fs a := fun a => by
    have q := S frz a
    have c1 : ctr frz (some ⟨t, d⟩) f a = 0 := by show (if frz t = true then f else fz) a = 0; rw [own_frz h]; rfl
    have c2 : ctr frz (some ⟨t', d⟩) f a = 0 := by show (if frz t' = true then f else fz) a = 0; rw [own_frz h']; rfl
    rw [hfs] at q
    omega
  refine ⟨⟨?_, fun a => by rw [So]; exact st.m1 a, fun a z => by rw [So] at z; rw [Sf]; exact st.mn a z, st.b1, st.b2, st.b3, fun a z => by rw [So] at z; exact st.b4 a z⟩, So⟩
  cases sl with
  | @val _ _ v _ r him =>
    have := st.sl.put (i := i) (s := ⟨t', d⟩) (v := v) (f := f) eo (.val r fun z => by subst z; cases h')
    rw [hfs] at this
    exact this
theorem lock_cases {t : RT} (e : lockE t ρ = some ρL) : ρL = ρ ∧ (∀ i, t = .tm i → ∃ d, ρ.at i = some ⟨.lk, d⟩) ∧ (∀ ρ', openE t ρ ρ' = ρ') ∨ ∃ i d, t = .tm i ∧ ρ[i]? = some (some ⟨.mu, d⟩) ∧ ρL = ρ.set i (some ⟨.lk, d⟩) := by
  cases t with
  | tm i =>
    have e : (match ρ.at i with
      | some ⟨.mu, d⟩ => some (ρ.put i (some ⟨.lk, d⟩))
      | some ⟨.lk, _⟩ => some ρ
      | _ => none) = some ρL := e
    split at e
    · rename_i d ea
      cases e
      exact .inr ⟨i, d, rfl, at_some ea, rfl⟩
    · rename_i d ea
      cases e
      refine .inl ⟨rfl, fun j z => by cases z; exact ⟨d, ea⟩, fun ρ' => ?_⟩
      unfold openE
      dsimp only
      rw [ea]
    · cases e
  | im => cases e; exact .inl ⟨rfl, (fun i z => nomatch z), fun _ => rfl⟩
  | vl => cases e; exact .inl ⟨rfl, (fun i z => nomatch z), fun _ => rfl⟩
  | fr => cases e; exact .inl ⟨rfl, (fun i z => nomatch z), fun _ => rfl⟩
theorem lock_st {t : RT} (st : StR B σ H ρ fs) (e : lockE t ρ = some ρL) : StR B σ H ρL fs ∧ ∀ a, sumOf own ρL fs a = sumOf own ρ fs a := by
  rcases lock_cases e with ⟨rfl, _, _⟩ | ⟨i, d, rfl, ei, rfl⟩
  · exact ⟨st, fun _ => rfl⟩
  · exact tag_set st ei rfl rfl
/-- from the locked start to an end: as from the start itself -/
theorem unlock_step {t : RT} (st : StR B σ H ρ fs) (e : lockE t ρ = some ρL) (s : StepS B σ H ρL fs σ1 H1 ρ1 fs1) : StepS B σ H ρ fs σ1 H1 ρ1 fs1 := by
  obtain ⟨stL, So⟩ := lock_st st e
  have lkL : ∀ (i : Nat) (d : D), ρ[i]? = some (some ⟨.lk, d⟩) → ρL[i]? = some (some ⟨.lk, d⟩) := fun j d' ej => by
    rcases lock_cases e with ⟨rfl, _, _⟩ | ⟨i, d, rfl, ei, rfl⟩
    · exact ej
    · have ne : i ≠ j := fun q => by
        subst q
        rw [ei] at ej; cases ej
      rw [List.getElem?_set_ne ne]; exact ej
  refine ⟨s.st, fun a o h z => s.keep a o h ?_, s.live, fun a z => by rw [← So]; exact s.own a z, fun i d ei => s.lk i d (lkL i d ei), fun j d' ej => ?_⟩
  rotate_left
  · obtain ⟨⟨d1, e1⟩, e2⟩ := s.rf j d' ej
    refine ⟨?_, e2⟩
    rcases lock_cases e with ⟨rfl, _, _⟩ | ⟨i, d, rfl, ei, rfl⟩
    · exact ⟨d1, e1⟩
    · by_cases q : i = j
      · subst q
        rw [List.getElem?_set_self (List.getElem?_eq_some_iff.mp ei).1] at e1
        cases e1
      · rw [List.getElem?_set_ne q] at e1
        exact ⟨d1, e1⟩
  rcases z with z | ⟨i, d, g, e1, e2, e3⟩
  · exact .inl (by rw [So]; exact z)
  · exact .inr ⟨i, d, g, lkL i d e1, e2, e3⟩
/-- .. and opened -/
theorem open_step {t : RT} (st : StR B σ H ρ fs) (e : lockE t ρ = some ρL) (s : StepS B σ H ρL fs σ1 H1 ρ1 fs1) : StepS B σ H ρ fs σ1 H1 (openE t ρ ρ1) fs1 ∧ ∀ a, sumOf own (openE t ρ ρ1) fs1 a = sumOf own ρ1 fs1 a := by
  have u := unlock_step st e s
  rcases lock_cases e with ⟨_, _, h⟩ | ⟨i, d, rfl, ei, rfl⟩
  · rw [h]; exact ⟨u, fun _ => rfl⟩
  · have el : (ρ.set i (some ⟨.lk, d⟩))[i]? = some (some ⟨.lk, d⟩) := List.getElem?_set_self (List.getElem?_eq_some_iff.mp ei).1
    have ea : ρ.at i = some ⟨.mu, d⟩ := by unfold En.at; rw [ei]
    obtain ⟨k1, k2, k3⟩ := s.lk i d el
    have ea1 : ρ1.at i = some ⟨.lk, d⟩ := by unfold En.at; rw [k1]
    have eo : openE (.tm i) ρ ρ1 = ρ1.set i (some ⟨.mu, d⟩) := by
      unfold openE
      dsimp only
      rw [ea]
      dsimp only
      rw [ea1]
      rfl
    rw [eo]
    obtain ⟨st', So⟩ := tag_set (t' := .mu) s.st k1 rfl rfl
    refine ⟨⟨st', u.keep, u.live, fun a z => u.own a (by rw [← So]; exact z), fun j d' ej => ?_, fun j d' ej => ?_⟩, So⟩
    rotate_left
    · by_cases q : i = j
      · subst q
        rw [List.getElem?_set_self (List.getElem?_eq_some_iff.mp k1).1] at ej
        cases ej
      · rw [List.getElem?_set_ne q] at ej
        exact u.rf j d' ej
    have ne : i ≠ j := fun q => by
      subst q
      rw [ei] at ej; cases ej
    obtain ⟨m1, m2, m3⟩ := u.lk j d' ej
    exact ⟨by rw [List.getElem?_set_ne ne]; exact m1, m2, m3⟩
/-- what is walked stands through the loop -/
theorem src_kept {t : RT} {f : FP} {Ho : Hp} {ρo : En} {fso : List FP} (st : StR B σ H ρ fs) (e : lockE t ρ = some ρL) (tg : TagOk Ho ρo fso ρ fs t f) (s : StepS B σ H ρL fs σ1 H1 ρ1 fs1) : Kept H H1 f := fun a o h z => by
  obtain ⟨stL, So⟩ := lock_st st e
  have nw : ¬ wr o → sumOf own ρL fs a = 0 := fun n => Nat.eq_zero_of_not_pos fun y => by
    obtain ⟨u, eu, w⟩ := stL.sl.there own a y
    rw [h] at eu; cases eu
    exact n w
  rcases z with z | z
  · refine s.keep a o h ?_
    by_cases y : 0 < sumOf own ρ fs a
    · cases t with
      | im => have tg' : f = fz := tg; rw [tg'] at z; exact absurd z (Nat.lt_irrefl _)
      | vl => have := tg a z; omega
      | fr => have := ((tg a).2 z).1; omega
      | tm i =>
        obtain ⟨g, eg, gz⟩ := tg a z y
        right
        rcases lock_cases e with ⟨rfl, h1, _⟩ | ⟨i', d, q, ei, rfl⟩
        · obtain ⟨d, ed⟩ := h1 i rfl
          exact ⟨i, d, g, at_some ed, eg, gz⟩
        · cases q
          exact ⟨i, d, g, List.getElem?_set_self (List.getElem?_eq_some_iff.mp ei).1, eg, gz⟩
    · exact .inl (by rw [So]; omega)
  · exact s.keep a o h (.inl (nw z))
theorem StepS.andSame {H2 : Hp} (s : StepS B σ H ρ fs σ1 H1 ρ1 fs1) (k : Same H1 H2) : StepS B σ H ρ fs σ1 H2 ρ1 fs1 :=
  ⟨s.st.same k, fun a o h z => k _ _ (s.keep a o h z), fun a h z => s.live a h (by
    cases q : H1 a with
    | none => rfl
    | some o => rw [k _ _ q] at z; cases z), s.own, s.lk, s.rf⟩
end
section
variable {I : Info} {G : Tab} {C : Nat → Option D} {exV : Nat → Value} {B : Bs} {k : Nat} {sc : Scope} {W : WX} {X : Cx} {pos : Pos}
theorem ok_fr (g : GdS I G C exV B k sc W X) {tg : TG} {it : IT} {b : MSs} {t iter : Expr} {x : List Stmt} (ht : chkg I sc tg t = true) (hi : PI X t iter (tEvi G C exV B W it)) (hs : ∀ x, foldedSetIterable iter X.env x = pure x) (hb : PSs X x (tExs G C exV B W b)) :
    PS X (.For t iter x [] pos) (tExc G C exV B W (.fr tg it b)) := by
  refine PS.weak (ps_for g.po g.g.calm hi ((tg_ok g.g tg).1 t ht) hb hs) fun E σ H q => ?_
  obtain ⟨ρ, fs, st, q⟩ := q
  unfold exc at q
  refine ⟨ρ, fs, st, (RunS.bind st q).mono fun r ρ1 q J H1 f fs1 S src => ?_⟩
  have s0 := S.toS st
  have q := RunS.later q s0
  cases eL : lockE r.root ρ1 with
  | none => rw [eL] at q; exact q.elim
  | some ρL =>
    rw [eL] at q
    have st1 := S.st
    obtain ⟨stL, So⟩ := lock_st st1 eL
    refine ⟨fun i m σ' H' => m = r.ds.length - i ∧ i ≤ r.ds.length ∧ ∃ ρ' fs', StepS B σ H1 ρL fs1 σ' H' ρ' fs' ∧ RunS exV B W E σ H1 ρ1 fs1 ((forR (bindT tg r.t) (exs G C b) (r.ds.drop i) ρ').bind fun f ρ2 => .ok f (openE r.root ρ1 ρ2)), ⟨r.ds.length, rfl, Nat.zero_le _, ρL, fs1, StepS.refl stL, q⟩, ?_⟩
    rintro i m σ' H' ⟨rfl, hi, ρ', fs', s, q⟩
    have kp := src_kept st1 eL src.tag s
    by_cases hlt : i < r.ds.length
    · right
      obtain ⟨go, yl⟩ := src.go H' kp i _ (List.getElem?_eq_getElem hlt)
      refine ⟨go, fun σ2 H2 => r.ds.length - (i + 1) < r.ds.length - i ∧ i + 1 ≤ r.ds.length ∧ ∃ ρ' fs', StepS B σ H1 ρL fs1 σ2 H2 ρ' fs' ∧ RunS exV B W E σ H1 ρ1 fs1 ((forR (bindT tg r.t) (exs G C b) (r.ds.drop (i + 1)) ρ').bind fun f ρ2 => .ok f (openE r.root ρ1 ρ2)), fun σ2 H2 h => ⟨_, h.1, rfl, h.2⟩, fun x H2 y => ?_⟩
      obtain ⟨sm, h, rx, hle, him⟩ := yl x H2 y
      have s2 := s.andSame sm
      rw [List.drop_eq_getElem_cons hlt] at q
      unfold forR at q
      cases eb : bindT tg r.t r.ds[i] ρ' with
      | none => rw [eb] at q; exact q.elim
      | some ρ2 =>
        rw [eb] at q
        have ow : ∀ a, 0 < h a → sumOf own ρ1 fs1 a = 0 → sumOf own ρ' fs' a = 0 := fun a z y => Nat.eq_zero_of_not_pos fun w => by
          rcases s.own a w with p | p
          · rw [So] at p; omega
          · exact src.live a (Nat.lt_of_lt_of_le z (hle a)) p
        have hvl : r.t = .vl → ∀ a, 0 < h a → sumOf own ρ' fs' a = 0 := fun et a z => by
          refine ow a z ?_
          rcases src.it with p | p
          · have tgr := src.tag
            generalize r.root = u at p tgr
            rw [p] at et
            cases u with
            | im => cases et
            | vl => exact tgr a (Nat.lt_of_lt_of_le z (hle a))
            | fr => exact ((tgr a).2 (Nat.lt_of_lt_of_le z (hle a))).1
            | tm j => cases et
          · rw [p] at et; cases et
        have nfr : r.t ≠ .fr := fun et => by
          rcases src.it with p | p
          · rw [p] at et
            generalize r.root = u at et
            cases u <;> cases et
          · rw [p] at et; cases et
        have tS : TagS B ρ' fs' r.t h := by
          generalize et : r.t = u
          cases u with
          | im => exact him et
          | vl => exact hvl et
          | fr => exact absurd et nfr
          | tm j => trivial
        refine ⟨r.t, ρ', fs', r.ds[i], h, ρ2, s2.st, rx, tS, fun a z => src.prov a (Nat.lt_of_lt_of_le z (hle a)), eb, fun σ3 fs3 bp bv off => ?_⟩
        have s3 := bind_step s2 rx (fun et => absurd et nfr) him hvl eb bp bv
        refine ⟨ρ2, fs3, bp.st, ?_⟩
        dsimp only at q
        cases ex : exs G C b ρ2 with
        | no => rw [ex] at q; exact q.elim
        | ex c ρ3 =>
          rw [ex] at q
          exact fun σ4 H4 fs4 s4 => q σ4 H4 fs4 (unlock_step st1 eL (s3.trans s4))
        | ok fl ρ3 =>
          rw [ex] at q
          cases fl with
          | nx => exact fun σ4 H4 fs4 s4 => ⟨by omega, hlt, ρ3, fs4, s3.trans s4, q⟩
          | ct => exact fun σ4 H4 fs4 s4 => ⟨by omega, hlt, ρ3, fs4, s3.trans s4, q⟩
          | bk => exact fun σ4 H4 fs4 s4 => q σ4 H4 fs4 (open_step st1 eL (s3.trans s4)).1
          | rt v =>
            intro σ4 x4 H4 f4 fs4 s4 r4 t4 p4
            obtain ⟨o1, o2⟩ := open_step st1 eL (s3.trans s4)
            refine q σ4 x4 H4 f4 fs4 o1 r4 ?_ p4
            generalize v.t = vt at t4
            cases vt with
            | im => exact t4
            | vl => exact fun a z => (o2 a).trans (t4 a z)
            | fr => exact fun a => ⟨(t4 a).1, fun z => ⟨(o2 a).trans ((t4 a).2 z).1, ((t4 a).2 z).2⟩⟩
            | tm j => exact t4
    · left
      have e0 : i = r.ds.length := by omega
      subst e0
      refine ⟨src.stop H' kp, ?_⟩
      rw [List.drop_length] at q
      exact q σ' H' fs' (open_step st1 eL s).1
/-- a name's own store -/
theorem gB_nm {i : Nat} {o : Bool} {v : V} {σ : St} {H : Hp} {Q : St → Hp → Prop} (q : gB B (.nm i o) v σ H Q) : Q (σ.set i (some v)) H := by
  obtain ⟨t, ρ, fs, d, f, ρ', st, r, ts, pv, e, q⟩ := q
  unfold bindT at e
  split at e
  · rename_i fr
    obtain ⟨s, e1, rfl⟩ := Option.map_eq_some_iff.mp e
    obtain ⟨b, b2⟩ := slot_ok st fr e1 r ts pv
    exact q _ _ b b2 ⟨⟨List.length_set, List.length_set, List.length_set⟩, fun j hj => by
          have ne : i ≠ j := fun q => hj (by simp [TG.slots, q])
          exact ⟨List.getElem?_set_ne ne, List.getElem?_set_ne ne, List.getElem?_set_ne ne⟩⟩
  · cases e
end
end Ev
end

section
set_option Elab.async false
set_option linter.all false
set_option maxRecDepth 100000
set_option maxHeartbeats 1000000
/-! x[k] = v, x.append(v), a, b = v, w. -/
namespace Ev
open PySem L2
section
variable {B : Bs} {σ σ1 : St} {H H1 H' : Hp} {ρ ρ1 : En} {fs fs1 : List FP}
/-- the thing in an owned slot is changed in place; what is put in comes from nobody's -/
theorem chg_str {i : Nat} {t : ST} {d d' : D} {f f' : FP} {x : V} {p : Addr} (st : StR B σ H ρ fs) (e : ρ[i]? = some (some ⟨t, d⟩)) (ef : fs[i]? = some f) (hs : σ[i]? = some (some x)) (ht : chg t = true) (hp : 0 < f p)
    (up : ∀ a, a ≠ p → H' a = H a) (lp : H' p ≠ none) (r : Rep B.P B.w B.K H' x d' f') (le : ∀ a, f' a ≤ 1) (frm : ∀ a, 0 < f' a → 0 < f a ∨ (sumOf own ρ fs a = 0 ∧ sumOf frz ρ fs a = 0 ∧ (B.H0 a = none ∨ 0 < B.M0 a))) (pv : ∀ a, 0 < f' a → B.H0 a = none ∨ B.A0 a) :
    StR B σ H' (ρ.set i (some ⟨t, d'⟩)) (fs.set i f') ∧ (∀ a, sumOf own (ρ.set i (some ⟨t, d'⟩)) (fs.set i f') a + f a = sumOf own ρ fs a + f' a) ∧ (∀ a, f a ≤ sumOf own ρ fs a) ∧ ∀ {j : Nat} {d0 : D} {g : FP}, ρ[j]? = some (some ⟨.lk, d0⟩) → fs[j]? = some g → g p = 0 := by
  have S := fun q a => sum_set q ρ fs i (some ⟨t, d⟩) (some ⟨t, d'⟩) f f' e ef a
  have to : own t = true := own_of_chg ht
  have co : ∀ (d : D) (f : FP) a, ctr own (some ⟨t, d⟩) f a = f a := fun d f a => by show (if own t = true then f else fz) a = f a; rw [if_pos to]
  have cf : ∀ (d : D) (f : FP) a, ctr frz (some ⟨t, d⟩) f a = 0 := fun d f a => by show (if frz t = true then f else fz) a = 0; rw [own_frz to]; rfl
  have fo : ∀ a, f a ≤ sumOf own ρ fs a := fun a => by have := sum_ge own e ef a; rw [co] at this; exact this
  have So : ∀ a, sumOf own (ρ.set i (some ⟨t, d'⟩)) (fs.set i f') a + f a = sumOf own ρ fs a + f' a := fun a => by
    have := S own a
    rw [co, co] at this
    exact this
  have other : ∀ {j : Nat} {s : Option SV} {g : FP}, j ≠ i → ρ[j]? = some s → fs[j]? = some g → ∀ {o : Option V}, Slot B H s o g → ∀ a, 0 < g a → f a = 0 := fun {j s g} ne e1 e2 {o} sl a z => by
    refine Nat.eq_zero_of_not_pos fun y => ?_
    cases sl with
    | nul => exact Nat.lt_irrefl _ z
    | @val u d0 v0 _ r0 him =>
      by_cases c : own u = true
      · have h2 := sum_two own (Ne.symm ne) e ef e1 e2 a
        rw [co] at h2
        have h3 : ctr own (some ⟨u, d0⟩) g a = g a := by show (if own u = true then g else fz) a = g a; rw [if_pos c]
        have := st.m1 a
        omega
      · have h1 := fo a
        have h2 := st.mn a (by omega)
        cases u with
        | im => rw [him rfl] at z; exact Nat.lt_irrefl _ z
        | vl =>
          have h3 : g a ≤ sumOf frz ρ fs a := sum_ge frz e1 e2 a
          omega
        | mu => exact c rfl
        | rf => exact c rfl
        | lk => exact c rfl
  refine ⟨⟨?_, fun a => ?_, fun a z => ?_, fun a o h z => ?_, fun a h => ?_, fun g hg a z => ?_, fun a z => ?_⟩, So, fo, fun {j d0 g} e1 e2 => ?_⟩
  · refine Slots.of (by rw [List.length_set]; exact st.sl.len.1) (by rw [List.length_set]; exact st.sl.len.2) fun j s ej => ?_
    by_cases c : i = j
    · subst c
      rw [List.getElem?_set_self (List.getElem?_eq_some_iff.mp e).1] at ej
      cases ej
      exact ⟨_, f', hs, List.getElem?_set_self (List.getElem?_eq_some_iff.mp ef).1, .val r fun q => by subst q; cases ht⟩
    · rw [List.getElem?_set_ne c] at ej
      obtain ⟨o, g, e1, e2, sl⟩ := st.sl.get ej
      refine ⟨o, g, e1, by rw [List.getElem?_set_ne c]; exact e2, sl.kept fun a u h z => ?_⟩
      rw [up a fun q => ?_]
      · exact h
      · subst q
        rcases z with z | z
        · have := other (Ne.symm c) ej e2 sl a z; omega
        · obtain ⟨u2, e3, w2⟩ := st.sl.there own a (Nat.lt_of_lt_of_le hp (fo a))
          rw [h] at e3; cases e3
          exact z w2
  · have h1 := So a
    have h2 := st.m1 a
    have h3 := le a
    by_cases c : 0 < f' a
    · rcases frm a c with q | q
      · omega
      · omega
    · omega
  · have h1 := So a
    have h2 := S frz a
    rw [cf, cf] at h2
    by_cases c : 0 < sumOf own ρ fs a
    · have := st.mn a c; omega
    · rcases frm a (by omega) with q | q
      · have := fo a; omega
      · omega
  · have h1 := st.b1 a o h z
    rw [up a fun q => ?_]
    · exact h1
    · subst q
      rcases st.b4 a (Nat.lt_of_lt_of_le hp (fo a)) with q | q
      · rw [h] at q; cases q
      · omega
  · by_cases q : a = p
    · subst q; exact lp
    · rw [up a q]; exact st.b2 a h
  · rcases List.mem_or_eq_of_mem_set hg with hg | rfl
    · exact st.b3 g hg a z
    · exact pv a z
  · have h1 := So a
    by_cases c : 0 < sumOf own ρ fs a
    · exact st.b4 a c
    · rcases frm a (by omega) with q | q
      · have := fo a; omega
      · exact q.2.2
  · have ne : j ≠ i := fun q => by
      subst q
      rw [e] at e1
      cases e1
      cases ht
    obtain ⟨o, g', e3, e4, sl⟩ := st.sl.get e1
    rw [e2] at e4; cases e4
    refine Nat.eq_zero_of_not_pos fun z => ?_
    have := other ne e1 e2 sl p z
    omega
/-- from the statement's start -/
theorem chg_stepS {i : Nat} {t : ST} {d' : D} {f f' fv : FP} {p : Addr} (st : StR B σ H ρ fs) (s : StepS B σ H ρ fs σ H1 ρ1 fs1) (ht : chg t = true) {d : D} (e : ρ1[i]? = some (some ⟨t, d⟩)) (hp : 0 < f p) (fo : ∀ a, f a ≤ sumOf own ρ1 fs1 a)
    (up : ∀ a, a ≠ p → H' a = H1 a) (lp : H' p ≠ none) (st' : StR B σ H' (ρ1.set i (some ⟨t, d'⟩)) (fs1.set i f')) (So : ∀ a, sumOf own (ρ1.set i (some ⟨t, d'⟩)) (fs1.set i f') a + f a = sumOf own ρ1 fs1 a + f' a) (le : ∀ a, 0 < f' a → 0 < f a ∨ 0 < fv a) (hv : ∀ a, 0 < fv a → H a = none ∨ 0 < sumOf own ρ fs a)
    (lkp : ∀ {j : Nat} {d0 : D} {g : FP}, ρ1[j]? = some (some ⟨.lk, d0⟩) → fs1[j]? = some g → g p = 0) : StepS B σ H ρ fs σ H' (ρ1.set i (some ⟨t, d'⟩)) (fs1.set i f') where
  st := st'
  keep := fun a o h z => by
    have h1 := s.keep a o h z
    rw [up a fun q => ?_]
    · exact h1
    · subst q
      rcases z with z | ⟨j, d0, g, e1, e2, e3⟩
      · rcases s.own a (Nat.lt_of_lt_of_le hp (fo a)) with q | q
        · omega
        · rw [h] at q; cases q
      · obtain ⟨k1, k2, k3⟩ := s.lk j d0 e1
        have := lkp k1 (k2.trans e2)
        omega
  live := fun a h => by
    by_cases q : a = p
    · subst q; exact lp
    · rw [up a q]; exact s.live a h
  own := fun a z => by
    have h1 := So a
    by_cases c : 0 < sumOf own ρ1 fs1 a
    · exact s.own a c
    · rcases le a (by omega) with q | q
      · have := fo a; omega
      · exact (hv a q).symm
  lk := fun j d0 ej => by
    obtain ⟨k1, k2, k3⟩ := s.lk j d0 ej
    have ne : i ≠ j := fun q => by
      subst q
      rw [e] at k1
      cases k1
      cases ht
    exact ⟨by rw [List.getElem?_set_ne ne]; exact k1, by rw [List.getElem?_set_ne ne]; exact k2, k3⟩
  rf := fun j d0 ej => by
    by_cases q : i = j
    · subst q
      rw [List.getElem?_set_self (List.getElem?_eq_some_iff.mp e).1] at ej
      cases ej
      exact s.rf i d e
    · rw [List.getElem?_set_ne q] at ej
      exact s.rf j d0 ej
/-- what may be put into an owned thing -/
theorem store_fp {v : RV} {x : V} {f : FP} {H2 : Hp} (r : Rep B.P B.w B.K H2 x v.d f) (tg : TagOk H ρ fs ρ1 fs1 v.t f) (h : storeT v = true) : ∀ a, f a ≤ 1 ∧ (0 < f a → sumOf own ρ1 fs1 a = 0 ∧ sumOf frz ρ1 fs1 a = 0 ∧ (H a = none ∨ 0 < sumOf own ρ fs a)) := by
  have z : ∀ {a : Addr}, f = fz → f a ≤ 1 ∧ (0 < f a → sumOf own ρ1 fs1 a = 0 ∧ sumOf frz ρ1 fs1 a = 0 ∧ (H a = none ∨ 0 < sumOf own ρ fs a)) := fun {a} e => by
    subst e
    exact ⟨Nat.zero_le _, fun z => absurd z (Nat.lt_irrefl _)⟩
  intro a
  unfold storeT at h
  split at h
  · rename_i et
    rw [et] at tg
    exact z tg
  · rename_i et
    rw [et] at tg
    exact tg a
  · exact z (r.imm h)
end
end Ev
end

section
set_option Elab.async false
set_option linter.all false
set_option maxRecDepth 100000
set_option maxHeartbeats 1000000
/-! x[k] = v, x.append(v). -/
namespace Ev
open PySem L2
theorem R.bind_assoc {α β γ : Type} {r : R α} {f : α → En → R β} {h : β → En → R γ} : (r.bind f).bind h = r.bind fun a ρ => (f a ρ).bind h := by cases r <;> rfl
mutual
theorem keyed_imm : ∀ {n : Nat} {d : D}, d.keyed n = true → d.imm = true
  | _, .non, _ => rfl
  | _, .bl _, _ => rfl
  | _, .int _, _ => rfl
  | _, .str _, _ => rfl
  | n, .tup ds, h => by
    have h' : keyedAll n ds = true := by simpa [D.keyed] using h
    simp only [D.imm]
    exact keyedAll_imm h'
  | _, .lst _, h => by simp [D.keyed] at h
  | _, .dic _ _, h => by simp [D.keyed] at h
  | _, .ins _ _ _, h => by simp [D.keyed] at h
  | _, .scr _, h => by simp [D.keyed] at h
  | _, .opq _, h => by simp [D.keyed] at h
theorem keyedAll_imm : ∀ {n : Nat} {ds : List D}, keyedAll n ds = true → immAll ds = true
  | _, [], _ => by simp [immAll]
  | 0, _ :: _, h => by simp [keyedAll] at h
  | n + 1, d :: ds, h => by
    have h' : d.keyed n = true ∧ keyedAll (n + 1) ds = true := by simpa [keyedAll] using h
    simp [immAll, keyed_imm h'.1, keyedAll_imm h'.2]
end
theorem setPath_one {v k d d' : D} (h : setPath v [k] d = some d') : (∃ n ds j, k = .int n ∧ d = .lst ds ∧ ixN ds.length n = some j ∧ d' = .lst (ds.set j v)) ∨ (∃ ks vs, d = .dic ks vs ∧ keyFit k ks = true ∧ ks.length < big ∧ d' = .dic (dicPut k v ks vs).1 (dicPut k v ks vs).2) := by
  cases d with
  | lst ds =>
    cases k with
    | int n =>
      have h' : (ixN ds.length n).map (fun j => D.lst (ds.set j v)) = some d' := by simpa [setPath] using h
      obtain ⟨j, e1, e2⟩ := Option.map_eq_some_iff.mp h'
      exact .inl ⟨n, ds, j, rfl, rfl, e1, e2.symm⟩
    | _ => simp [setPath] at h
  | dic ks vs =>
    have h' : (if (keyFit k ks && decide (ks.length < big)) = true then some (D.dic (dicPut k v ks vs).1 (dicPut k v ks vs).2) else none) = some d' := by
      cases k <;> simpa [setPath] using h
    split at h'
    · rename_i c
      obtain ⟨c1, c2⟩ := Bool.and_eq_true_iff.mp c
      exact .inr ⟨ks, vs, rfl, c1, of_decide_eq_true c2, (Option.some.inj h').symm⟩
    · cases h'
  | tup ds =>
    cases k with
    | int n =>
      exfalso
      simp [setPath] at h
    | _ => simp [setPath] at h
  | _ => cases k <;> simp [setPath] at h
theorem chgE_some {i : Nat} {f : D → Option D} {ρ ρ' : En} (h : chgE i f ρ = some ρ') : ∃ t d d', ρ[i]? = some (some ⟨t, d⟩) ∧ chg t = true ∧ f d = some d' ∧ ρ' = ρ.set i (some ⟨t, d'⟩) := by
  unfold chgE at h
  split at h
  · rename_i d e
    obtain ⟨d', e1, e2⟩ := Option.map_eq_some_iff.mp h
    exact ⟨.mu, d, d', at_some e, rfl, e1, e2.symm⟩
  · rename_i d e
    obtain ⟨d', e1, e2⟩ := Option.map_eq_some_iff.mp h
    exact ⟨.rf, d, d', at_some e, rfl, e1, e2.symm⟩
  · cases h
theorem ixN_lt {n : Nat} {k : Int} {j : Nat} (h : ixN n k = some j) : j < n := (ixN_seq h).2.1
theorem RunS.ite {exV : Nat → Value} {B : Bs} {W : WX} {E : Ends} {σ : St} {H : Hp} {ρ : En} {fs : List FP} {c : Bool} {r : R Flow} (h : RunS exV B W E σ H ρ fs (if c = true then r else .no)) : c = true ∧ RunS exV B W E σ H ρ fs r := by
  by_cases q : c = true
  · rw [if_pos q] at h; exact ⟨q, h⟩
  · rw [if_neg q] at h; exact h.elim
section
variable {I : Info} {G : Tab} {C : Nat → Option D} {exV : Nat → Value} {B : Bs} {k : Nat} {sc : Scope} {W : WX} {X : Cx} {pos : Pos}
/-- an owned thing with a part more -/
theorem part_ok {σ : St} {H H1 H3 : Hp} {ρ ρ1 : En} {fs fs1 : List FP} {i : Nat} {t : ST} {d d' : D} {f f' fv old : FP} {x : V} {p : Addr} {E : Ends} (st : StR B σ H ρ fs) (s : StepS B σ H ρ fs σ H1 ρ1 fs1) (ei : ρ1[i]? = some (some ⟨t, d⟩)) (ct : chg t = true) (ef : fs1[i]? = some f) (eo : σ[i]? = some (some x)) (hp : 0 < f p)
    (hv : ∀ a, fv a ≤ 1 ∧ (0 < fv a → sumOf own ρ1 fs1 a = 0 ∧ sumOf frz ρ1 fs1 a = 0 ∧ (H a = none ∨ 0 < sumOf own ρ fs a))) (pv : ∀ a, 0 < fv a → B.H0 a = none ∨ B.A0 a)
    (up : ∀ a, a ≠ p → H3 a = H1 a) (lp : H3 p ≠ none) (r : Rep B.P B.w B.K H3 x d' f') (le : ∀ a, f' a + old a = f a + fv a) (q : RunS exV B W E σ H ρ fs (.ok .nx (ρ1.set i (some ⟨t, d'⟩)))) : E.nx σ H3 := by
  have fo : ∀ a, f a ≤ sumOf own ρ1 fs1 a := fun a => by
    have := sum_ge own ei ef a
    have c : ctr own (some ⟨t, d⟩) f a = f a := by show (if own t = true then f else fz) a = f a; rw [if_pos (own_of_chg ct)]
    omega
  have sp : ∀ a, 0 < f' a → 0 < f a ∨ 0 < fv a := fun a z => by have := le a; omega
  obtain ⟨st', So, _, lkp⟩ := chg_str (B := B) s.st ei ef eo ct hp up lp r (fun a => by
    have h1 := le a
    have h2 := fo a
    have h3 := s.st.m1 a
    have h4 := (hv a).1
    by_cases c : 0 < fv a
    · have := ((hv a).2 c).1; omega
    · omega) (fun a z => by
    rcases sp a z with q | q
    · exact .inl q
    · obtain ⟨h1, h2, h3⟩ := (hv a).2 q
      refine .inr ⟨h1, h2, ?_⟩
      rcases h3 with h3 | h3
      · exact .inl (st.b2' h3)
      · exact st.b4 a h3) (fun a z => by
    rcases sp a z with q | q
    · exact s.st.b3 f (List.mem_of_getElem? ef) a q
    · exact pv a q)
  exact q σ H3 _ (chg_stepS (fv := fv) st s ct ei hp fo up lp st' So sp (fun a z => ((hv a).2 z).2.2) lkp)
theorem app_rd (K : PySem.W.Frag) {i : Nat} {e : ME} {E : Ends} {σ : St} {H : Hp} (q : tExc G C exV B W (.app i .nil e) E σ H) : tDrop (tBM K "list" rAppend (tVar i) (tEvs G C exV B W (.cons e .nil))) E σ H := by
  obtain ⟨ρ, fs, st, q⟩ := q
  unfold exc at q
  obtain ⟨c, q⟩ := RunS.ite q
  · simp only [Bool.and_eq_true] at c
    obtain ⟨⟨c1, c2⟩, c3⟩ := c
    unfold evs at q
    have q : RunS exV B W E σ H ρ fs ((ev G C e ρ).bind fun v ρ'' => if storeT v then (match chgE i (appPath v.d []) ρ'' with
      | some ρ3 => .ok .nx ρ3
      | none => .no) else .no) := q
    -- the list stands ahead
    have l0 : ∃ a vs, σ[i]? = some (some (.ref a)) ∧ H a = some (.lst vs) := by
      unfold lstAt at c1
      split at c1
      · rename_i t ds ea
        obtain ⟨o, f, eo, ef, sl⟩ := st.sl.get (at_some ea)
        cases sl with
        | val r _ =>
          obtain ⟨a, vs, g, rfl, hh, _, _⟩ := lst_inv r
          exact ⟨a, vs, eo, hh⟩
      · cases c1
    obtain ⟨a, vs0, eo, hh0⟩ := l0
    refine ⟨_, eo, .inl ⟨rfl, vs0, .inl (.inl hh0)⟩, ?_⟩
    refine ⟨ρ, fs, st, ?_⟩
    unfold evs
    have qb := RunS.bind st q
    have key : RunR exV B W σ H ρ fs (ev G C e ρ) fun v ρ1 => ∀ xv H1 f1 fs1, PostE B σ H ρ fs e.pure e.slot? v xv H1 f1 ρ1 fs1 → rAppend (.ref a) [xv] H1 (fun _ H1 => E.nx σ H1) := qb.mono fun v ρ1 q xv H1 f1 fs1 P => by
      have s := P.stp.toS st
      split at q
      · rename_i hst
        split at q
        · rename_i ρ3 e3
          obtain ⟨t, d, d', ei, ct, ed, rfl⟩ := chgE_some e3
          obtain ⟨o, f, eo2, ef, sl⟩ := P.stp.st.sl.get ei
          rw [eo] at eo2
          cases eo2
          cases sl with
          | val r him =>
            have hd : ∃ ds, d = .lst ds ∧ ds.length < big ∧ d' = .lst (ds ++ [v.d]) := by
              cases d with
              | lst ds =>
                have ed' : (if ds.length < big then some (D.lst (ds ++ [v.d])) else none) = some d' := by simpa [appPath] using ed
                split at ed'
                · exact ⟨ds, rfl, by assumption, (Option.some.inj ed').symm⟩
                · cases ed'
              | _ => simp [appPath] at ed
            obtain ⟨ds, rfl, hlen, rfl⟩ := hd
            obtain ⟨a', vs, g1, ea, hh, l1, rfl⟩ := lst_inv r
            cases ea
            have hv := store_fp P.rep P.tag hst
            have fo : fa (Ev.fs a) g1 a ≤ sumOf own ρ1 fs1 a := by
              have := sum_ge own ei ef a
              have c : ctr own (some ⟨t, .lst ds⟩) (fa (Ev.fs a) g1) a = fa (Ev.fs a) g1 a := by show (if own t = true then _ else fz) a = _; rw [if_pos (own_of_chg ct)]
              omega
            have fa1 : fa (Ev.fs a) g1 a = 1 + g1 a := by show Ev.fs a a + g1 a = _; rw [fs_self]
            have m1 := P.stp.st.m1 a
            have f1a : f1 a = 0 := Nat.eq_zero_of_not_pos fun z => by
              have := ((hv a).2 z).1
              omega
            have up : ∀ b, b ≠ a → (upd H1 a (.lst (vs ++ [xv]))) b = H1 b := fun b n => upd_ne n
            have rr : Rep B.P B.w B.K (upd H1 a (.lst (vs ++ [xv]))) (.ref a) (.lst (ds ++ [v.d])) (fa (Ev.fs a) (fa g1 (fa f1 fz))) :=
              .lst upd_same ((l1.append (.cons P.rep .nil)).kept (kept_upd hh trivial (by show g1 a + (f1 a + 0) = 0; omega)))
            refine ⟨a, vs, xv, rfl, rfl, hh, by rw [l1.length, ← big_eq]; exact hlen, ?_⟩
            refine part_ok (old := fz) st s ei ct ef eo (by omega) hv P.prov up (by rw [upd_same]; exact fun z => nomatch z) rr (fun b => ?_) q
            show Ev.fs a b + (g1 b + (f1 b + 0)) + 0 = Ev.fs a b + g1 b + f1 b
            omega
        · exact q.elim
      · exact q.elim
    cases ev_ : ev G C e ρ with
    | no => rw [ev_] at key; exact key
    | ex c ρ' => rw [ev_] at key; exact key
    | ok v ρ1 =>
      rw [ev_] at key
      show RunR exV B W σ H ρ fs (if waits v.t true = true then (evs G C .nil ρ1).bind fun vs ρ'' => .ok (v :: vs) ρ'' else .no) _
      have hw : waits v.t true = true := by cases v.t <;> rfl
      rw [if_pos hw]
      unfold evs
      intro xs H1 gs fs1 A
      obtain ⟨S, reps, ap, vr⟩ := A
      cases reps with
      | @cons xv _ f0 _ _ _ a1 a2 a3 a4 =>
        cases a4
        have hvr : ∀ j, e.slot? = some j → σ[j]? = some (some xv) := by
          cases vr with
          | cons h _ => exact h
        refine key _ H1 _ fs1 ⟨S.weak fun z => ?_, a1, a2, a3, hvr⟩
        show (e.pure && true) = true
        rw [z]; rfl
theorem ok_app (g : GdS I G C exV B k sc W X) {i : Nat} {x : Str} {e : ME} {y : Expr} {p ap cp : Pos} (h : slotB I sc i x = true) (hline : (ap.endLine == cp.line) = true) (hy : chk I sc sc e y = true) (he : PE X y (tEv G C exV B W e)) :
    PS X (.Expr (.Call (.Attribute (.Name x p) "append" ap) [y] [] cp) pos) (tExc G C exV B W (.app i .nil e)) := by
  obtain ⟨h1, h2, h3, h4⟩ := slot_vis g.g h
  have hs : starEach [y] X.env = [(false, eval y X.env)] := chk_plain hy [] X.env
  have pb := pe_bm (X := X) F.plainAttrs_list F.slot_list_append F.type_list_append mt_append (pe_var (pos := p) h1 h2 h3 h4) (ok_cons (G := G) (C := C) (exV := exV) (B := B) (W := W) hy he ok_nil) (base_plain rfl _) (by rw [hs]; rfl) hline hs (by rfl)
  exact PS.weak (ps_expr pb (by rfl)) fun E σ H q => app_rd _ q
theorem ok_set (g : GdS I G C exV B k sc W X) {i : Nat} {x : Str} {ky e : ME} {y z : Expr} {p tp : Pos} (h : slotB I sc i x = true) (hk : ky.pure = true) (hy : chk I sc sc ky y = true) (hky : PE X y (tEv G C exV B W ky)) (he : PE X z (tEv G C exV B W e)) :
    PS X (.Assign [.Subscript (.Name x p) y tp] z pos) (tExc G C exV B W (.set i (.cons ky .nil) e)) := by
  obtain ⟨h1, h2, h3, h4⟩ := slot_vis g.g h
  have hset : PSet X (fun o i v H Q => rSetL o i v H Q ∨ rPutDic (X.prog, X.w, X.K) o i v H Q) := fun pins s σ H o i v ov iv u Q I ro ri rv q => by
    rcases q with q | q
    · exact set_list pins s σ H o i v ov iv u Q I ro ri rv q
    · exact put_dic (by have := g.g.room.un; omega) pins s σ H o i v ov iv u Q I ro ri rv q
  have base := ps_asg (pos := pos) he (pg_sub (pos := tp) (pe_var (pos := p) h1 h2 h3 h4) hky hset (by intro v; cases y <;> first | rfl | (exfalso; cases ky <;> simp [chk] at hy))) (by cases z <;> rfl) (by cases z <;> rfl) (by rfl)
  refine PS.weak base fun E σ H q => ?_
  obtain ⟨ρ, fs, st, q⟩ := q
  unfold exc at q
  refine s_e st q fun v ρ1 xv H1 f1 fs1 P s q => ?_
  obtain ⟨c, q⟩ := RunS.ite q
  simp only [Bool.and_eq_true] at c
  obtain ⟨⟨hst, _⟩, hso⟩ := c
  unfold evs at q
  rw [R.bind_assoc] at q
  have st1 := P.stp.st
  -- the slot stands already
  have hv := store_fp P.rep P.tag hst
  have q1 := RunS.bind st1 (RunS.later q s)
  -- the key
  have kk : RunR exV B W σ H1 ρ1 fs1 (ev G C ky ρ1) fun kv ρ2 => ∃ t d d', ρ2[i]? = some (some ⟨t, d⟩) ∧ chg t = true ∧ setPath v.d [kv.d] d = some d' ∧ (ρ2 = ρ1 → RunS exV B W E σ H ρ fs (.ok .nx (ρ1.set i (some ⟨t, d'⟩)))) := by
    have q0 := RunS.bind st1 (RunS.later q s)
    cases ev_ : ev G C ky ρ1 with
    | no => rw [ev_] at q0; exact q0
    | ex c ρ' => rw [ev_] at q0; exact q0
    | ok kv ρ2 =>
      rw [ev_] at q
      have q : RunS exV B W E σ H ρ fs ((if waits kv.t true = true then (evs G C .nil ρ2).bind fun vs ρ'' => .ok (kv :: vs) ρ'' else .no).bind fun ks ρ'' => match chgE i (setPath v.d (ks.map (·.d))) ρ'' with
        | some ρ3 => .ok .nx ρ3
        | none => .no) := q
      have hw : waits kv.t true = true := by cases kv.t <;> rfl
      rw [if_pos hw] at q
      unfold evs at q
      have q : RunS exV B W E σ H ρ fs (match chgE i (setPath v.d [kv.d]) ρ2 with
        | some ρ3 => .ok .nx ρ3
        | none => .no) := q
      split at q
      · rename_i ρ3 e3
        obtain ⟨t, d, d', ei, ct, ed, rfl⟩ := chgE_some e3
        exact ⟨t, d, d', ei, ct, ed, fun e => by rw [e] at q; exact q⟩
      · exact q.elim
  have so : ∃ o, σ[i]? = some (some o) := by
    cases ea : ρ1.at i with
    | none => rw [ea] at hso; cases hso
    | some s1 =>
      obtain ⟨o, f, e1, e2, sl⟩ := st1.sl.get (at_some ea)
      cases sl with
      | val r _ => exact ⟨_, e1⟩
  obtain ⟨o, eo⟩ := so
  refine ⟨o, eo, ρ1, fs1, st1, kk.mono fun kv ρ2 ⟨t, d, d', ei, ct, ed, q⟩ kx H2 fk fs2 P2 => ?_⟩
  obtain ⟨sm, e2, e3⟩ := P2.stp.pu hk
  subst e2 e3
  have q := q rfl
  have s2 := s.andSame sm
  obtain ⟨o', f, eo2, ef, sl⟩ := st1.sl.get ei
  rw [eo] at eo2
  cases eo2
  cases sl with
  | val r0 him =>
    have r := r0.kept (Same.kept sm f)
    have rv := P.rep.kept (Same.kept sm f1)
    have m1 := st1.m1
    have fo : ∀ a, f a ≤ sumOf own ρ2 fs2 a := fun a => by
      have := sum_ge own ei ef a
      have c : ctr own (some ⟨t, d⟩) f a = f a := by show (if own t = true then f else fz) a = f a; rw [if_pos (own_of_chg ct)]
      omega
    have clash : ∀ a, 0 < f a → f1 a = 0 := fun a z => Nat.eq_zero_of_not_pos fun y => by
      have := ((hv a).2 y).1
      have := fo a
      omega
    rcases setPath_one ed with ⟨n, ds, j, ek, rfl, hj, rfl⟩ | ⟨ks, vs, rfl, fit, hlen, rfl⟩
    · obtain ⟨a, ws, g1, rfl, hh, l1, rfl⟩ := lst_inv r
      have rk := P2.rep
      rw [ek] at rk
      cases rk
      have fa1 : fa (Ev.fs a) g1 a = 1 + g1 a := by show Ev.fs a a + g1 a = _; rw [fs_self]
      have f1a := clash a (by omega)
      have g1a : g1 a = 0 := by have := fo a; have := m1 a; omega
      obtain ⟨v0, old, e1, r1, le1, mk⟩ := l1.set (j := j) (List.getElem?_eq_getElem (ixN_lt hj))
      obtain ⟨f', l2, le2⟩ := mk xv v.d f1 rv
      have f'a : f' a = 0 := by have := le2 a; omega
      refine .inl ⟨a, ws, n, j, rfl, rfl, hh, by rw [l1.length]; exact hj, ?_⟩
      refine part_ok (old := old) (fv := f1) (f' := fa (Ev.fs a) f') st s2 ei ct ef eo (by omega) hv P.prov (fun b nb => upd_ne nb) (by rw [upd_same]; exact fun z => nomatch z) (.lst upd_same (l2.kept (kept_upd hh trivial f'a))) (fun b => ?_) q
      have := le2 b
      show Ev.fs a b + f' b + old b = Ev.fs a b + g1 b + f1 b
      omega
    · have ha : ∃ a, o = .ref a ∧ 0 < f a := by
        cases r with
        | dicT => exact ⟨_, rfl, fa_self⟩
        | dicL => exact ⟨_, rfl, fa_self⟩
      obtain ⟨a, rfl, fap⟩ := ha
      have ki : kv.d.imm = true := keyed_imm (Bool.and_eq_true_iff.mp fit).1
      refine .inr ⟨a, ks, vs, f, kv.d, v.d, fk, f1, rfl, ?_, ?_, fit, ki, hlen, ?_, by have := fo a; have := m1 a; omega, clash a fap, fun o' g' old ho r' ol le => ?_⟩
      · show Rep X.prog X.w X.K _ _ _ _
        rw [g.g.eP, g.g.ew, g.g.eK]; exact r
      · show Rep X.prog X.w X.K _ _ _ _
        rw [g.g.eP, g.g.ew, g.g.eK]; exact P2.rep
      · show Rep X.prog X.w X.K _ _ _ _
        rw [g.g.eP, g.g.ew, g.g.eK]; exact rv
      · have r'' : Rep X.prog X.w X.K (upd H2 a o') (.ref a) (.dic (dicPut kv.d v.d ks vs).1 (dicPut kv.d v.d ks vs).2) g' := r'
        rw [g.g.eP, g.g.ew, g.g.eK] at r''
        exact part_ok (old := old) (fv := f1) (f' := g') st s2 ei ct ef eo fap hv P.prov (fun b nb => upd_ne nb) (by rw [upd_same]; exact fun z => nomatch z) r'' le q
end
end Ev
end

section
set_option Elab.async false
set_option linter.all false
set_option maxRecDepth 100000
set_option maxHeartbeats 1000000
/-! e.replace of written texts: behind a written text that was given a name. -/
namespace Ev
open PySem L2 CwR
theorem PET.weak {X : Cx} {e : Expr} {t t' : TE} (h : PET X e t) (q : ∀ σ H Q, t' σ H Q → t σ H Q) : PET X e t' := fun pins s σ H Q h0 I hq => h pins s σ H Q h0 I (q σ H Q hq)
theorem PAT.weak {X : Cx} {e : List Expr} {t t' : TA} (h : PAT X e t) (q : ∀ σ H Q, t' σ H Q → t σ H Q) : PAT X e t' := fun pos pins s σ H Q h0 I hq => h pos pins s σ H Q h0 I (q σ H Q hq)
theorem PST.weak {X : Cx} {e : Stmt} {t t' : TS} (h : PST X e t) (q : ∀ E σ H, t' E σ H → t E σ H) : PST X e t' := fun pins s σ H E h0 I hq => h pins s σ H E h0 I (q E σ H hq)
theorem PSsT.weak {X : Cx} {e : List Stmt} {t t' : TS} (h : PSsT X e t) (q : ∀ E σ H, t' E σ H → t E σ H) : PSsT X e t' := fun pins s σ H E h0 I hq => h pins s σ H E h0 I (q E σ H hq)
section
variable {X : Cx} {pos : Pos}
theorem pst_asg {tg e : Expr} {te : TE} {g : L2.TG} (he : PET X e te) (hg : PG X tg g) (hs : swapsWithSole [tg] e pos.line X.env = pure false := by rfl) (hw : swappedStores [tg] e X.env = pure none := by rfl)
    (h1 : (assignEach [tg] X.env).map (·.2) = [assign tg X.env] := by rfl) : PST X (.Assign [tg] e pos) (tAsg te g) := by
  intro pins s σ H D h0 I h
  refine wpAny_Assign_stores (thn (he pins s σ H _ h0 I h) fun v s1 ⟨x, H1, I1, r1, q1⟩ => ?_) hs hw
  rw [h1]
  exact thn (hg.run pins s1 σ H1 x v _ I1 r1 q1) fun _ s2 q => q
theorem pst_expr {e : Expr} {te : TE} (he : PET X e te) (hs : swapsWith e none pos.line X.env = pure false := by rfl) : PST X (.Expr e pos) (tDrop te) := by
  intro pins s σ H D h0 I h
  exact wpAny_Expr_any (thn (he pins s σ H _ h0 I h) fun v s1 ⟨x, H1, I1, r1, q1⟩ => ⟨σ, H1, I1, q1⟩) I.quiet hs
variable {o e : Expr} {es : List Expr} {to : TE} {t : TA} {name : Str} {apos cpos : Pos} {T id : String} {r : V → List V → Hp → VK → Prop}
theorem pet_bm (pa : PlainAttrs T) (slot : PySem.Slot T name id) (hty : typeOf (.builtin id) = pure (.type "method_descriptor")) (hm : MtM X id r) (ho : PE X o to) (ha : PAT X (e :: es) t)
    (hbase : attributeBase o name X.env (eval o X.env) = eval o X.env := by rfl)
    (hfew : ((backTo cpos (starEach (e :: es) X.env)).all (fun x => !x.1) && (backToKw cpos (keywordEach [] X.env)).all (fun x => x.1.isSome)
      && decide ((e :: es).length + ([] : List Keyword).length + (if ([] : List Keyword).isEmpty then 0 else 1) < 30)) = true := by rfl)
    (hline : (apos.endLine == cpos.line) = true := by rfl) (hs : starEach (e :: es) X.env = (false, eval e X.env) :: starEach es X.env := by rfl) (hplain : (backTo cpos (starEach es X.env)).any (·.1) = false := by rfl) :
    PET X (.Call (.Attribute o name apos) (e :: es) [] cpos) (tBM X.K T r to t) := by
  intro pins s σ H Q h0 I h
  refine wpAny_Call_method_late hbase hfew hline rfl (wpAny_mono (PySem.wpAny_toks (ho.run pins s σ H _ I h)) (fun v s1 q => ?_) fun _ _ z => z.2)
  obtain ⟨hk, x, H1, I1, r1, ty, q1⟩ := q
  obtain ⟨h1, h2⟩ := tyV_is I1 r1 ty
  refine ⟨T, id, pa, slot, hty, h1, h2, ?_⟩
  have hA := ha cpos pins s1 σ H1 _ (Nat.le_trans h0 hk) I1 q1
  rw [hs] at hA ⊢
  refine Calls.callWith_builtin (by show (false || (backTo cpos (starEach es X.env)).any (·.1)) = false; rw [hplain] <;> rfl) (Calls.evalArgs_plain ?_)
  exact thn hA fun us s2 ⟨vs, H2, I2, r2, q2⟩ => hm pins s2 σ H2 x vs v us Q I2 r1 r2 q2
end
section
variable {I : Info} {G : Tab} {C : Nat → Option D} {exV : Nat → Value} {B : Bs} {k : Nat} {sc : Scope} {W : WX} {X : Cx} {pos : Pos}
/-- e.replace -/
theorem rep1_ok (g : GdS I G C exV B k sc W X) {m : ME} {e : Expr} (h : rep1B I sc m e = true) (pe : ∀ (o : ME) {x : Expr}, chk I sc sc o x = true → PE X x (tEv G C exV B W o)) : PET X e (tEv G C exV B W m) ∧ (∀ es env, starEach (e :: es) env = (false, eval e env) :: starEach es env) := by
  unfold rep1B at h
  split at h
  · rename_i o y z x nm ap y' j1 p1 z' j2 p2 cp
    simp only [Bool.and_eq_true, decide_eq_true_eq, Bool.not_eq_true'] at h
    obtain ⟨⟨⟨⟨⟨⟨h1, h2⟩, h3⟩, h4⟩, h5⟩, h6⟩, h7⟩ := h
    subst h1 h2 h3
    refine ⟨PET.weak (pet_replC (pe o h7) h4 (by rfl) (base_plain h6 _) h5) fun σ H Q q => ?_, fun _ _ => rfl⟩
    obtain ⟨ρ, fs, st, q⟩ := q
    unfold ev at q
    refine then_e st q fun v ρ1 x H1 f fs1 P q => ?_
    obtain ⟨hw, q⟩ := q.ite
    obtain ⟨hw, hv⟩ := Bool.and_eq_true_iff.mp hw
    have ee : (evs G C (.cons (.lit (.str y)) (.cons (.lit (.str z)) .nil)) ρ1).bind (fun vs ρ'' => R.of ρ'' (mtD .replace v vs)) = R.of ρ1 (mtD .replace v [⟨.im, .str y⟩, ⟨.im, .str z⟩]) := rfl
    rw [ee] at q
    obtain ⟨r, e1, q⟩ := q.of
    have rp := P.rep
    obtain ⟨t, d⟩ := v
    cases d with
    | str a =>
      cases rp
      have e1 : (if (!(y == z) && decide (a.length + (a.length + 1) * z.length ≤ big)) = true then some (⟨.im, .str (Txt.replace a y z)⟩ : RV) else none) = some r := e1
      split at e1
      · rename_i c
        cases e1
        refine ⟨a, rfl, ?_, imm_end (P.stp.weak fun z => (Bool.and_eq_true_iff.mp z).1) q (.str _)⟩
        have := of_decide_eq_true (Bool.and_eq_true_iff.mp c).2
        rw [big_eq] at this
        exact this
      · cases e1
    | _ => exact absurd hv Bool.false_ne_true
  · cases h
theorem reps_ok (g : GdS I G C exV B k sc W X) (pe : ∀ (o : ME) {x : Expr}, chk I sc sc o x = true → PE X x (tEv G C exV B W o)) : ∀ {ms : MEs} {es : List Expr}, repsB I sc ms es = true → PAT X es (tEvs G C exV B W ms) ∧ ms.slots.length = es.length
  | .nil, [], h => ⟨PAT.weak pat_nil fun σ H Q q => by
      obtain ⟨ρ, fs, st, q⟩ := q
      unfold evs at q
      exact q [] H [] fs (PostA.nil st), rfl⟩
  | .nil, _ :: _, h => by simp [repsB] at h
  | .cons _ _, [], h => by simp [repsB] at h
  | .cons a as, e :: es, h => by
    have h' : rep1B I sc a e = true ∧ repsB I sc as es = true := by simpa [repsB] using h
    obtain ⟨p1, p2⟩ := rep1_ok g h'.1 pe
    obtain ⟨p3, p4⟩ := reps_ok g pe h'.2
    refine ⟨PAT.weak (pat_cons p1 p3 (p2 es X.env)) fun σ H Q q => ?_, by simp [MEs.slots, p4]⟩
    obtain ⟨ρ, fs, st, q⟩ := q
    unfold evs at q
    refine then_e st q fun v ρ1 x H1 f fs1 P q => ?_
    obtain ⟨hw, q⟩ := q.ite
    refine then_s P.stp.st q fun vs ρ2 xs H2 gs fs2 A q => ?_
    exact q (x :: xs) H2 (f :: gs) fs2 (PostA.cons P A hw)
theorem rep2_ok (g : GdS I G C exV B k sc W X) (pe : ∀ (o : ME) {x : Expr}, chk I sc sc o x = true → PE X x (tEv G C exV B W o)) {m : ME} {e : Expr} (h : rep2B I sc m e = true) : PET X e (tEv G C exV B W m) := by
  unfold rep2B at h
  split at h
  · rename_i as es pos
    obtain ⟨h1, h2⟩ := Bool.and_eq_true_iff.mp h
    have hb := of_decide_eq_true h2
    obtain ⟨p1, hl⟩ := reps_ok g pe h1
    refine PET.weak (pet_lst p1) fun σ H Q q => ?_
    obtain ⟨ρ, fs, st, q⟩ := q
    unfold ev at q
    refine then_s st q fun vs ρ1 xs H1 gs fs1 A q => ?_
    obtain ⟨r, e, q⟩ := q.of
    obtain ⟨t, e1, rfl⟩ := Option.map_eq_some_iff.mp e
    refine ⟨by rw [A.vr.len, hl, sizeLine_eq]; omega, fun p hp => ?_⟩
    exact Res.list A.stp.st A.stp.fr.live (res_args A q) A.reps.repL (sum_tag A.reps e1 A.ap) A.reps.prov p hp
  · cases h
theorem rep3_ok (g : GdS I G C exV B k sc W X) (pe : ∀ (o : ME) {x : Expr}, chk I sc sc o x = true → PE X x (tEv G C exV B W o)) {m : ME} {e : Expr} (h : rep3B I sc m e = true) : PET X e (tEv G C exV B W m) ∧ ∃ x op y p, e = .BinOp x op y p := by
  unfold rep3B at h
  split at h
  · rename_i o a b x op y pos
    simp only [Bool.and_eq_true] at h
    obtain ⟨⟨h1, h2⟩, h3⟩ := h
    refine ⟨?_, _, _, _, _, rfl⟩
    rw [op_of h1]
    refine PET.weak (pet_op (bin_rule o) (PET.of (pe a h2)) (rep2_ok g pe h3)) fun σ H Q q => ?_
    obtain ⟨ρ, fs, st, q⟩ := q
    unfold ev at q
    refine then_e st q fun v ρ1 x H1 f fs1 P q => ?_
    obtain ⟨hw, q⟩ := q.ite
    refine then_e P.stp.st q fun w ρ2 y H2 f2 fs2 P2 q => ?_
    obtain ⟨r, e, q⟩ := q.of
    obtain ⟨S, T⟩ := two_of P hw P2
    rw [g.g.eK]
    exact opD_ok T e (res_of S q)
  · cases h
theorem reS_ok (g : GdS I G C exV B k sc W X) (pe : ∀ (o : ME) {x : Expr}, chk I sc sc o x = true → PE X x (tEv G C exV B W o)) {m : MS} {s : Stmt} (h : repS I sc m s = true) : PST X s (tExc G C exV B W m) := by
  unfold repS at h
  split at h
  · rename_i i o e x p y pos
    obtain ⟨h1, h2⟩ := Bool.and_eq_true_iff.mp h
    obtain ⟨p1, x1, op, y1, q1, rfl⟩ := rep3_ok g pe h2
    refine PST.weak (pst_asg p1 ((tg_ok g.g (.nm i o)).1 (.Name x p) h1) (by rfl) (by rfl) (chkg_asg (rd := sc) h1)) fun E σ H q => ?_
    obtain ⟨ρ, fs, st, q⟩ := q
    unfold exc at q
    refine s_e st q fun v ρ1 x H1 f fs1 P s q => ?_
    split at q
    · rename_i ρ2 e
      exact store_val st P s e q
    · exact q.elim
  · rename_i i e x p nm ap y cp pos
    simp only [Bool.and_eq_true, decide_eq_true_eq] at h
    obtain ⟨⟨⟨h0, hline⟩, h⟩, hy⟩ := h
    subst h0
    obtain ⟨h1, h2, h3, h4⟩ := slot_vis g.g h
    obtain ⟨p1, p2⟩ := rep1_ok g hy pe
    have hs : starEach [y] X.env = [(false, eval y X.env)] := p2 [] X.env
    have pa : PAT X [y] (tEvs G C exV B W (.cons e .nil)) := by
      refine PAT.weak (pat_cons p1 pat_nil hs) fun σ H Q q => ?_
      obtain ⟨ρ, fs, st, q⟩ := q
      unfold evs at q
      refine then_e st q fun v ρ1 x H1 f fs1 P q => ?_
      obtain ⟨hw, q⟩ := q.ite
      have q' := q.bind
      unfold evs at q'
      exact q' [x] H1 [f] fs1 (PostA.cons P (PostA.nil P.stp.st) hw)
    have pb := pet_bm (X := X) F.plainAttrs_list F.slot_list_append F.type_list_append mt_append (pe_var (pos := p) h1 h2 h3 h4) pa (base_plain rfl _) (by rw [hs]; rfl) hline hs (by rfl)
    exact PST.weak (pst_expr pb (by rfl)) fun E σ H q => app_rd _ q
  · cases h
theorem litAsg_ok (g : GdS I G C exV B k sc W X) {m : MS} {ms : MSs} {s : Stmt} {ss : List Stmt} (h : litAsg I sc m s = true) (h2 : PSsT X ss (tExs G C exV B W ms)) : PSs X (s :: ss) (tExs G C exV B W (.cons m ms)) := by
  unfold litAsg at h
  split at h
  · rename_i i o c x p c' j q0 pos
    simp only [Bool.and_eq_true, decide_eq_true_eq] at h
    obtain ⟨⟨ht, e0⟩, hl⟩ := h
    subst e0
    have ht' := ht
    unfold chkg at ht'
    simp only [bslotB, Bool.and_eq_true, decide_eq_true_eq] at ht'
    have hl : X.env.scope.names.lookup x = some .local := by
      rw [g.g.esc]
      unfold lcl at hl
      split at hl
      · assumption
      · cases hl
    refine PSs.weak (pss_str (X := X) (i := i) (x := x) (c := c) (j := j) g.g.nd (by rw [g.g.eN]; exact ht'.1) (.inl hl) h2 (by rfl) (.inr hl)) fun E σ H q => ?_
    obtain ⟨ρ, fs, st, q⟩ := q
    unfold exs at q
    have q' : tExc G C exV B W (.asg (.nm i o) (.lit (.str c))) { E with nx := fun σ' H' => tExs G C exV B W ms E σ' H' } σ H := ⟨ρ, fs, st, RunS.seq q⟩
    obtain ⟨ρ, fs, st, q⟩ := q'
    unfold exc at q
    have q2 := s_e (Q := fun x H1 => gB B (.nm i o) x σ H1 (fun σ' H' => tExs G C exV B W ms E σ' H')) st q fun v ρ1 x H1 f fs1 P s q => by
      split at q
      · rename_i ρ2 e
        exact store_val st P s e q
      · exact q.elim
    obtain ⟨ρ, fs, st, q2⟩ := q2
    unfold ev at q2
    exact gB_nm (imm_end (Step.refl st) q2 (.str _))
  · cases h
theorem ok_sconsT {m : MS} {ms : MSs} {s : Stmt} {ss : List Stmt} (h1 : PST X s (tExc G C exV B W m)) (h2 : PSsT X ss (tExs G C exV B W ms)) : PSsT X (s :: ss) (tExs G C exV B W (.cons m ms)) := by
  refine PSsT.weak (psst_cons h1 h2) fun E σ H q => ?_
  obtain ⟨ρ, fs, st, q⟩ := q
  unfold exs at q
  exact ⟨ρ, fs, st, RunS.seq q⟩
end
end Ev
end

section
set_option Elab.async false
set_option linter.all false
set_option maxRecDepth 100000
set_option maxHeartbeats 1000000
/-! A part of a part is changed: x[k][j] = v in lists of lists; x[k].append(v) in dicts of lists, the keys tuples. -/
namespace Ev
open PySem L2
section
variable {P : Program} {w : World} {K : PySem.W.Frag} {H H3 : Hp} {p : Addr}
theorem RepL.upd_off (up : ∀ a, a ≠ p → H3 a = H a) (wp : ∃ o, H p = some o ∧ wr o) {vs : List V} {ds : List D} {f : FP} (h : RepL P w K H vs ds f) (z : f p = 0) : RepL P w K H3 vs ds f := h.kept fun a o e q => by
  rw [up a fun c => ?_]
  · exact e
  · subst c
    rcases q with q | q
    · omega
    · obtain ⟨o', e', w'⟩ := wp
      rw [e] at e'; cases e'
      exact q w'
theorem Rep.upd_off (up : ∀ a, a ≠ p → H3 a = H a) (wp : ∃ o, H p = some o ∧ wr o) {v : V} {d : D} {f : FP} (h : Rep P w K H v d f) (z : f p = 0) : Rep P w K H3 v d f := h.kept fun a o e q => by
  rw [up a fun c => ?_]
  · exact e
  · subst c
    rcases q with q | q
    · omega
    · obtain ⟨o', e', w'⟩ := wp
      rw [e] at e'; cases e'
      exact q w'
/-- the j-th item becomes d', its value the same -/
theorem RepL.upd_at (up : ∀ a, a ≠ p → H3 a = H a) (wp : ∃ o, H p = some o ∧ wr o) : ∀ {vs : List V} {ds : List D} {f : FP} {j : Nat} {d : D}, RepL P w K H vs ds f → f p ≤ 1 → ds[j]? = some d → ∃ v g, vs[j]? = some v ∧ Rep P w K H v d g ∧ (∀ a, g a ≤ f a) ∧
    ∀ d' g', 0 < g p → Rep P w K H3 v d' g' → ∃ f', RepL P w K H3 vs (ds.set j d') f' ∧ ∀ a, f' a + g a = f a + g' a
  | _, [], _, _, _, .nil, _, e => by simp at e
  | _, _ :: _, _, 0, _, .cons (f := f) (g := g) h1 h2, le, e => by
    simp at e; subst e
    refine ⟨_, f, rfl, h1, fun a => Nat.le_add_right _ _, fun d' g' hp r => ⟨_, .cons r (h2.upd_off up wp ?_), fun a => ?_⟩⟩
    · have le' : f p + g p ≤ 1 := le
      omega
    · show g' a + g a + f a = f a + g a + g' a
      omega
  | _, _ :: _, _, j + 1, _, .cons (f := f) (g := g) h1 h2, le, e => by
    have le' : f p + g p ≤ 1 := le
    obtain ⟨v, g0, e1, r, l, mk⟩ := RepL.upd_at up wp (j := j) h2 (by omega) (by simpa using e)
    refine ⟨v, g0, by simpa using e1, r, fun a => Nat.le_trans (l a) (Nat.le_add_left _ _), fun d' g' hp r' => ?_⟩
    obtain ⟨f', q1, q2⟩ := mk d' g' hp r'
    have := l p
    refine ⟨_, .cons (h1.upd_off up wp (by omega)) q1, fun a => ?_⟩
    have := q2 a
    show f a + f' a + g0 a = f a + g a + g' a
    omega
end
section
variable {X : Cx} {pins : List (Addr × Obj)} {σ : St} {H : Hp} {s : Shared}
/-- a dict of tuples in the heap -/
theorem tp_heap (I : Inv X pins σ H s) {a : Addr} {ob : Obj} {xs : List (NestedKey × Addr × Value)} {ks : List D} (h1 : H a = some (.ext (DE.phi X.prog X.w a (.tp ob xs)))) (h4 : xs.map (·.1) = ks.map D.nk) (h6 : keyedAll 8 ks = true)
    (h7 : RepL X.prog X.w X.K H (xs.map fun x => V.ref x.2.1) ks fz) : s.heap.DictOfH (nestedKind X.prog X.w) a xs := by
  obtain ⟨⟨es, ep, q1, q2, q3, q4, q5⟩, _, _⟩ := (show ObjOk X.prog X.w H s.heap a (.ext _) from I.hok a _ h1)
  refine ⟨ob, es, ep, q1, q2, q3, q4, fun x hx => ?_, q5⟩
  have key : ∀ (xs : List (NestedKey × Addr × Value)) (ks : List D), xs.map (·.1) = ks.map D.nk → keyedAll 8 ks = true → RepL X.prog X.w X.K H (xs.map fun x => V.ref x.2.1) ks fz → ∀ x ∈ xs, (nestedKind X.prog X.w).is s.heap x.1 x.2.1 := by
    intro xs
    induction xs with
    | nil => intro ks _ _ _ x hx; cases hx
    | cons x0 xs ih =>
      intro ks e1 e2 e3 x hx
      cases ks with
      | nil => simp at e1
      | cons k ks =>
        simp only [List.map_cons, List.cons.injEq] at e1
        have e2' : k.keyed 7 = true ∧ keyedAll 8 ks = true := by simpa [keyedAll] using e2
        obtain ⟨rr, rt⟩ := RepL.uncons0 e3
        rcases List.mem_cons.mp hx with rfl | hx
        · have z := key_is I rr e2'.1 (u := Value.ref x.2.1) rfl
          have dd := nk_depth k 7 e2'.1
          rw [← e1.1] at z dd
          exact ⟨z, dd⟩
        · exact ih ks e1.2 e2'.2 rt x hx
  exact key xs ks h4 h6 h7 x hx
/-- d[k], the very value that stands there -/
def rIxTp (B : Program × World × PySem.W.Frag) : R2 := fun x y H Q => ∃ a o xs ks vs k g j v0, x = .ref a ∧ H a = some (.ext (DE.phi B.1 B.2.1 a (.tp o xs))) ∧ xs.map (·.1) = ks.map D.nk ∧ keyedAll 8 ks = true ∧ RepL B.1 B.2.1 B.2.2 H (xs.map fun x => V.ref x.2.1) ks fz ∧ Vals vs (xs.map (·.2.2)) ∧
  Rep B.1 B.2.1 B.2.2 H y k g ∧ keyFit k ks = true ∧ k.isTup = true ∧ keyAt k ks = some j ∧ vs[j]? = some v0 ∧ Q v0 H
theorem ix_tp (hu : X.A.units + 16 < cLine) : IxR X (rIxTp (X.prog, X.w, X.K)) := by
  intro value slice pins s σ H x y v u Q I rx ry h hsub
  obtain ⟨a, o, xs, ks, vs, k, g, j, v0, rfl, h1, h4, h6, h7, h8, r1, fit, t, hj, hv, q⟩ := h
  have hm := tp_heap I h1 h4 h6 h7
  obtain ⟨b, rfl⟩ := tup_ref r1 t
  cases rx; cases ry
  obtain ⟨u0, e0, ru⟩ := h8.get hv
  have z := find_at D.nk k ks (xs.map (·.2.2)) (pairsH xs) (by rw [pairsH_fst]; exact h4) (pairsH_snd xs) (eqv_nk fit h6)
  rw [hj] at z
  have z' : valueAt (pairsH xs) k.nk = some u0 := z.trans e0
  rw [valueAt_pairsH] at z'
  obtain ⟨p, hp, hp2⟩ := Option.map_eq_some_iff.mp z'
  refine PyProof.Rows.tail_any hm.typeIs PySem.F.slot_dict_getitem.lookup (wpAny_getItem_heap (knd := nestedKind X.prog X.w) (by show X.A.units + 1 + 8 < cLine; omega) (nest_is I r1 (fit_keyed fit)) hm hp ?_) hsub
  rw [hp2]
  exact ⟨v0, H, I.tok _, ru, q⟩
end
theorem setTwo_some {v k1 k2 d d' : D} (h : setTwo v k1 k2 d = some d') : ∃ n ds j m cs i, k1 = .int n ∧ d = .lst ds ∧ ixN ds.length n = some j ∧ ds[j]? = some (.lst cs) ∧ k2 = .int m ∧ ixN cs.length m = some i ∧ d' = .lst (ds.set j (.lst (cs.set i v))) := by
  unfold setTwo at h
  split at h
  · split at h
    · obtain ⟨j, e1, e2⟩ := Option.bind_eq_some_iff.mp h
      split at e2
      · rename_i cs ec
        obtain ⟨i, e3, e4⟩ := Option.map_eq_some_iff.mp e2
        exact ⟨_, _, j, _, cs, i, rfl, rfl, e1, ec, rfl, e3, e4.symm⟩
      · cases e2
    · cases h
  · cases h
theorem appAt_some {v k d d' : D} (h : appAt v k d = some d') : ∃ ks vs j cs, d = .dic ks vs ∧ keyFit k ks = true ∧ k.isTup = true ∧ keyAt k ks = some j ∧ vs[j]? = some (.lst cs) ∧ cs.length < big ∧ d' = .dic ks (vs.set j (.lst (cs ++ [v]))) := by
  unfold appAt at h
  split at h
  · split at h
    · rename_i c
      obtain ⟨c1, c2⟩ := Bool.and_eq_true_iff.mp c
      obtain ⟨j, e1, e2⟩ := Option.bind_eq_some_iff.mp h
      split at e2
      · rename_i cs ec
        split at e2
        · exact ⟨_, _, j, cs, rfl, c1, c2, e1, ec, by assumption, (Option.some.inj e2).symm⟩
        · cases e2
      · cases e2
    · cases h
  · cases h
theorem atI_of {α : Type} {xs : List α} {n : Int} {j : Nat} {v : α} (h : ixN xs.length n = some j) (e : xs[j]? = some v) : L2.atI xs n = some v := by
  unfold L2.atI
  rw [h]
  exact e
theorem dic_inv {P : Program} {w : World} {K : PySem.W.Frag} {H : Hp} {x : V} {ks vs : List D} {f : FP} {k : D} {j : Nat} (r : Rep P w K H x (.dic ks vs) f) (fit : keyFit k ks = true) (t : k.isTup = true) (hj : keyAt k ks = some j) :
    ∃ (a : Addr) (ob : Obj) (xs : List (NestedKey × Addr × Value)) (ws : List V) (g1 : FP), x = .ref a ∧ f = fa (Ev.fs a) g1 ∧ H a = some (.ext (DE.phi P w a (.tp ob xs))) ∧ (a == sysModules) = false ∧ xs.length ≤ sizeLine ∧ xs.map (·.1) = ks.map D.nk ∧ ks.all D.isTup = true ∧ keyedAll 8 ks = true ∧
      RepL P w K H (xs.map fun x => V.ref x.2.1) ks fz ∧ Vals ws (xs.map (·.2.2)) ∧ RepL P w K H ws vs g1 := by
  cases r with
  | dicT h1 h2 h3 h4 h5 h6 h7 h8 h9 => exact ⟨_, _, _, _, _, rfl, rfl, h1, h2, h3, h4, h5, h6, h7, h8, h9⟩
  | @dicL a o xs ks ds vs f h1 h2 h3 h4 h5 h6 h7 h8 =>
    have z : ks = [] := all_eq_nil (b := true) (fun k' hk => (fit_tup fit k' hk).trans t) fun k' hk => by simpa using List.all_eq_true.mp h6 k' hk
    subst z
    simp [keyAt] at hj
section
variable {I : Info} {G : Tab} {C : Nat → Option D} {exV : Nat → Value} {B : Bs} {k : Nat} {sc : Scope} {W : WX} {X : Cx} {pos : Pos}
theorem simp_pure {m : ME} (h : m.simp = true) : m.pure = true := by cases m <;> first | rfl | cases h
theorem simp_ev {m : ME} {ρ : En} (h : m.simp = true) : ev G C m ρ = .no ∨ ∃ v, ev G C m ρ = .ok v ρ := by
  cases m <;> first | (exact absurd h Bool.false_ne_true) | skip
  · unfold ev
    split
    · exact .inr ⟨_, rfl⟩
    · exact .inl rfl
  · exact .inr ⟨_, by unfold ev; rfl⟩
theorem ok_st2 (g : GdS I G C exV B k sc W X) {i : Nat} {x : Str} {ka kb e : ME} {y1 y2 z : Expr} {p tp1 tp : Pos} (h : slotB I sc i x = true) (hy1 : chk I sc sc ka y1 = true) (hy2 : chk I sc sc kb y2 = true)
    (ha : PE X y1 (tEv G C exV B W ka)) (hb : PE X y2 (tEv G C exV B W kb)) (he : PE X z (tEv G C exV B W e)) :
    PS X (.Assign [.Subscript (.Subscript (.Name x p) y1 tp1) y2 tp] z pos) (tExc G C exV B W (.st2 i ka kb e)) := by
  obtain ⟨h1, h2, h3, h4⟩ := slot_vis g.g h
  have base := ps_asg (pos := pos) he (pg_sub (pos := tp) (pe_ix (pos := tp1) ix_list (pe_var (pos := p) h1 h2 h3 h4) ha (chk_ix hy1)) hb set_list (by intro v; cases y2 <;> first | rfl | (exfalso; cases kb <;> simp [chk] at hy2))) (by cases z <;> rfl) (by cases z <;> rfl) (by rfl)
  refine PS.weak base fun E σ H q => ?_
  obtain ⟨ρ, fs, st, q⟩ := q
  unfold exc at q
  refine s_e st q fun v ρ1 xv H1 f1 fs1 P s q => ?_
  obtain ⟨c, q⟩ := RunS.ite q
  simp only [Bool.and_eq_true] at c
  obtain ⟨⟨⟨hst, sa⟩, sb⟩, hso⟩ := c
  have st1 := P.stp.st
  have hv := store_fp P.rep P.tag hst
  rcases simp_ev (G := G) (C := C) (ρ := ρ1) sa with ea | ⟨kv1, ea⟩
  · rw [ea] at q; exact q.elim
  rcases simp_ev (G := G) (C := C) (ρ := ρ1) sb with eb | ⟨kv2, eb⟩
  · rw [ea] at q
    have q : RunS exV B W E σ H ρ fs ((ev G C kb ρ1).bind _) := q
    rw [eb] at q; exact q.elim
  rw [ea] at q
  have q : RunS exV B W E σ H ρ fs ((ev G C kb ρ1).bind _) := q
  rw [eb] at q
  have q : RunS exV B W E σ H ρ fs (match chgE i (setTwo v.d kv1.d kv2.d) ρ1 with
    | some ρ3 => .ok .nx ρ3
    | none => .no) := q
  split at q
  rotate_left
  · exact q.elim
  rename_i ρ3 e3
  obtain ⟨t, d, d', ei, ct, ed, rfl⟩ := chgE_some e3
  obtain ⟨n, ds, j, m, cs, l, k1, rfl, k3, k4, k5, k6, rfl⟩ := setTwo_some ed
  obtain ⟨o, f, eo, ef, sl⟩ := st1.sl.get ei
  cases sl with
  | val r him =>
    refine ⟨_, eo, ρ1, fs1, st1, ?_⟩
    rw [ea]
    intro kx1 H2 fk1 fs2 P2
    obtain ⟨sm2, _, e2⟩ := P2.stp.pu (simp_pure sa)
    subst e2
    have r := r.kept (Same.kept sm2 f)
    obtain ⟨a, ws, g1, rfl, hh, l1, rfl⟩ := lst_inv r
    have rk1 := P2.rep
    rw [k1] at rk1
    cases rk1
    obtain ⟨w0, g0, w1, w2, w3⟩ := l1.get k4
    refine ⟨a, ws, n, w0, rfl, rfl, .inl (.inl hh), atI_of (by rw [l1.length]; exact k3) w1, ?_⟩
    refine ⟨ρ1, fs2, P2.stp.st, ?_⟩
    rw [eb]
    intro kx2 H3 fk2 fs3 P3
    obtain ⟨sm3, _, e2⟩ := P3.stp.pu (simp_pure sb)
    subst e2
    have st3 := P3.stp.st
    have rk2 := P3.rep
    rw [k5] at rk2
    cases rk2
    have sm := sm2.trans sm3
    have s3 := (s.andSame sm2).andSame sm3
    have hh3 := sm3 a _ hh
    have l13 := l1.kept (Same.kept sm3 g1)
    have rv := P.rep.kept (Same.kept sm f1)
    have m1 := st3.m1
    have fo : ∀ b, fa (Ev.fs a) g1 b ≤ sumOf own ρ1 fs3 b := fun b => by
      have := sum_ge own ei ef b
      have c : ctr own (some ⟨t, .lst ds⟩) (fa (Ev.fs a) g1) b = fa (Ev.fs a) g1 b := by show (if own t = true then _ else fz) b = _; rw [if_pos (own_of_chg ct)]
      omega
    have clash : ∀ b, 0 < fa (Ev.fs a) g1 b → f1 b = 0 := fun b z => Nat.eq_zero_of_not_pos fun y => by
      have := ((hv b).2 y).1
      have := fo b
      omega
    obtain ⟨b, us, _, rfl, hh2, _, _⟩ := lst_inv (w2.kept (Same.kept sm3 g0))
    have fa1 : ∀ c, fa (Ev.fs a) g1 c = Ev.fs a c + g1 c := fun _ => rfl
    have up : ∀ c, c ≠ b → (upd H3 b (.lst (us.set l xv))) c = H3 c := fun c nc => upd_ne nc
    have g1le : g1 b ≤ 1 := by have := fo b; have := m1 b; have := fa1 b; omega
    obtain ⟨w0', gg, y1, y2, y3, mk2⟩ := RepL.upd_at up ⟨_, hh2, trivial⟩ l13 g1le k4
    rw [w1] at y1
    cases y1
    obtain ⟨_, _, g2, ee, hh2', l2, rfl⟩ := lst_inv y2
    cases ee
    rw [hh2] at hh2'
    cases hh2'
    have fa2 : ∀ c, fa (Ev.fs b) g2 c = Ev.fs b c + g2 c := fun _ => rfl
    have g1b : 0 < g1 b := by have := y3 b; have := fa2 b; rw [fs_self] at this; omega
    have nab : a ≠ b := fun q => by
      subst q
      have := fo a; have := m1 a; have := fa1 a; rw [fs_self] at this; omega
    have f1b : f1 b = 0 := clash b (by have := fa1 b; omega)
    have g2b : g2 b = 0 := by have h1 := y3 b; have h2 := fa2 b; rw [fs_self] at h2; omega
    refine ⟨b, us, m, l, rfl, rfl, hh2, by rw [l2.length]; exact k6, ?_⟩
    -- the inner list
    obtain ⟨v0, old, x1, r1, le1, mk⟩ := l2.set (j := l) (List.getElem?_eq_getElem (ixN_lt k6))
    obtain ⟨f', l4, le2⟩ := mk xv v.d f1 rv
    have f'b : f' b = 0 := by have := le2 b; omega
    have rin : Rep B.P B.w B.K (upd H3 b (.lst (us.set l xv))) (.ref b) (.lst (cs.set l v.d)) (fa (Ev.fs b) f') := .lst upd_same (l4.kept (kept_upd hh2 trivial f'b))
    -- the outer list
    obtain ⟨f'', l5, le3⟩ := mk2 _ _ (by rw [fa2, fs_self]; omega) rin
    have hha : (upd H3 b (.lst (us.set l xv))) a = some (.lst ws) := by rw [up a nab]; exact hh3
    refine part_ok (old := old) (fv := f1) (f' := fa (Ev.fs a) f'') (p := b) st s3 ei ct ef eo (by rw [fa1]; omega) hv P.prov up (by rw [upd_same]; exact fun z => nomatch z) (.lst hha l5) (fun c => ?_) q
    have h1 := le2 c
    have h2 := le3 c
    have h3 : fa (Ev.fs b) g2 c = Ev.fs b c + g2 c := rfl
    have h4 : fa (Ev.fs b) f' c = Ev.fs b c + f' c := rfl
    show Ev.fs a c + f'' c + old c = Ev.fs a c + g1 c + f1 c
    omega
theorem ok_apk (g : GdS I G C exV B k sc W X) {i : Nat} {x : Str} {ka e : ME} {y1 z : Expr} {p tp1 ap cp : Pos} (h : slotB I sc i x = true) (hline : (ap.endLine == cp.line) = true) (hy1 : chk I sc sc ka y1 = true) (hz : chk I sc sc e z = true)
    (ha : PE X y1 (tEv G C exV B W ka)) (he : PE X z (tEv G C exV B W e)) :
    PS X (.Expr (.Call (.Attribute (.Subscript (.Name x p) y1 tp1) "append" ap) [z] [] cp) pos) (tExc G C exV B W (.apk i ka e)) := by
  obtain ⟨h1, h2, h3, h4⟩ := slot_vis g.g h
  have hs : starEach [z] X.env = [(false, eval z X.env)] := chk_plain hz [] X.env
  have pb := pe_bm (X := X) F.plainAttrs_list F.slot_list_append F.type_list_append mt_append (pe_ix (pos := tp1) (ix_tp (by have := g.g.room.un; omega)) (pe_var (pos := p) h1 h2 h3 h4) ha (chk_ix hy1)) (pa_cons he pa_nil hs) (base_plain rfl _) (by rw [hs]; rfl) hline hs (by rfl)
  refine PS.weak (ps_expr pb (by rfl)) fun E σ H q => ?_
  obtain ⟨ρ, fs, st, q⟩ := q
  unfold exc at q
  obtain ⟨c, q⟩ := RunS.ite q
  obtain ⟨sa, pe⟩ := Bool.and_eq_true_iff.mp c
  rcases simp_ev (G := G) (C := C) (ρ := ρ) sa with ea | ⟨kv, ea⟩
  · rw [ea] at q; exact q.elim
  rw [ea] at q
  have q : RunS exV B W E σ H ρ fs (if dicLst ρ i kv.d = true then (ev G C e ρ).bind fun v ρ2 => if storeT v then (match chgE i (appAt v.d kv.d) ρ2 with
    | some ρ3 => .ok .nx ρ3
    | none => .no) else .no else .no) := q
  obtain ⟨dl, q⟩ := RunS.ite q
  unfold dicLst at dl
  split at dl
  rotate_left
  · cases dl
  rename_i t0 ks vs eat
  simp only [Bool.and_eq_true] at dl
  obtain ⟨⟨fit, tup⟩, dl⟩ := dl
  split at dl
  rotate_left
  · cases dl
  rename_i j hj
  split at dl
  rotate_left
  · cases dl
  rename_i cs hcs
  have ei := at_some eat
  obtain ⟨o, f, eo, ef, sl⟩ := st.sl.get ei
  cases sl with
  | val r him =>
    refine ⟨_, eo, ρ, fs, st, ?_⟩
    rw [ea]
    intro kx H2 fk fs2 P2
    obtain ⟨sm2, _, e2⟩ := P2.stp.pu (simp_pure sa)
    subst e2
    have st2 := P2.stp.st
    have r := r.kept (Same.kept sm2 f)
    obtain ⟨a, ob, xs, ws, g1, rfl, rfl, hh, hsys, hsz, e4, e5, e6, e7, e8, l1⟩ := dic_inv r fit tup hj
    obtain ⟨w0, g0, w1, w2, w3⟩ := l1.get hcs
    obtain ⟨b, us0, _, rfl, hb0, _, _⟩ := lst_inv w2
    have rk : Rep X.prog X.w X.K H2 kx kv.d fk := by rw [g.g.eP, g.g.ew, g.g.eK]; exact P2.rep
    have e7' : RepL X.prog X.w X.K H2 (xs.map fun x => V.ref x.2.1) ks fz := by rw [g.g.eP, g.g.ew, g.g.eK]; exact e7
    refine ⟨a, ob, xs, ks, ws, kv.d, fk, j, _, rfl, by rw [g.g.eP, g.g.ew]; exact hh, e4, e6, e7', e8, rk, fit, tup, hj, w1, ?_⟩
    refine ⟨.inl ⟨rfl, us0, .inl (.inl hb0)⟩, ?_⟩
    have s2 : StepS B σ H ρ fs2 σ H2 ρ fs2 := (StepS.refl st).andSame sm2
    refine s_e st2 (RunS.later q s2) fun v ρ1 xv H3 f1 fs3 P3 s3 q => ?_
    obtain ⟨sm3, e9, e10⟩ := P3.stp.pu pe
    subst e9 e10
    have q : RunS exV B W E σ H2 ρ1 fs3 (if storeT v = true then (match chgE i (appAt v.d kv.d) ρ1 with
      | some ρ3 => .ok .nx ρ3
      | none => .no) else .no) := q
    obtain ⟨hst, q⟩ := RunS.ite q
    split at q
    rotate_left
    · exact q.elim
    rename_i ρ3 e3
    obtain ⟨t, d, d', ei', ct, ed, rfl⟩ := chgE_some e3
    rw [ei] at ei'
    cases ei'
    obtain ⟨ks', vs', j', cs', k1, _, _, k4, k5, k6, rfl⟩ := appAt_some ed
    cases k1
    rw [hj] at k4
    cases k4
    rw [hcs] at k5
    cases k5
    have st3 := P3.stp.st
    have hv := store_fp P3.rep P3.tag hst
    have hh3 := sm3 a _ hh
    have hb3 := sm3 b _ hb0
    have l13 := l1.kept (Same.kept sm3 g1)
    have m1 := st3.m1
    have fo : ∀ c, fa (Ev.fs a) g1 c ≤ sumOf own ρ1 fs3 c := fun c => by
      have := sum_ge own ei ef c
      have z : ctr own (some ⟨t0, .dic ks vs⟩) (fa (Ev.fs a) g1) c = fa (Ev.fs a) g1 c := by show (if own t0 = true then _ else fz) c = _; rw [if_pos (own_of_chg ct)]
      omega
    have clash : ∀ c, 0 < fa (Ev.fs a) g1 c → f1 c = 0 := fun c z => Nat.eq_zero_of_not_pos fun y => by
      have := ((hv c).2 y).1
      have := fo c
      omega
    have fa1 : ∀ c, fa (Ev.fs a) g1 c = Ev.fs a c + g1 c := fun _ => rfl
    have up : ∀ c, c ≠ b → (upd H3 b (.lst (us0 ++ [xv]))) c = H3 c := fun c nc => upd_ne nc
    have g1le : g1 b ≤ 1 := by have := fo b; have := m1 b; have := fa1 b; omega
    obtain ⟨w0', gg, y1, y2, y3, mk2⟩ := RepL.upd_at up ⟨_, hb3, trivial⟩ l13 g1le hcs
    rw [w1] at y1
    cases y1
    obtain ⟨_, _, g2, ee, hh2', l2, rfl⟩ := lst_inv y2
    cases ee
    rw [hb3] at hh2'
    cases hh2'
    have fa2 : ∀ c, fa (Ev.fs b) g2 c = Ev.fs b c + g2 c := fun _ => rfl
    have g1b : 0 < g1 b := by have := y3 b; have := fa2 b; rw [fs_self] at this; omega
    have nab : a ≠ b := fun q => by
      subst q
      have := fo a; have := m1 a; have := fa1 a; rw [fs_self] at this; omega
    have f1b : f1 b = 0 := clash b (by have := fa1 b; omega)
    have g2b : g2 b = 0 := by have h1 := y3 b; have h2 := fa2 b; rw [fs_self] at h2; omega
    refine ⟨b, us0, xv, rfl, rfl, hb3, by rw [l2.length, ← big_eq]; exact k6, ?_⟩
    have rin : Rep B.P B.w B.K (upd H3 b (.lst (us0 ++ [xv]))) (.ref b) (.lst (cs ++ [v.d])) (fa (Ev.fs b) (fa g2 (fa f1 fz))) :=
      .lst upd_same ((l2.append (.cons P3.rep .nil)).kept (kept_upd hb3 trivial (by show g2 b + (f1 b + 0) = 0; omega)))
    obtain ⟨f'', l5, le3⟩ := mk2 _ _ (by rw [fa2, fs_self]; omega) rin
    have hha : (upd H3 b (.lst (us0 ++ [xv]))) a = some (.ext (DE.phi B.P B.w a (.tp ob xs))) := by rw [up a nab]; exact hh3
    have keysK : RepL B.P B.w B.K (upd H3 b (.lst (us0 ++ [xv]))) (xs.map fun x => V.ref x.2.1) ks fz := (e7.kept (Same.kept sm3 fz)).kept (kept_upd hb3 trivial rfl)
    refine part_ok (old := fz) (fv := f1) (f' := fa (Ev.fs a) f'') (p := b) st2 s3 ei ct ef eo (by rw [fa1]; omega) hv P3.prov up (by rw [upd_same]; exact fun z => nomatch z) (.dicT hha hsys hsz e4 e5 e6 keysK e8 l5) (fun c => ?_) q
    have h2 := le3 c
    have h3 : fa (Ev.fs b) g2 c = Ev.fs b c + g2 c := rfl
    have h4 : fa (Ev.fs b) (fa g2 (fa f1 fz)) c = Ev.fs b c + (g2 c + (f1 c + 0)) := rfl
    show Ev.fs a c + f'' c + 0 = Ev.fs a c + g1 c + f1 c
    omega
end
end Ev
end

section
set_option Elab.async false
set_option linter.all false
set_option maxRecDepth 100000
set_option maxHeartbeats 1000000
/-! a, b = v, w with plain names. -/
namespace Ev
open PySem L2
def nfr : List (Nat × Bool) → List RV → Prop
  | t :: ts, v :: vs => parT t.2 v ≠ .fr ∧ nfr ts vs
  | _, _ => True
section
variable (B : Bs) (H0 : Hp) (ρ0 : En) (fs0 : List FP) (H1 : Hp) (ρ1 : En) (fs1 : List FP)
inductive PL : List (Nat × Bool) → List RV → List V → List FP → Prop
  | nil : PL [] [] [] []
  | cons {i : Nat} {o : Bool} {ts : List (Nat × Bool)} {v : RV} {vs : List RV} {x : V} {xs : List V} {f : FP} {gs : List FP} : Rep B.P B.w B.K H1 x v.d f → TagS B ρ1 fs1 (parT o v) f → (parT o v = .fr → ∀ a, 0 < f a → H0 a = none ∨ 0 < sumOf own ρ0 fs0 a) →
      (∀ a, 0 < f a → B.H0 a = none ∨ B.A0 a) → (f = fz ∨ (parT o v ≠ .fr ∧ nfr ts vs) ∨ ∀ g ∈ gs, ∀ a, 0 < g a → f a = 0) → PL ts vs xs gs → PL ((i, o) :: ts) (v :: vs) (x :: xs) (f :: gs)
end
def setAll : St → List (Nat × Bool) → List V → St
  | σ, (i, _) :: ts, x :: xs => setAll (σ.set i (some x)) ts xs
  | σ, _, _ => σ
section
variable {B : Bs} {σ σ1 : St} {H H1 : Hp} {ρ ρ1 : En} {fs fs1 : List FP}
theorem TagS.zero {t : RT} : TagS B ρ fs t fz := by
  cases t with
  | im => rfl
  | vl => exact fun a z => absurd z (Nat.lt_irrefl _)
  | fr => exact fun a => ⟨Nat.zero_le _, fun z => absurd z (Nat.lt_irrefl _)⟩
  | tm i => trivial
theorem PL.next {f : FP} {σ2 : St} {ρ2 : En} {fs2 : List FP} {t : RT} (b : BPost B σ1 H1 ρ1 fs1 f σ2 ρ2 fs2) (ow : t ≠ .fr → ∀ a, sumOf own ρ2 fs2 a ≤ sumOf own ρ1 fs1 a) : ∀ {ts : List (Nat × Bool)} {vs : List RV} {xs : List V} {gs : List FP}, PL B H ρ fs H1 ρ1 fs1 ts vs xs gs → (f = fz ∨ (t ≠ .fr ∧ nfr ts vs) ∨ ∀ g ∈ gs, ∀ a, 0 < g a → f a = 0) → PL B H ρ fs H1 ρ2 fs2 ts vs xs gs
  | _, _, _, _, .nil, _ => .nil
  | _, _, _, _, .cons (o := o) (v := v) (f := g) h1 h2 h3 h4 h5 h6, c => by
    refine .cons h1 ?_ h3 h4 h5 (PL.next b ow h6 ?_)
    · rcases c with rfl | ⟨c1, c2⟩ | c
      · have e1 : ∀ a, sumOf own ρ2 fs2 a ≤ sumOf own ρ1 fs1 a := fun a => b.own a
        have e2 : ∀ a, sumOf frz ρ2 fs2 a ≤ sumOf frz ρ1 fs1 a := fun a => b.frz a
        generalize parT o v = u at h2
        cases u with
        | im => exact h2
        | vl => exact fun a z => by have := h2 a z; have := e1 a; omega
        | fr => exact fun a => ⟨(h2 a).1, fun z => by obtain ⟨q1, q2, q3⟩ := (h2 a).2 z; exact ⟨by have := e1 a; omega, by have := e2 a; omega, q3⟩⟩
        | tm i => trivial
      · have nf := c2.1
        generalize parT o v = u at h2 nf
        cases u with
        | im => exact h2
        | vl => exact fun a z => by have := h2 a z; have := ow c1 a; omega
        | fr => exact absurd rfl nf
        | tm i => trivial
      · have e1 : ∀ a, 0 < g a → sumOf own ρ2 fs2 a ≤ sumOf own ρ1 fs1 a := fun a z => by have := b.own a; have := c g (by simp) a z; omega
        have e2 : ∀ a, 0 < g a → sumOf frz ρ2 fs2 a ≤ sumOf frz ρ1 fs1 a := fun a z => by have := b.frz a; have := c g (by simp) a z; omega
        generalize parT o v = u at h2
        cases u with
        | im => exact h2
        | vl => exact fun a z => by have := h2 a z; have := e1 a z; omega
        | fr => exact fun a => ⟨(h2 a).1, fun z => by obtain ⟨q1, q2, q3⟩ := (h2 a).2 z; exact ⟨by have := e1 a z; omega, by have := e2 a z; omega, q3⟩⟩
        | tm i => trivial
    · rcases c with c | ⟨c1, c2⟩ | c
      · exact .inl c
      · exact .inr (.inl ⟨c1, c2.2⟩)
      · exact .inr (.inr fun g hg => c g (by simp [hg]))
theorem par_go : ∀ {ts : List (Nat × Bool)} {vs : List RV} {xs : List V} {gs : List FP} {σ1 : St} {ρ1 ρ2 : En} {fs1 : List FP}, StepS B σ H ρ fs σ1 H1 ρ1 fs1 → PL B H ρ fs H1 ρ1 fs1 ts vs xs gs → parE ts vs ρ1 = some ρ2 → ∃ fs2, StepS B σ H ρ fs (setAll σ1 ts xs) H1 ρ2 fs2
  | _, _, _, _, _, _, _, fs1, s, .nil, e => by cases e; exact ⟨fs1, s⟩
  | _, _, _, _, σ1, ρ1, ρ2, fs1, s, .cons (i := i) (o := o) (v := v) (x := x) (f := f) h1 h2 h3 h4 h5 h6, e => by
    unfold parE at e
    obtain ⟨ρ3, e1, e2⟩ := Option.bind_eq_some_iff.mp e
    have e1' := e1
    unfold bindT at e1
    split at e1
    · rename_i fr
      obtain ⟨st, es, rfl⟩ := Option.map_eq_some_iff.mp e1
      obtain ⟨b, b2⟩ := slot_ok s.st fr es h1 h2 h4
      have ow : parT o v ≠ .fr → ∀ a, sumOf own (ρ1.put i (some ⟨st, v.d⟩)) (fs1.set i f) a ≤ sumOf own ρ1 fs1 a := fun nf a => by
        have h0 := b.own a
        generalize et : parT o v = t at nf h2 e1' b2
        cases t with
        | im =>
          have hz : f = fz := h2
          rw [hz] at h0
          have z0 : fz a = 0 := rfl
          rw [hz]
          omega
        | vl => exact b2 rfl a
        | fr => exact absurd rfl nf
        | tm j =>
          have hz : f = fz := h1.imm (bind_tm e1')
          rw [hz] at h0 ⊢
          have z0 : fz a = 0 := rfl
          omega
      have s2 := bind_step s h1 h3 (fun et => by rw [et] at h2; exact h2) (fun et => by rw [et] at h2; exact h2) e1' b b2
      obtain ⟨fs2, q⟩ := par_go s2 (PL.next b ow h6 h5) e2
      exact ⟨fs2, q⟩
    · cases e1
theorem parT_item {v : RV} : parT false v ≠ .fr := by
  unfold parT
  split
  · exact fun z => nomatch z
  · rw [if_neg (by decide)]
    cases v.t <;> exact fun z => nomatch z
theorem nfr_all : ∀ {ts : List (Nat × Bool)} {vs : List RV}, ts.all (fun t => !t.2) = true → nfr ts vs
  | [], _, _ => trivial
  | _ :: _, [], _ => trivial
  | (i, o) :: ts, v :: vs, h => by
    have h' : o = false ∧ ts.all (fun t => !t.2) = true := by simpa using h
    exact ⟨by rw [h'.1]; exact parT_item, nfr_all h'.2⟩
theorem par_tag {v : RV} {o : Bool} {x : V} {f : FP} (st : StR B σ H ρ fs) (r : Rep B.P B.w B.K H1 x v.d f) (tg : TagOk H ρ fs ρ1 fs1 v.t f) : TagS B ρ1 fs1 (parT o v) f ∧ (parT o v = .fr → ∀ a, 0 < f a → H a = none ∨ 0 < sumOf own ρ fs a) := by
  unfold parT
  split
  · rename_i im
    exact ⟨r.imm im, fun z => nomatch z⟩
  · cases o with
    | true =>
      rw [if_pos rfl]
      exact ⟨tagS_of st tg, fun e a z => by rw [e] at tg; exact ((tg a).2 z).2.2⟩
    | false =>
      rw [if_neg (by decide)]
      generalize v.t = t at tg
      cases t with
      | im => exact ⟨tg, fun z => nomatch z⟩
      | vl => exact ⟨tg, fun z => nomatch z⟩
      | fr => exact ⟨fun a z => ((tg a).2 z).1, fun z => nomatch z⟩
      | tm i => exact ⟨trivial, fun z => nomatch z⟩
def immish (v : RV) : Bool := decide (v.t = .im) || v.d.imm
theorem immish_fz {v : RV} {x : V} {f : FP} (r : Rep B.P B.w B.K H1 x v.d f) (tg : TagOk H ρ fs ρ1 fs1 v.t f) (h : immish v = true) : f = fz := by
  rcases Bool.or_eq_true_iff.mp h with h | h
  · rw [of_decide_eq_true h] at tg; exact tg
  · exact r.imm h
theorem gs_fz : ∀ {vs : List RV} {xs : List V} {gs : List FP}, RepT B H ρ fs H1 ρ1 fs1 xs vs gs → (vs.filter fun v => !immish v) = [] → ∀ g ∈ gs, g = fz
  | _, _, _, .nil, _ => fun g h => by cases h
  | _, _, _, .cons (v := v) (f := f) h1 h2 h3 h4, e => fun g hg => by
    have hi : immish v = true := by
      cases q : immish v with
      | true => rfl
      | false => rw [List.filter_cons, q] at e; simp at e
    rw [List.filter_cons, hi] at e
    have e : (List.filter (fun v => !immish v) _) = [] := e
    rcases List.mem_cons.mp hg with rfl | hg
    · exact immish_fz h1 h2 hi
    · exact gs_fz h4 e g hg
theorem fr_part : ∀ {vs : List RV} {xs : List V} {gs : List FP}, RepT B H ρ fs H1 ρ1 fs1 xs vs gs → vs.all (fun v => immish v || decide (v.t = .fr)) = true → ∀ g ∈ gs, ∀ a, 0 < g a → 0 < frSum vs gs a
  | _, _, _, .nil, _ => fun g h => by cases h
  | _, _, _, .cons (v := v) (vs := vs) (f := f) (gs := gs) h1 h2 h3 h4, c => fun g hg a z => by
    have c' : (immish v || decide (v.t = .fr)) = true ∧ vs.all (fun v => immish v || decide (v.t = .fr)) = true := by simpa using c
    show 0 < (if v.t = .fr then f else fz) a + frSum vs gs a
    rcases List.mem_cons.mp hg with rfl | hg
    · cases q : immish v with
      | true => rw [immish_fz h1 h2 q] at z; exact absurd z (Nat.lt_irrefl _)
      | false =>
        rw [q] at c'
        have ef : v.t = .fr := by simpa using c'.1
        rw [if_pos ef]
        omega
    · have := fr_part h4 c'.2 g hg a z
      omega
theorem PL.of (st : StR B σ H ρ fs) : ∀ {ts : List (Nat × Bool)} {vs : List RV} {xs : List V} {gs : List FP}, RepT B H ρ fs H1 ρ1 fs1 xs vs gs → ts.length = vs.length → (∀ a, frSum vs gs a ≤ 1) → (ts.all (fun t => !t.2) = true ∨ (vs.filter fun v => !immish v).length ≤ 1 ∨ vs.all (fun v => immish v || decide (v.t = .fr)) = true) → PL B H ρ fs H1 ρ1 fs1 ts vs xs gs
  | [], _, _, _, .nil, _, _, _ => .nil
  | _ :: _, _, _, _, .nil, h, _, _ => by cases h
  | [], _, _, _, .cons _ _ _ _, h, _, _ => by cases h
  | (i, o) :: ts, _, _, _, .cons (v := v) (vs := vs) (f := f) (gs := gs) h1 h2 h3 h4, hl, ap, c => by
    obtain ⟨t1, t2⟩ := par_tag (o := o) st h1 h2
    have hl' : ts.length = vs.length := by simpa using hl
    have ap' : ∀ a, frSum vs gs a ≤ 1 := fun a => by
      have h : (if v.t = .fr then f else fz) a + frSum vs gs a ≤ 1 := ap a
      omega
    rcases c with c | c | c
    · have c' : o = false ∧ ts.all (fun t => !t.2) = true := by simpa using c
      exact .cons h1 t1 t2 h3 (.inr (.inl ⟨by rw [c'.1]; exact parT_item, nfr_all c'.2⟩)) (PL.of st h4 hl' ap' (.inl c'.2))
    · cases q : immish v with
      | true =>
        rw [List.filter_cons, q] at c
        exact .cons h1 t1 t2 h3 (.inl (immish_fz h1 h2 q)) (PL.of st h4 hl' ap' (.inr (.inl c)))
      | false =>
        rw [List.filter_cons, q] at c
        have c' : (vs.filter fun v => !immish v).length + 1 ≤ 1 := c
        have e0 : (vs.filter fun v => !immish v) = [] := List.eq_nil_of_length_eq_zero (by omega)
        exact .cons h1 t1 t2 h3 (.inr (.inr fun g hg a z => by rw [gs_fz h4 e0 g hg] at z; exact absurd z (Nat.lt_irrefl _))) (PL.of st h4 hl' ap' (.inr (.inl (by rw [e0]; exact Nat.zero_le _))))
    · have c' : (immish v || decide (v.t = .fr)) = true ∧ vs.all (fun v => immish v || decide (v.t = .fr)) = true := by simpa using c
      refine .cons h1 t1 t2 h3 ?_ (PL.of st h4 hl' ap' (.inr (.inr c'.2)))
      cases q : immish v with
      | true => exact .inl (immish_fz h1 h2 q)
      | false =>
        rw [q] at c'
        have ef : v.t = .fr := by simpa using c'.1
        refine .inr (.inr fun g hg a z => ?_)
        have h : (if v.t = .fr then f else fz) a + frSum vs gs a ≤ 1 := ap a
        rw [if_pos ef] at h
        have := fr_part h4 c'.2 g hg a z
        omega
end
def noStar : Expr → Bool
  | .Starred _ _ => false
  | _ => true
theorem noStar_m : ∀ {a : Expr}, noStar a = true → (match a with
    | .Starred _ _ => true
    | _ => false) = false := fun {a} h => by cases a <;> first | rfl | cases h
theorem sw_par2 {env : Env} {x y : Str} {px py pt pt2 : Pos} {kt k2 : Nat} {a b : Expr} (hk : env.scope.kind = .function) (hx : env.scope.names.lookup x = some .local) (hy : env.scope.names.lookup y = some .local) (hl : (py.line == px.line) = true) (hxy : x ≠ y)
    (na : noStar a = true) (nb : noStar b = true) (h1 : [a, b].all (foldedForSure 8) = false) (h2 : [a, b].all (constantsAlone 8) = false) : swappedStores [.Tuple [.Name x px, .Name y py] kt pt] (.Tuple [a, b] k2 pt2) env = pure (some [x, y]) := by
  have hb : env.blockKind = .function := by unfold Env.blockKind; rw [hk]; rfl
  have kx : env.kindOf x = some .local := hx
  have ky : env.kindOf y = some .local := hy
  have hl' : py.line = px.line := eq_of_beq hl
  unfold swappedStores
  simp only [hb, h1, h2]
  have ma := noStar_m na
  have mb := noStar_m nb
  simp [kx, ky, hl', Expr.pos, h1, h2, hxy, Ne.symm hxy, List.eraseDups_cons]
  intro h
  rcases h with h | h
  · exact absurd (ma.symm.trans h) (by decide)
  · exact absurd (mb.symm.trans h) (by decide)
theorem sw_par3 {env : Env} {x y z : Str} {px py pz pt pt2 : Pos} {kt k2 : Nat} {a b c : Expr} (hk : env.scope.kind = .function) (hx : env.scope.names.lookup x = some .local) (hy : env.scope.names.lookup y = some .local) (hz : env.scope.names.lookup z = some .local) (hl : (py.line == px.line) = true) (hl2 : (pz.line == px.line) = true) (hxy : x ≠ y) (hxz : x ≠ z) (hyz : y ≠ z)
    (na : noStar a = true) (nb : noStar b = true) (nc : noStar c = true) (h1 : [a, b, c].all (foldedForSure 8) = false) (h2 : [a, b, c].all (constantsAlone 8) = false) : swappedStores [.Tuple [.Name x px, .Name y py, .Name z pz] kt pt] (.Tuple [a, b, c] k2 pt2) env = pure (some [x, y, z]) := by
  have hb : env.blockKind = .function := by unfold Env.blockKind; rw [hk]; rfl
  have kx : env.kindOf x = some .local := hx
  have ky : env.kindOf y = some .local := hy
  have kz : env.kindOf z = some .local := hz
  have hl' : py.line = px.line := eq_of_beq hl
  have hl2' : pz.line = px.line := eq_of_beq hl2
  unfold swappedStores
  simp only [hb, h1, h2]
  have ma := noStar_m na
  have mb := noStar_m nb
  have mc := noStar_m nc
  simp [kx, ky, kz, hl', hl2', Expr.pos, h1, h2, hxy, Ne.symm hxy, hxz, Ne.symm hxz, hyz, Ne.symm hyz, List.eraseDups_cons]
  intro h
  rcases h with h | h | h
  · exact absurd (ma.symm.trans h) (by decide)
  · exact absurd (mb.symm.trans h) (by decide)
  · exact absurd (mc.symm.trans h) (by decide)
section
variable {I : Info} {G : Tab} {C : Nat → Option D} {exV : Nat → Value} {B : Bs} {k : Nat} {sc : Scope} {W : WX} {X : Cx} {pos : Pos}
theorem par_read {ts : List (Nat × Bool)} {es : MEs} {E : Ends} {σ : St} {H : Hp} (hl : ts.length = es.slots.length) (q : tExc G C exV B W (.par ts es) E σ H) : tEvs G C exV B W es σ H fun xs H1 => xs.length = ts.length ∧ E.nx (setAll σ ts xs) H1 := by
  obtain ⟨ρ, fs, st, q⟩ := q
  unfold exc at q
  refine ⟨ρ, fs, st, (RunS.bind st q).mono fun vs ρ1 q xs H1 gs fs1 A => ?_⟩
  obtain ⟨hp, q⟩ := RunS.ite q
  split at q
  · rename_i ρ2 e
    have hlen : ts.length = vs.length := by rw [hl, ← A.vr.len, A.reps.len]
    have c : ts.all (fun t => !t.2) = true ∨ (vs.filter fun v => !immish v).length ≤ 1 ∨ vs.all (fun v => immish v || decide (v.t = .fr)) = true := by
      unfold parOk at hp
      rcases Bool.or_eq_true_iff.mp hp with h | h
      · rcases Bool.or_eq_true_iff.mp h with h | h
        · exact .inl h
        · exact .inr (.inl (of_decide_eq_true h))
      · exact .inr (.inr h)
    obtain ⟨fs2, s2⟩ := par_go (A.stp.toS st) (PL.of st A.reps hlen A.ap c) e
    exact ⟨by rw [A.reps.len, hlen], q _ _ _ s2⟩
  · exact q.elim
theorem chk_noStar {m : ME} {rd wr : Scope} {e : Expr} (h : chk I rd wr m e = true) : noStar e = true := by
  cases e <;> first | rfl | (exfalso; cases m <;> simp [chk] at h)
theorem chks_noStar {rd wr : Scope} : ∀ {as : MEs} {es : List Expr}, chks I rd wr as es = true → ∀ e ∈ es, noStar e = true
  | .nil, [], _ => fun e h => by cases h
  | .nil, _ :: _, h => by simp [chks] at h
  | .cons _ _, [], h => by simp [chks] at h
  | .cons a as, e :: es, h => fun e' he => by
    have h' : chk I rd wr a e = true ∧ chks I rd wr as es = true := by simpa [chks] using h
    rcases List.mem_cons.mp he with rfl | he
    · exact chk_noStar h'.1
    · exact chks_noStar h'.2 e' he
theorem lcl_at {x : Str} (h : lcl sc x = true) : sc.names.lookup x = some .local := by
  unfold lcl at h
  split at h
  · assumption
  · cases h
theorem ix_ne {i j : Nat} {x y : Str} (h1 : X.N[i]? = some x) (h2 : X.N[j]? = some y) (h : x ≠ y) : i ≠ j := fun e => by
  subst e
  rw [h1] at h2
  exact h (Option.some.inj h2)
theorem ok_par2 (g : GdS I G C exV B k sc W X) {i j : Nat} {o o' : Bool} {es : MEs} {x y : Str} {px py pt pt2 : Pos} {kt k2 : Nat} {a b : Expr} (hi : I.N[i]? = some x) (hj : I.N[j]? = some y) (hx : lcl sc x = true) (hy : lcl sc y = true) (hl : (py.line == px.line) = true) (hxy : x ≠ y)
    (h1 : [a, b].all (foldedForSure 8) = false) (h2 : [a, b].all (constantsAlone 8) = false) (hc : chks I sc sc es [a, b] = true) (ha : PA X [a, b] (tEvs G C exV B W es)) :
    PS X (.Assign [.Tuple [.Name x px, .Name y py] kt pt] (.Tuple [a, b] k2 pt2) pos) (tExc G C exV B W (.par [(i, o), (j, o')] es)) := by
  have esc := g.g.esc
  have lx := lcl_at hx
  have ly := lcl_at hy
  have ns := chks_noStar hc
  rw [← g.g.eN] at hi hj
  rw [← esc] at lx ly
  refine PS.weak (ps_par g.g.calm g.g.nd hi hj (ix_ne hi hj hxy) lx ly ha (sw_par2 (by rw [esc]; exact g.kn) lx ly hl hxy (ns a (by simp)) (ns b (by simp)) h1 h2) (by rfl)) fun E σ H q => ?_
  obtain ⟨ρ, fs, st, q⟩ := par_read (by rw [chks_len hc]; rfl) q
  refine ⟨ρ, fs, st, q.mono fun vs ρ1 q xs H1 gs fs1 A => ?_⟩
  obtain ⟨l, q⟩ := q xs H1 gs fs1 A
  match xs, l, q with
  | [u, v], _, q => exact ⟨u, v, rfl, q⟩
theorem ok_par3 (g : GdS I G C exV B k sc W X) {i j l : Nat} {o o' o'' : Bool} {es : MEs} {x y z : Str} {px py pz pt pt2 : Pos} {kt k2 : Nat} {a b c : Expr} (hi : I.N[i]? = some x) (hj : I.N[j]? = some y) (hk : I.N[l]? = some z) (hx : lcl sc x = true) (hy : lcl sc y = true) (hz : lcl sc z = true)
    (hl : (py.line == px.line) = true) (hl2 : (pz.line == px.line) = true) (hxy : x ≠ y) (hxz : x ≠ z) (hyz : y ≠ z)
    (h1 : [a, b, c].all (foldedForSure 8) = false) (h2 : [a, b, c].all (constantsAlone 8) = false) (hc : chks I sc sc es [a, b, c] = true) (ha : PA X [a, b, c] (tEvs G C exV B W es)) :
    PS X (.Assign [.Tuple [.Name x px, .Name y py, .Name z pz] kt pt] (.Tuple [a, b, c] k2 pt2) pos) (tExc G C exV B W (.par [(i, o), (j, o'), (l, o'')] es)) := by
  have esc := g.g.esc
  have lx := lcl_at hx
  have ly := lcl_at hy
  have lz := lcl_at hz
  have ns := chks_noStar hc
  rw [← g.g.eN] at hi hj hk
  rw [← esc] at lx ly lz
  refine PS.weak (ps_par3 g.g.calm g.g.nd hi hj hk (ix_ne hi hj hxy) (ix_ne hi hk hxz) (ix_ne hj hk hyz) lx ly lz ha (sw_par3 (by rw [esc]; exact g.kn) lx ly lz hl hl2 hxy hxz hyz (ns a (by simp)) (ns b (by simp)) (ns c (by simp)) h1 h2) (by rfl)) fun E σ H q => ?_
  obtain ⟨ρ, fs, st, q⟩ := par_read (by rw [chks_len hc]; rfl) q
  refine ⟨ρ, fs, st, q.mono fun vs ρ1 q xs H1 gs fs1 A => ?_⟩
  obtain ⟨ll, q⟩ := q xs H1 gs fs1 A
  match xs, ll, q with
  | [u, v, w], _, q => exact ⟨u, v, w, rfl, q⟩
end
end Ev
end

section
set_option Elab.async false
set_option linter.all false
set_option maxRecDepth 100000
set_option maxHeartbeats 1000000
/-! a, b, c = u, v, w where one of the names is a cell: through a tuple that nobody keeps. -/
namespace L2
open PySem PySem.Spec PyProof.Rows
section
variable {X : Cx}
theorem ps_tup3 {i j l : Nat} {x y z : Str} {a b c : Expr} {ta : TA} {px py pz pt pos : Pos} {kt k2 pt2} (hc : X.calm = true) (hN : X.N.Nodup) (hi : X.N[i]? = some x) (hj : X.N[j]? = some y) (hl : X.N[l]? = some z)
    (lx : Loc X.env.scope x) (ly : Loc X.env.scope y) (lz : Loc X.env.scope z) (fx : X.fn x = true ∨ X.env.scope.names.lookup x = some .local) (fy : X.fn y = true ∨ X.env.scope.names.lookup y = some .local) (fz : X.fn z = true ∨ X.env.scope.names.lookup z = some .local) (ha : PA X [a, b, c] ta)
    (hw : swappedStores [.Tuple [.Name x px, .Name y py, .Name z pz] kt pt] (.Tuple [a, b, c] k2 pt2) X.env = pure none)
    (hs : swapsWithSole [.Tuple [.Name x px, .Name y py, .Name z pz] kt pt] (.Tuple [a, b, c] k2 pt2) pos.line X.env = pure false := by rfl) :
    PS X (.Assign [.Tuple [.Name x px, .Name y py, .Name z pz] kt pt] (.Tuple [a, b, c] k2 pt2) pos) (tPar3 i j l ta) := by
  have g : PGs X [.Name x px, .Name y py, .Name z pz] (gCons (gName i) (gCons (gName j) (gCons (gName l) gNil))) := pgs_cons (pg_name hN hi lx fx) (pgs_cons (pg_name hN hj ly fy) (pgs_cons (pg_name hN hl lz fz) pgs_nil))
  refine ⟨fun pins s σ H D I h => ?_⟩
  refine wpAny_Assign_stores (Tuple_ (thn (ha.run _ pins s σ H _ I h) fun us s1 ⟨vs, H1, I1, r1, q1⟩ => ?_)) hs hw
  obtain ⟨v1, v2, v3, e1, q1⟩ := q1
  subst e1
  refine wpAny_newObj_type ?_ (by show us.toArray.size ≤ sizeLine; rw [List.size_toArray, ← r1.length]; show 3 ≤ sizeLine; decide)
  have I2 : Inv X pins σ H1 { s1 with heap := s1.heap.push { cls := .type "tuple", data := .seq us.toArray } } := I1.kept (t' := s1.toks) fun b o e => Heap.get?_push_of_some _ e
  have h1 : (assignEach [Expr.Tuple [.Name x px, .Name y py, .Name z pz] kt pt] X.env).map (·.2) = [assign (.Tuple [.Name x px, .Name y py, .Name z pz] kt pt) X.env] := by rfl
  rw [h1]
  refine thn (assign_Tuple_tuple (I.ok.hd hc) (IsTup.new s1.heap us.toArray) (by rw [List.size_toArray, ← r1.length]; rfl) (by rfl) fun h' hx' => ?_) fun _ s2 q => q
  have I3 := I2.kept (h' := h') (t' := s1.toks) fun b o e => hx' b o (Nat.ne_of_lt (Heap.lt_size e)) e
  refine thn (g.run pins _ σ H1 _ us (fun σ' H' => D.nx σ' H') I3 (by simpa using r1) ⟨v1, _, rfl, v2, _, rfl, v3, _, rfl, rfl, q1⟩) fun _ s2 ⟨σ', H', I', q⟩ => ?_
  exact ⟨σ', H', I', q⟩
end
end L2
namespace Ev
open PySem L2
section
variable {I : Info} {G : Tab} {C : Nat → Option D} {exV : Nat → Value} {B : Bs} {k : Nat} {sc : Scope} {W : WX} {X : Cx} {pos : Pos}
theorem ok_tup3 (g : GdS I G C exV B k sc W X) {i j l : Nat} {o o' o'' : Bool} {es : MEs} {x y z : Str} {px py pz pt pt2 : Pos} {kt k2 : Nat} {a b c : Expr} (hi : I.N[i]? = some x) (hj : I.N[j]? = some y) (hk : I.N[l]? = some z) (hx : stor sc x = true) (hy : stor sc y = true) (hz : stor sc z = true)
    (hw : swapNo sc (.Tuple [.Name x px, .Name y py, .Name z pz] kt pt) = true) (hc : chks I sc sc es [a, b, c] = true) (ha : PA X [a, b, c] (tEvs G C exV B W es)) :
    PS X (.Assign [.Tuple [.Name x px, .Name y py, .Name z pz] kt pt] (.Tuple [a, b, c] k2 pt2) pos) (tExc G C exV B W (.par [(i, o), (j, o'), (l, o'')] es)) := by
  have esc := g.g.esc
  obtain ⟨lx, fx⟩ := g.g.sto x hx
  obtain ⟨ly, fy⟩ := g.g.sto y hy
  obtain ⟨lz, fz⟩ := g.g.sto z hz
  have hw' := swap_no (vs := [a, b, c]) (k2 := k2) (p2 := pt2) esc hw
  rw [← g.g.eN] at hi hj hk
  rw [← esc] at lx ly lz fx fy fz
  refine PS.weak (ps_tup3 g.g.calm g.g.nd hi hj hk lx ly lz fx fy fz ha hw' (by rfl)) fun E σ H q => ?_
  obtain ⟨ρ, fs, st, q⟩ := par_read (by rw [chks_len hc]; rfl) q
  refine ⟨ρ, fs, st, q.mono fun vs ρ1 q xs H1 gs fs1 A => ?_⟩
  obtain ⟨ll, q⟩ := q xs H1 gs fs1 A
  match xs, ll, q with
  | [u, v, w], _, q => exact ⟨u, v, w, rfl, q⟩
end
end Ev
end

section
set_option Elab.async false
set_option linter.all false
set_option maxRecDepth 100000
set_option maxHeartbeats 1000000
/-! try .. except. -/
namespace Ev
open PySem L2
section
variable {I : Info} {G : Tab} {C : Nat → Option D} {exV : Nat → Value} {B : Bs} {k : Nat} {sc : Scope} {W : WX} {X : Cx} {pos : Pos}
theorem pg_nm {X : Cx} {i : Nat} {o : Bool} {x : Str} {pos : Pos} (nd : X.N.Nodup) (hi : X.N[i]? = some x) (l : Loc X.env.scope x) (hf : X.fn x = true ∨ X.env.scope.names.lookup x = some .local) : PG X (.Name x pos) (gB B (.nm i o)) := by
  refine PG.weak (pg_name (i := i) nd hi l hf) fun σ H Q q w => ?_
  obtain ⟨t, ρ, fs, d, f, ρ', st, r, ts, pv, e, q⟩ := w
  unfold bindT at e
  split at e
  · rename_i fr
    obtain ⟨s, e1, rfl⟩ := Option.map_eq_some_iff.mp e
    obtain ⟨b, b2⟩ := slot_ok st fr e1 r ts pv
    exact q _ _ b b2 ⟨⟨List.length_set, List.length_set, List.length_set⟩, fun j hj => by
      have ne : i ≠ j := fun q => hj (by simp [TG.slots, q])
      exact ⟨List.getElem?_set_ne ne, List.getElem?_set_ne ne, List.getElem?_set_ne ne⟩⟩
  · cases e
/-- the clause's reading -/
def tH (G : Tab) (C : Nat → Option D) (exV : Nat → Value) (B : Bs) (m : MS) : Addr → Value → Option Addr → TS := fun _ _ _ E σ H => ∃ ρ fs, StR B σ H ρ fs ∧ RunS exV B (fun _ _ _ _ => False) E σ H ρ fs (exc G C m ρ)
theorem ok_handler (g : GdS I G C exV B k sc W X) {m : MS} {s : Stmt} (hm : hsimp m = true) (hc : chkS I sc m s = true) (a : Addr) (pn : List (Addr × Obj)) : PS (X.suite a pn) s (tExc G C exV B (fun _ _ _ _ => False) m) := by
  unfold hsimp at hm
  split at hm
  · rename_i i d
    unfold chkS at hc
    split at hc
    · rename_i t x pos
      simp only [Bool.and_eq_true] at hc
      obtain ⟨⟨⟨⟨h1, h2⟩, h3⟩, h4⟩, h5⟩ := hc
      unfold chkg at h1
      split at h1
      · rename_i y p
        obtain ⟨q1, q2⟩ := Bool.and_eq_true_iff.mp h1
        obtain ⟨l, hf⟩ := g.g.sto y q2
        have pe : PE (X.suite a pn) x (tEv G C exV B (fun _ _ _ _ => False) (.lit d)) := ok_lit h2
        have hx : ∃ c u p', x = .Constant c u p' := by
          unfold chk at h2
          split at h2 <;> first | exact ⟨_, _, _, rfl⟩ | cases h2
        obtain ⟨c, u, p', rfl⟩ := hx
        refine PS.weak (ps_asg pe (pg_nm (B := B) (o := false) (by rw [show (X.suite a pn).N = X.N from rfl]; exact g.g.nd) (by show X.N[i]? = some y; rw [g.g.eN]; exact of_decide_eq_true q1) (by show Loc X.env.scope y; rw [g.g.esc]; exact l) (by show X.fn y = true ∨ X.env.scope.names.lookup y = some .local; rw [g.g.esc]; exact hf)) (by rfl) (by rfl) (by rfl)) fun E σ H q => ?_
        obtain ⟨ρ, fs, st, q⟩ := q
        unfold exc at q
        refine s_e st q fun v ρ1 x H1 f fs1 P s q => ?_
        split at q
        · rename_i ρ2 e
          exact store_val st P s e q
        · exact q.elim
      · cases h1
    · cases hc
  · rename_i i
    unfold chkS at hc
    split at hc
    · rename_i x pos
      unfold chk at hc
      split at hc
      · rename_i y p
        have g' := g.g
        obtain ⟨h1, h2, h3, h4⟩ := slot_vis g.g hc
        have pe : PE (X.suite a pn) (.Name y p) (tEv G C exV B (fun _ _ _ _ => False) (.var i)) := by
          refine PE.weak (pe_var (X := X.suite a pn) h1 h2 h3 h4) fun σ H Q q => ?_
          obtain ⟨ρ, fs, st, q⟩ := q
          unfold ev at q
          split at q
          · rename_i s d e
            have e := at_some e
            obtain ⟨o, f, ho, hf, sl⟩ := st.sl.get e
            cases sl with
            | val r him =>
              exact ⟨_, ho, q _ H f fs ⟨.refl st, by rw [nrm_d]; exact r, nrm_tag (v := ⟨s.rt i, d⟩) r (var_tag (H' := H) st e hf him), st.b3 f (List.mem_of_getElem? hf), fun j ej => by cases ej; exact ho⟩⟩
          · exact q.elim
        exact ok_ret pe
      · cases hc
    · cases hc
  · cases hm
theorem run_free {m : MS} {E : Ends} {σ : St} {H : Hp} {ρ : En} {fs : List FP} (hm : hsimp m = true) (q : RunS exV B W E σ H ρ fs (exc G C m ρ)) : RunS exV B (fun _ _ _ _ => False) E σ H ρ fs (exc G C m ρ) := by
  unfold hsimp at hm
  split at hm
  · unfold exc ev at q ⊢
    exact (by
      revert q
      show RunS exV B W E σ H ρ fs (match bindT _ RT.im _ ρ with
        | some ρ'' => .ok .nx ρ''
        | none => .no) → RunS exV B (fun _ _ _ _ => False) E σ H ρ fs (match bindT _ RT.im _ ρ with
        | some ρ'' => .ok .nx ρ''
        | none => .no)
      split
      · exact fun q => q
      · exact fun q => q)
  · rename_i i
    have e : (∃ v, exc G C (.ret (.var i)) ρ = .ok (.rt v) ρ) ∨ exc G C (.ret (.var i)) ρ = .no := by
      unfold exc ev
      cases ea : ρ.at i with
      | none => exact .inr rfl
      | some v =>
        obtain ⟨s, d⟩ := v
        dsimp only [R.bind]
        cases retT (RV.nrm ⟨ST.rt i s, d⟩) with
        | none => exact .inr rfl
        | some w => exact .inl ⟨w, rfl⟩
    rcases e with ⟨v, e⟩ | e
    · rw [e] at q ⊢; exact q
    · rw [e] at q ⊢; exact q
  · cases hm
def hList (G : Tab) (C : Nat → Option D) (exV : Nat → Value) (B : Bs) : MHs → List (Value × (Addr → Value → Option Addr → TS))
  | .nil => []
  | .cons c m hs => (exV c, tH G C exV B m) :: hList G C exV B hs
theorem hds_ok (g : GdS I G C exV B k sc W X) : ∀ {hs : MHs} {hds : List ExceptHandler}, chkH I sc hs hds = true → HdsOk X hds (hList G C exV B hs)
  | .nil, [], _ => .nil
  | .nil, _ :: _, h => by simp [chkH] at h
  | .cons _ _ _, [], h => by simp [chkH] at h
  | .cons c m hs, hd :: hds, h => by
    unfold chkH at h
    split at h
    · rename_i e; cases e
    · rename_i c' m' hs' x np st pos' hds' e1 e2
      cases e1
      cases e2
      simp only [Bool.and_eq_true, decide_eq_true_eq] at h
      obtain ⟨⟨⟨⟨h1, h2⟩, h3⟩, h4⟩, h5⟩ := h
      obtain ⟨g1, g2⟩ := glob_gl g.g.esc h2
      refine .cons ⟨g1, g2, .inl (g.xm c x h1)⟩ (fun a oe cls d pn _ _ => ?_) (hds_ok g h5)
      exact pss_one (ok_handler g h3 h4 a _)
    · cases h
theorem many_of (g : GdS I G C exV B k sc W X) {E : Ends} {c : Nat} {σ : St} {H : Hp} {ρ : En} {fs : List FP} (st : StR B σ H ρ fs) : ∀ {hs : MHs} {hds : List ExceptHandler}, chkH I sc hs hds = true → RunS exV B W E σ H ρ fs (exh G C hs c ρ) → wMany X.K W E (hList G C exV B hs) (exV c) none σ H
  | .nil, hds, _, q => by
    unfold exh at q
    exact q σ H fs (StepS.refl st)
  | .cons c1 m hs, [], h, q => by simp [chkH] at h
  | .cons c1 m hs, hd :: hds, h, q => by
    unfold chkH at h
    split at h
    · rename_i e; cases e
    · rename_i c' m' hs' x np st' pos' hds' e1 e2
      cases e1
      cases e2
      simp only [Bool.and_eq_true, decide_eq_true_eq] at h
      obtain ⟨⟨⟨⟨h1, h2⟩, h3⟩, h4⟩, h5⟩ := h
      unfold exh at q
      refine ⟨decide (c = c1), g.xd c c1 x h1, fun e a _ => ?_, fun e => ?_⟩
      · rw [if_pos (of_decide_eq_true e)] at q
        exact ⟨ρ, fs, st, run_free h3 q⟩
      · rw [if_neg (of_decide_eq_false e)] at q
        exact many_of g st h5 q
    · cases h
/-- the context of a try's body -/
theorem GdS.tr (g : GdS I G C exV B k sc W X) {W' : WX} {pn : List (Addr × Obj)} {xe : Value → Shared → Prop} (tk : Takes (X.tr pn xe) W') (po : PassesOwn (model X.prog X.w) X.A X.env xe) : GdS I G C exV B k sc W' (X.tr pn xe) where
  g := { eP := g.g.eP, ew := g.g.ew, eK := g.g.eK, eN := g.g.eN, nd := g.g.nd, esc := g.g.esc, sto := g.g.sto, calm := g.g.calm, room := g.g.room, blt := g.g.blt, glo := g.g.glo, fun_ := g.g.fun_, takes := tk }
  kn := g.kn
  po := po
  stk := g.stk
  frm := g.frm
  xm := g.xm
  xd := g.xd
  xc := g.xc
theorem ok_tri (g : GdS I G C exV B k sc W X) {b : MSs} {hs : MHs} {x : List Stmt} {h : ExceptHandler} {hds : List ExceptHandler} (hh : chkH I sc hs (h :: hds) = true)
    (hb : ∀ (W' : WX) (X' : Cx), GdS I G C exV B k sc W' X' → PSs X' x (tExs G C exV B W' b)) : PS X (.Try x (h :: hds) [] [] pos) (tExc G C exV B W (.tri b hs)) := by
  refine PS.weak (ps_try_many g.stk g.frm g.g.takes (tb := fun W' => tExs G C exV B W' b) (fun W' pn xe tk po => hb W' _ (g.tr tk po)) (hds_ok g hh)) fun E σ H q => ?_
  obtain ⟨ρ, fs, st, q⟩ := q
  refine ⟨ρ, fs, st, ?_⟩
  unfold exc at q
  cases eb : exs G C b ρ with
  | no => rw [eb] at q; exact q
  | ok f ρ' =>
    rw [eb] at q
    cases f <;> exact q
  | ex c ρ' =>
    rw [eb] at q
    intro σ' H' fs' s
    exact many_of g s.st hh (RunS.later q s)
end
end Ev
end

section
set_option Elab.async false
set_option linter.all false
set_option maxRecDepth 100000
set_option maxHeartbeats 4000000
/-! What is checked is read rightly: statements, defs. -/
namespace Ev
open PySem L2
section
variable {I : Info} {G : Tab} {C : Nat → Option D} {exV : Nat → Value} {k : Nat}
theorem swB_inv {sc : Scope} {t x : Expr} (h : swB sc t x = true) : ∃ elt gs s lp y py, x = .ListComp elt gs s lp ∧ t = .Name y py ∧ lcl sc y = true ∧ (py.line == lp.line) = true ∧ (s.names.any fun (n, k) => n == y && (k == .local || k == .cell)) = false := by
  unfold swB at h
  split at h
  · simp only [Bool.and_eq_true, Bool.not_eq_true'] at h
    exact ⟨_, _, _, _, _, _, rfl, rfl, h.1.1, h.1.2, h.2⟩
  · cases h
theorem asg_lc {sc : Scope} {tg : TG} {e : ME} {t x : Expr} (h : (match tg, e, t, x with
      | .nm _ _, .lc _ _ _ _ _, .Name _ _, .ListComp _ [⟨_, _, _, 0⟩] _ _ => true
      | .nm _ _, .lc2 _ _ _ _ _ _ _ _, .Name _ _, .ListComp _ [⟨_, _, [], 0⟩, ⟨_, _, _, 0⟩] _ _ => true
      | _, _, _, _ => !(swB sc t x)) = true) (hs : swB sc t x = true) : (∃ i o e0 tg0 own it c, tg = .nm i o ∧ e = .lc e0 tg0 own it c) ∨ ∃ i o e0 tg0 own it tg1 own1 it1 c, tg = .nm i o ∧ e = .lc2 e0 tg0 own it tg1 own1 it1 c := by
  split at h
  · exact .inl ⟨_, _, _, _, _, _, _, rfl, rfl⟩
  · exact .inr ⟨_, _, _, _, _, _, _, _, _, _, rfl, rfl⟩
  · rw [hs] at h; cases h
mutual
theorem ps_ok : ∀ (m : MS) {B : Bs} {sc : Scope} {W : WX} {X : Cx} {s : Stmt}, GdS I G C exV B k sc W X → chkS I sc m s = true → PS X s (tExc G C exV B W m)
  | .asg tg e, B, sc, W, X, s, g, h => by
    unfold chkS at h
    split at h
    · rename_i t x pos
      simp only [Bool.and_eq_true] at h
      obtain ⟨⟨⟨⟨h1, h2⟩, h3⟩, h4⟩, h5⟩ := h
      by_cases hs : swB sc t x = true
      · obtain ⟨elt, gs, s, lp, y, py, rfl, rfl, q1, q2, q3⟩ := swB_inv hs
        have q1 : sc.names.lookup y = some .local := by
          unfold lcl at q1
          split at q1
          · assumption
          · cases q1
        have hsw : swapsWith (.ListComp elt gs s lp) (some (.Name y py)) pos.line X.env = pure true := sw_true (by rw [g.g.esc]; exact g.kn) (by rw [g.g.esc]; exact q1) q2 q3
        rcases asg_lc h5 hs with ⟨i, o, e0, tg0, own, it, c, rfl, rfl⟩ | ⟨i, o, e0, tg0, own, it, tg1, own1, it1, c, rfl, rfl⟩
        · unfold chkg at h1
          simp only [bslotB, Bool.and_eq_true, decide_eq_true_eq] at h1
          unfold chk at h2
          split at h2
          · rename_i elt' t' iter ifs s' lp' ex
            cases ex
            simp only [Bool.and_eq_true, decide_eq_true_eq] at h2
            obtain ⟨⟨⟨⟨⟨⟨⟨c1, c0⟩, c2⟩, c3⟩, c4⟩, c5⟩, c6⟩, c7⟩ := h2
            have base := ok_setLc (spos := pos) (py := py) (e := e0) (c := c) g.g (by rw [g.g.eN]; exact h1.1) (by rw [g.g.esc]; exact q1) hsw (pi_ok it g.g c1 c0) c2 c3 c4 c5 (chki_fold c1 X.env) (fun B' X' g' => pe_ok e0 g' c6) (fun B' X' g' => by
              split at c7
              · split at c7
                · refine ⟨fun pins s σ H Q I q => pts_nil.run pins s σ H Q I ?_⟩
                  obtain ⟨ρ, fs, st, q⟩ := q
                  unfold evt at q
                  exact q H fs (Step.refl st)
                · cases c7
              · exact pts_one (pt_ok c g' c7).1
              · cases c7)
            refine PS.weak base fun E σ H q => ?_
            obtain ⟨ρ, fs, st, q⟩ := q
            unfold exc at q
            refine s_e st q fun v ρ1 x H1 f fs1 P s q => ?_
            split at q
            · rename_i ρ2 e
              exact gB_nm (store_val st P s e q)
            · exact q.elim
          · cases h2
        · unfold chkg at h1
          simp only [bslotB, Bool.and_eq_true, decide_eq_true_eq] at h1
          unfold chk at h2
          split at h2
          · rename_i elt' t' iter t2 iter2 ifs s' lp' ex
            cases ex
            simp only [Bool.and_eq_true, decide_eq_true_eq] at h2
            obtain ⟨⟨⟨⟨⟨⟨⟨⟨⟨⟨⟨⟨c1, c0⟩, c2⟩, c3⟩, c4⟩, c5⟩, c6⟩, c7⟩, c8⟩, c9⟩, c10⟩, c11⟩, c12⟩ := h2
            have base := ok_setLc2 (spos := pos) (py := py) (e := e0) (c := c) g.g (by rw [g.g.eN]; exact h1.1) (by rw [g.g.esc]; exact q1) hsw (pi_ok it g.g c1 c0) c2 c3 c4 c5 (chki_fold c1 X.env) c6 c7 c10 (fun env => chki_fold c8 env) (fun B' X' g' => pi_ok it1 g' c8 c9) (fun B' X' g' => pe_ok e0 g' c11) (fun B' X' g' => by
              split at c12
              · split at c12
                · refine ⟨fun pins s σ H Q I q => pts_nil.run pins s σ H Q I ?_⟩
                  obtain ⟨ρ, fs, st, q⟩ := q
                  unfold evt at q
                  exact q H fs (Step.refl st)
                · cases c12
              · exact pts_one (pt_ok c g' c12).1
              · cases c12)
            refine PS.weak base fun E σ H q => ?_
            obtain ⟨ρ, fs, st, q⟩ := q
            unfold exc at q
            refine s_e st q fun v ρ1 x H1 f fs1 P s q => ?_
            split at q
            · rename_i ρ2 e
              exact gB_nm (store_val st P s e q)
            · exact q.elim
          · cases h2
      · exact ok_asg g h1 h2 h3 (by simpa using hs) (pe_ok e g.g h2)
    · cases h
  | .par ts es, B, sc, W, X, s, g, h => by
    unfold chkS at h
    split at h
    · simp only [Bool.and_eq_true, decide_eq_true_eq, Bool.not_eq_true'] at h
      obtain ⟨⟨⟨⟨⟨⟨⟨⟨h1, h2⟩, h3⟩, h4⟩, h5⟩, h6⟩, h7⟩, h8⟩, h9⟩ := h
      exact ok_par2 g h1 h2 h3 h4 h5 h6 h7 h8 h9 (pa_ok es g.g h9)
    · rcases Bool.or_eq_true_iff.mp h with h | h
      · simp only [Bool.and_eq_true, decide_eq_true_eq, Bool.not_eq_true'] at h
        obtain ⟨⟨⟨⟨⟨⟨⟨⟨⟨⟨⟨⟨⟨h1, h2⟩, h3⟩, h4⟩, h5⟩, h6⟩, h7⟩, h8⟩, h9⟩, h10⟩, h11⟩, h12⟩, h13⟩, h14⟩ := h
        exact ok_par3 g h1 h2 h3 h4 h5 h6 h7 h8 h9 h10 h11 h12 h13 h14 (pa_ok es g.g h14)
      · simp only [Bool.and_eq_true, decide_eq_true_eq] at h
        obtain ⟨⟨⟨⟨⟨⟨⟨h1, h2⟩, h3⟩, h4⟩, h5⟩, h6⟩, h7⟩, h8⟩ := h
        exact ok_tup3 g h1 h2 h3 h4 h5 h6 h7 h8 (pa_ok es g.g h8)
    · cases h
  | .set i p e, B, sc, W, X, s, g, h => by
    unfold chkS at h
    split at h
    · rename_i ky
      simp only [Bool.and_eq_true] at h
      obtain ⟨⟨⟨h1, h2⟩, h3⟩, h4⟩ := h
      exact ok_set g h1 h3 h2 (pe_ok ky g.g h2) (pe_ok e g.g h4)
    · cases h
  | .app i p e, B, sc, W, X, s, g, h => by
    unfold chkS at h
    split at h
    · simp only [Bool.and_eq_true, decide_eq_true_eq] at h
      obtain ⟨⟨⟨h1, h2⟩, h3⟩, h4⟩ := h
      subst h1
      exact ok_app g h3 h2 h4 (pe_ok e g.g h4)
    · cases h
  | .st2 i a b e, B, sc, W, X, s, g, h => by
    unfold chkS at h
    split at h
    · simp only [Bool.and_eq_true] at h
      obtain ⟨⟨⟨h1, h2⟩, h3⟩, h4⟩ := h
      exact ok_st2 g h1 h2 h3 (pe_ok a g.g h2) (pe_ok b g.g h3) (pe_ok e g.g h4)
    · cases h
  | .apk i a e, B, sc, W, X, s, g, h => by
    unfold chkS at h
    split at h
    · simp only [Bool.and_eq_true, decide_eq_true_eq] at h
      obtain ⟨⟨⟨⟨h1, h2⟩, h3⟩, h4⟩, h5⟩ := h
      subst h1
      exact ok_apk g h3 h2 h4 h5 (pe_ok a g.g h4) (pe_ok e g.g h5)
    · cases h
  | .expr e, B, sc, W, X, s, g, h => by
    unfold chkS at h
    split at h
    · obtain ⟨h1, h2⟩ := Bool.and_eq_true_iff.mp h
      exact ok_expr g h1 (pe_ok e g.g h2)
    · cases h
  | .ret e, B, sc, W, X, s, g, h => by
    unfold chkS at h
    split at h
    · exact ok_ret (pe_ok e g.g h)
    · cases h
  | .retN, B, sc, W, X, s, g, h => by
    unfold chkS at h
    split at h
    · exact ok_retN
    · cases h
  | .ife c a b, B, sc, W, X, s, g, h => by
    unfold chkS at h
    split at h
    · simp only [Bool.and_eq_true] at h
      exact ok_ife (pt_ok c g.g h.1.1).1 (pss_ok a g h.1.2) (pss_ok b g h.2)
    · cases h
  | .whl c b, B, sc, W, X, s, g, h => by
    unfold chkS at h
    split at h
    · simp only [Bool.and_eq_true] at h
      exact ok_whl g (pt_ok c g.g h.1).1 (pss_ok b g h.2)
    · cases h
  | .fr tg it b, B, sc, W, X, s, g, h => by
    unfold chkS at h
    split at h
    · simp only [Bool.and_eq_true] at h
      exact ok_fr g h.1.1.1 (pi_ok it g.g h.1.1.2 h.1.2) (chki_fold h.1.1.2 X.env) (pss_ok b g h.2)
    · cases h
  | .rse c, B, sc, W, X, s, g, h => by
    unfold chkS at h
    split at h
    · simp only [Bool.and_eq_true, decide_eq_true_eq] at h
      exact ok_rse g h.1 h.2
    · cases h
  | .tri b hs, B, sc, W, X, s, g, h => by
    unfold chkS at h
    split at h
    · obtain ⟨h1, h2⟩ := Bool.and_eq_true_iff.mp h
      exact ok_tri g h2 fun W' X' g' => pss_ok b g' h1
    · cases h
  | .pass, B, sc, W, X, s, g, h => by
    unfold chkS at h
    split at h
    · exact ok_pass
    · cases h
  | .brk, B, sc, W, X, s, g, h => by
    unfold chkS at h
    split at h
    · exact ok_brk
    · cases h
  | .cnt, B, sc, W, X, s, g, h => by
    unfold chkS at h
    split at h
    · exact ok_cnt
    · cases h
theorem pss_ok : ∀ (ms : MSs) {B : Bs} {sc : Scope} {W : WX} {X : Cx} {ss : List Stmt}, GdS I G C exV B k sc W X → chkSs I sc ms ss = true → PSs X ss (tExs G C exV B W ms)
  | .nil, B, sc, W, X, ss, g, h => by
    cases ss with
    | nil => exact ok_snil
    | cons s ss => simp [chkSs] at h
  | .cons m ms, B, sc, W, X, ss, g, h => by
    cases ss with
    | nil => simp [chkSs] at h
    | cons s ss =>
      have h' : (chkS I sc m s && chkSs I sc ms ss) = true ∨ (litAsg I sc m s && chkST I sc ms ss) = true := by
        unfold chkSs at h
        exact Bool.or_eq_true_iff.mp h
      rcases h' with h' | h'
      · obtain ⟨h1, h2⟩ := Bool.and_eq_true_iff.mp h'
        exact ok_scons (ps_ok m g h1) (pss_ok ms g h2)
      · obtain ⟨h1, h2⟩ := Bool.and_eq_true_iff.mp h'
        exact litAsg_ok g h1 (psst_ok ms g h2)
theorem psst_ok : ∀ (ms : MSs) {B : Bs} {sc : Scope} {W : WX} {X : Cx} {ss : List Stmt}, GdS I G C exV B k sc W X → chkST I sc ms ss = true → PSsT X ss (tExs G C exV B W ms)
  | .nil, B, sc, W, X, ss, g, h => by
    cases ss with
    | nil => exact PSsT.of ok_snil
    | cons s ss => simp [chkST] at h
  | .cons m ms, B, sc, W, X, ss, g, h => by
    cases ss with
    | nil => simp [chkST] at h
    | cons s ss =>
      unfold chkST at h
      obtain ⟨h1, h2⟩ := Bool.and_eq_true_iff.mp h
      have p1 : PST X s (tExc G C exV B W m) := by
        rcases Bool.or_eq_true_iff.mp h1 with h1 | h1
        · exact PST.of (ps_ok m g h1)
        · exact reS_ok g (fun o x q => pe_ok o g.g q) h1
      exact ok_sconsT p1 (psst_ok ms g h2)
end
end
end Ev
end

section
set_option Elab.async false
set_option linter.all false
set_option maxRecDepth 100000
set_option maxHeartbeats 1000000
/-! Whole defs. -/
namespace Ev
open PySem L2
section
variable {P : Program} {w : World} {K : PySem.W.Frag}
theorem ArgsR.len {H : Hp} : ∀ {ms : List Mode} {vs : List V} {ds : List D} {fs : List FP}, ArgsR P w K H ms vs ds fs → ms.length = vs.length ∧ ds.length = vs.length ∧ fs.length = vs.length
  | _, _, _, _, .nil => ⟨rfl, rfl, rfl⟩
  | _, _, _, _, .cons _ _ h => by simp [h.len.1, h.len.2.1, h.len.2.2]
theorem null_slots {B : Bs} {H : Hp} : ∀ (n : Nat), Slots B H (List.replicate n none) (List.replicate n none) (List.replicate n fz)
  | 0 => .nil
  | n + 1 => by
    rw [List.replicate_succ, List.replicate_succ, List.replicate_succ]
    exact .cons .nul (null_slots n)
theorem null_sum (p : ST → Bool) : ∀ (n : Nat) (a : Addr), sumOf p (List.replicate n none) (List.replicate n fz) a = 0
  | 0, _ => rfl
  | n + 1, a => by
    rw [List.replicate_succ, List.replicate_succ]
    show 0 + sumOf p _ _ a = 0
    rw [null_sum p n a]
/-- the environment at the entry -/
theorem start_env {H : Hp} {n : Nat} : ∀ {ms : List Mode} {vs : List V} {ds : List D} {fs : List FP}, ArgsR P w K H ms vs ds fs → ∀ (B : Bs), B.P = P → B.w = w → B.K = K → ∃ ρ, startE ms ds n = some ρ ∧ Slots B H ρ (vs.map some ++ List.replicate n none) (fs ++ List.replicate n fz) ∧
    (∀ a, sumOf own ρ (fs ++ List.replicate n fz) a = mSum isRf ms fs a) ∧ (∀ a, sumOf frz ρ (fs ++ List.replicate n fz) a = mSum isVl ms fs a) ∧
    (∀ (i : Nat) (d : D), ρ[i]? = some (some ⟨.rf, d⟩) → ms[i]? = some .rf)
  | _, _, _, _, .nil, B, h1, h2, h3 => ⟨_, rfl, null_slots n, null_sum own n, null_sum frz n, fun i d e => by
      exfalso
      have := List.mem_of_getElem? e
      rw [List.mem_replicate] at this
      cases this.2⟩
  | _, _, _, _, .cons (m := m) (ms := ms) (v := v) (d := d) (f := f) (fs := fs) r him h, B, h1, h2, h3 => by
    obtain ⟨ρ, e1, e2, e3, e4, e5⟩ := start_env (n := n) h B h1 h2 h3
    refine ⟨some ⟨m.slot, d⟩ :: ρ, by unfold startE; rw [e1]; rfl, ?_, fun a => ?_, fun a => ?_, fun i d' e => ?_⟩
    · refine .cons (.val (by rw [h1, h2, h3]; exact r) fun z => him ?_) e2
      cases m <;> first | rfl | cases z
    · show ctr own (some ⟨m.slot, d⟩) f a + sumOf own ρ (fs ++ List.replicate n fz) a = (if isRf m then f else fz) a + mSum isRf ms fs a
      rw [e3 a]
      cases m <;> rfl
    · show ctr frz (some ⟨m.slot, d⟩) f a + sumOf frz ρ (fs ++ List.replicate n fz) a = (if isVl m then f else fz) a + mSum isVl ms fs a
      rw [e4 a]
      cases m <;> rfl
    · cases i with
      | zero =>
        simp at e
        cases m <;> first | rfl | cases e.1
      | succ i => simpa using e5 i d' (by simpa using e)
/-- the changed parameters at the end -/
theorem outs_of {B : Bs} {H' : Hp} (h1 : B.P = P) (h2 : B.w = w) (h3 : B.K = K) : ∀ {ms : List Mode} {vs : List V} {o : List D} {j : Nat} {ρ : En} {σ : St} {fs : List FP}, Slots B H' ρ σ fs → ms.length = vs.length → (∀ (i : Nat) (v : V), ms[i]? = some .rf → vs[i]? = some v → (∃ d, ρ[j + i]? = some (some ⟨.rf, d⟩)) → σ[j + i]? = some (some v)) →
    outsOf ms j ρ = some o → ∃ gs, OutsR P w K H' ms vs o gs ∧ ∀ a, sumF gs a ≤ sumOf own (ρ.drop j) (fs.drop j) a
  | [], [], o, j, ρ, σ, fs, sl, _, hv, e => by cases e; exact ⟨[], .nil, fun a => Nat.zero_le _⟩
  | [], _ :: _, _, _, _, _, _, _, h, _, _ => by cases h
  | _ :: _, [], _, _, _, _, _, _, h, _, _ => by cases h
  | m :: ms, v :: vs, o, j, ρ, σ, fs, sl, hl, hv, e => by
    have hv' : ∀ (i : Nat) (v' : V), ms[i]? = some .rf → vs[i]? = some v' → (∃ d, ρ[j + 1 + i]? = some (some ⟨.rf, d⟩)) → σ[j + 1 + i]? = some (some v') := fun i v' q1 q2 q3 => by
      have q := hv (i + 1) v' (by simpa using q1) (by simpa using q2)
      rw [show j + (i + 1) = j + 1 + i by omega] at q
      exact q q3
    have stepLe : ∀ a, sumOf own (ρ.drop (j + 1)) (fs.drop (j + 1)) a ≤ sumOf own (ρ.drop j) (fs.drop j) a := fun a => by
      by_cases l : j < ρ.length
      · have l2 : j < fs.length := by rw [sl.len.2, ← sl.len.1]; exact l
        rw [List.drop_eq_getElem_cons l, List.drop_eq_getElem_cons l2]
        exact Nat.le_add_left _ _
      · rw [List.drop_eq_nil_of_le (by omega : ρ.length ≤ j + 1)]
        exact Nat.zero_le _
    have skip : isRf m = false → outsOf ms (j + 1) ρ = some o → ∃ gs, OutsR P w K H' (m :: ms) (v :: vs) o gs ∧ ∀ a, sumF gs a ≤ sumOf own (ρ.drop j) (fs.drop j) a := fun hm e => by
      obtain ⟨gs, q1, q2⟩ := outs_of h1 h2 h3 sl (by simpa using hl) hv' e
      exact ⟨gs, .skip hm q1, fun a => Nat.le_trans (q2 a) (stepLe a)⟩
    cases m with
    | im => exact skip rfl e
    | vl => exact skip rfl e
    | rf =>
      unfold outsOf at e
      split at e
      · rename_i d ea
        obtain ⟨o', e1, rfl⟩ := Option.map_eq_some_iff.mp e
        obtain ⟨gs, q1, q2⟩ := outs_of h1 h2 h3 sl (by simpa using hl) hv' e1
        have ea := at_some ea
        obtain ⟨ov, f, eo, ef, s⟩ := sl.get ea
        have := hv 0 v rfl rfl ⟨d, ea⟩
        rw [Nat.add_zero, eo] at this
        cases this
        cases s with
        | val r _ =>
          rw [h1, h2, h3] at r
          refine ⟨f :: gs, .rf r q1, fun a => ?_⟩
          obtain ⟨l, el⟩ := List.getElem?_eq_some_iff.mp ea
          obtain ⟨l2, el2⟩ := List.getElem?_eq_some_iff.mp ef
          rw [List.drop_eq_getElem_cons l, List.drop_eq_getElem_cons l2, el, el2]
          have := q2 a
          show f a + sumF gs a ≤ f a + sumOf own (ρ.drop (j + 1)) (fs.drop (j + 1)) a
          omega
      · cases e
/-- the state at the entry -/
def Bs.entry (P : Program) (w : World) (K : PySem.W.Frag) (H : Hp) (ms : List Mode) (fs : List FP) : Bs := ⟨P, w, K, H, mSum isRf ms fs, fun a => 0 < sumF fs a⟩
theorem start_st {H : Hp} {n : Nat} {ms : List Mode} {vs : List V} {ds : List D} {fs : List FP} (h : ArgsR P w K H ms vs ds fs) (le : ∀ a, mSum isRf ms fs a ≤ 1) (dj : ∀ a, 0 < mSum isRf ms fs a → mSum isVl ms fs a = 0) :
    ∃ ρ, startE ms ds n = some ρ ∧ StR (Bs.entry P w K H ms fs) (vs.map some ++ List.replicate n none) H ρ (fs ++ List.replicate n fz) ∧ (∀ a, sumOf own ρ (fs ++ List.replicate n fz) a = mSum isRf ms fs a) ∧ (∀ (i : Nat) (d : D), ρ[i]? = some (some ⟨.rf, d⟩) → ms[i]? = some .rf) := by
  obtain ⟨ρ, e1, e2, e3, e4, e5⟩ := start_env (n := n) h (Bs.entry P w K H ms fs) rfl rfl rfl
  refine ⟨ρ, e1, ⟨e2, fun a => by rw [e3]; exact le a, fun a z => by rw [e3] at z; rw [e4]; exact dj a z, fun a o h _ => h, fun a h => h, fun f hf a z => ?_, fun a z => by rw [e3] at z; exact .inr z⟩, e3, e5⟩
  rcases List.mem_append.mp hf with hf | hf
  · refine .inr ?_
    show 0 < sumF fs a
    have key : ∀ (l : List FP), f ∈ l → f a ≤ sumF l a := fun l => by
      induction l with
      | nil => intro h; cases h
      | cons g l ih =>
        intro h
        show f a ≤ g a + sumF l a
        rcases List.mem_cons.mp h with rfl | h
        · omega
        · have := ih h; omega
    have := key fs hf
    omega
  · rw [List.mem_replicate] at hf
    rw [hf.2] at z
    exact absurd z (Nat.lt_irrefl _)
/-- what stands behind the def -/
theorem end_fr {H H' : Hp} {n : Nat} {ms : List Mode} {vs : List V} {ds o : List D} {fs fs' : List FP} {ρ ρ' : En} {σ' : St} (h : ArgsR P w K H ms vs ds fs) (st0 : StR (Bs.entry P w K H ms fs) (vs.map some ++ List.replicate n none) H ρ (fs ++ List.replicate n fz))
    (s : StepS (Bs.entry P w K H ms fs) (vs.map some ++ List.replicate n none) H ρ (fs ++ List.replicate n fz) σ' H' ρ' fs') (eo : outsOf ms 0 ρ' = some o) : ∃ gs, FnFr P w K ms vs H fs o H' gs ∧ ∀ a, sumF gs a ≤ sumOf own ρ' fs' a := by
  have hl := h.len
  obtain ⟨gs, q1, q2⟩ := outs_of (P := P) (w := w) (K := K) (B := Bs.entry P w K H ms fs) (ms := ms) (vs := vs) rfl rfl rfl s.st.sl hl.1 (fun i v e1 e2 ⟨d, e3⟩ => by
    rw [Nat.zero_add] at e3 ⊢
    rw [(s.rf i d e3).2]
    have l : i < vs.length := (List.getElem?_eq_some_iff.mp e2).1
    rw [List.getElem?_append_left (by simpa using l), List.getElem?_map, e2]
    rfl) eo
  simp only [List.drop_zero] at q2
  have b3' : ∀ a, 0 < sumOf own ρ' fs' a → H a = none ∨ 0 < sumF fs a := fun a z => by
    have key : ∀ (ρ : En) (l : List FP), 0 < sumOf own ρ l a → ∃ f ∈ l, 0 < f a := fun ρ => by
      induction ρ with
      | nil => intro l z; exact absurd z (Nat.lt_irrefl _)
      | cons x ρ ih =>
        intro l z
        cases l with
        | nil => exact absurd z (Nat.lt_irrefl _)
        | cons f l =>
          have z' : 0 < ctr own x f a + sumOf own ρ l a := z
          by_cases c : 0 < ctr own x f a
          · exact ⟨f, by simp, Nat.lt_of_lt_of_le c (ctr_le ..)⟩
          · obtain ⟨f', h1, h2⟩ := ih l (by omega)
            exact ⟨f', by simp [h1], h2⟩
    obtain ⟨f, h1, h2⟩ := key ρ' fs' z
    exact s.st.b3 f h1 a h2
  refine ⟨gs, ⟨fun a u hu z => s.st.b1 a u hu z, fun a hu => s.st.b2 a hu, q1, fun a => Nat.le_trans (q2 a) (s.st.m1 a), fun a z => s.st.b4 a (Nat.lt_of_lt_of_le z (q2 a)), fun a z => b3' a (Nat.lt_of_lt_of_le z (q2 a))⟩, q2⟩
end
/-- what holds of the module for every def -/
structure ModK (I : Info) (C : Nat → Option D) (exV : Nat → Value) (P : Program) (w : World) (K : PySem.W.Frag) (mg : Str → Option Value) (base : Heap) : Prop where
  blt : ∀ x : Str, x ∈ ([("len" : Str), "isinstance", "max", "min", "abs", "sum", "all", "tuple", "list", "int", "bool", "str", "range", "enumerate", "dict", "sorted", "zip"] : List Str) → mg x = none
  glo : ∀ n x, I.gls[n]? = some x → ∃ d u v, C n = some d ∧ mg x = some u ∧ RelV v u ∧ (∀ H, Rep P w K H v d fz) ∧ TupK K d v
  xm : ∀ c x, I.xcs[c]? = some x → mg x = some (exV c)
  xd : ∀ c0 c1 x1, I.xcs[c1]? = some x1 → PySem.W.exmOne K (exV c0) (exV c1) = some (decide (c0 = c1))
  xc : ∀ (X : Cx), X.prog = P → X.w = w → X.K = K → X.mg = mg → X.base = base → ∀ c x, I.xcs[c]? = some x → Gl X x → ∀ (m : Str) (j : Nat) (p p2 pos : Pos), PMk X (.Call (.Name x p) [.Constant (.str m) j p2] [] pos) (fun _ H Q => Q (exV c) none H)
/-- the functions that a def may call -/
def FunsK (I : Info) (G : Tab) (exV : Nat → Value) (P : Program) (w : World) (K : PySem.W.Frag) (mg : Str → Option Value) (base : Heap) (k : Nat) : Prop :=
  ∀ n x, I.fns[n]? = some x → ∃ F f fd ps, G n = some F ∧ mg x = some (.ref f) ∧ PySem.W.keepIn K (.ref f) = true ∧ Binds K fd ps [] ∧ FnOk P w K mg base (L2.CX P w) k f fd ps (spF P w K exV F)
/-- the scope's part of the check -/
def scB (sc : Scope) : Bool := match sc.kind with
  | .function => true
  | _ => false
theorem scB_kind {sc : Scope} (h : scB sc = true) : sc.kind = .function := by
  unfold scB at h
  split at h
  · assumption
  · cases h
section
variable {I : Info} {G : Tab} {C : Nat → Option D} {exV : Nat → Value} {P : Program} {w : World} {K : PySem.W.Frag} {mg : Str → Option Value} {base : Heap} {k : Nat}
theorem fn_sound {x qual : Str} {params : Arguments} {body : List Stmt} {scope : Scope} {f : Addr} {fd : FuncData} {ps : List Str} {dvs : List V} {kws : List (Str × V)} {ms : List Mode} {b : MSs} (M : ModK I C exV P w K mg base) (T : FunsK I G exV P w K mg base k)
    (F : FunD K x qual params body scope dvs kws f fd) (S : FnScope I.N ps scope) (hm : ms.length = ps.length) (hc : chkSs I scope b body = true) :
    FnOk P w K mg base (L2.CX P w) (k + 1) f fd ps (spF P w K exV ⟨ms, runF G C ms (I.N.length - ps.length) b⟩) := by
  refine F.ok (CX := L2.CX P w) S (fun vs H Q E h => ?_) fun cdv A outer s H vs Q E hr h => ?_
  · obtain ⟨ds, fs, h, _⟩ := h
    rw [← h.len.1, ← hm]
  · obtain ⟨ds, fs, h1, h2, h3, h4⟩ := h
    have h4 : (match runF G C ms (I.N.length - ps.length) b ds with
      | .ret v outs => ∀ x H' f gs, FnFr P w K ms vs H fs outs H' gs → Rep P w K H' x v.d f → FnTag ms H fs gs v.t f → Q x H'
      | .ex c outs => ∀ H' gs, FnFr P w K ms vs H fs outs H' gs → E (exV c) none H'
      | .no => False) := h4
    have hl : vs.length = ps.length := by rw [← h1.len.1, ← hm]
    obtain ⟨ρ, e1, st, so, hrf⟩ := start_st (n := I.N.length - ps.length) h1 h2 h3
    have g : GdS I G C exV (Bs.entry P w K H ms fs) k scope (fun cls d _ H => E cls d H) (cxOf (L2.CX P w) P w K mg base I.N qual scope f cdv A outer s H E) := {
      g := {
        eP := rfl
        ew := rfl
        eK := rfl
        eN := rfl
        nd := S.nd
        esc := rfl
        sto := fun x hx => by
          unfold stor at hx
          split at hx
          · exact ⟨.inl (by assumption), .inl rfl⟩
          · exact ⟨.inr (by assumption), .inl rfl⟩
          · cases hx
        calm := rfl
        room := hr
        blt := M.blt
        glo := M.glo
        fun_ := T
        takes := takes_of rfl rfl rfl rfl }
      kn := S.kind
      po := passes_of rfl
      stk := rfl
      frm := rfl
      xm := M.xm
      xd := M.xd
      xc := M.xc }
    refine ⟨_, pss_ok b g hc, ?_⟩
    have es : start I.N vs = vs.map some ++ List.replicate (I.N.length - ps.length) none := by unfold L2.start; rw [hl]
    rw [es]
    refine ⟨ρ, fs ++ List.replicate (I.N.length - ps.length) fz, st, ?_⟩
    have e1 : startE ms ds (I.N.length - ps.length) = some ρ := e1
    generalize hN : I.N.length - ps.length = n at *
    have none_ : ∀ (r : SR), runF G C ms n b ds = r → (match r with
      | .ret v outs => ∀ x H' f gs, FnFr P w K ms vs H fs outs H' gs → Rep P w K H' x v.d f → FnTag ms H fs gs v.t f → Q x H'
      | .ex c outs => ∀ H' gs, FnFr P w K ms vs H fs outs H' gs → E (exV c) none H'
      | .no => False) := fun r e => by rw [e] at h4; exact h4
    cases er : exs G C b ρ with
    | no => exact (none_ .no (by unfold runF; rw [e1]; dsimp only; rw [er])).elim
    | ex c ρ' =>
      cases eo : outsOf ms 0 ρ' with
      | none => exact (none_ .no (by unfold runF; rw [e1]; dsimp only; rw [er]; dsimp only; rw [eo])).elim
      | some o =>
        have q := none_ (.ex c o) (by unfold runF; rw [e1]; dsimp only; rw [er]; dsimp only; rw [eo])
        intro σ' H' fs' s
        obtain ⟨gs, fr, _⟩ := end_fr h1 st s eo
        exact q H' gs fr
    | ok fl ρ' =>
      cases fl with
      | bk => exact (none_ .no (by unfold runF; rw [e1]; dsimp only; rw [er])).elim
      | ct => exact (none_ .no (by unfold runF; rw [e1]; dsimp only; rw [er])).elim
      | nx =>
        cases eo : outsOf ms 0 ρ' with
        | none => exact (none_ .no (by unfold runF; rw [e1]; dsimp only; rw [er]; dsimp only; rw [eo])).elim
        | some o =>
          have q := none_ (.ret ⟨.im, .non⟩ o) (by unfold runF; rw [e1]; dsimp only; rw [er]; dsimp only; rw [eo])
          intro σ' H' fs' s
          obtain ⟨gs, fr, _⟩ := end_fr h1 st s eo
          exact q .non H' fz gs fr .non rfl
      | rt v =>
        cases eo : outsOf ms 0 ρ' with
        | none => exact (none_ .no (by unfold runF; rw [e1]; dsimp only; rw [er]; dsimp only; rw [eo])).elim
        | some o =>
          have q := none_ (.ret v o) (by unfold runF; rw [e1]; dsimp only; rw [er]; dsimp only; rw [eo])
          intro σ' x H' f' fs' s r tg pv
          obtain ⟨gs, fr, gle⟩ := end_fr h1 st s eo
          refine q x H' f' gs fr r ?_
          generalize v.t = t at tg
          cases t with
          | im => exact tg
          | vl =>
            intro a z
            have h5 := tg a z
            have h6 := gle a
            exact ⟨by omega, pv a z⟩
          | fr =>
            refine fun a => ⟨(tg a).1, fun z => ?_⟩
            obtain ⟨h5, h6⟩ := (tg a).2 z
            have h7 := gle a
            exact ⟨by omega, h6⟩
          | tm i => exact tg
end
end Ev
end

section
set_option Elab.async false
set_option linter.all false
set_option maxRecDepth 100000
set_option maxHeartbeats 1000000
/-! All defs of a module, one behind another. -/
namespace Ev
open PySem L2
structure Desc where
  name : Str
  params : Arguments
  body : List Stmt
  scope : Scope
  ps : List Str
  N : List Str
  ms : List Mode
  b : MSs
noncomputable def mkF (C : Nat → Option D) (tb : List Fn) (d : Desc) : Fn := ⟨d.ms, runF (fun n => tb[n]?) C d.ms (d.N.length - d.ps.length) d.b⟩
def FunsL (names : List Str) (tb : List Fn) (exV : Nat → Value) (P : Program) (w : World) (K : PySem.W.Frag) (mg : Str → Option Value) (base : Heap) (k : Nat) : Prop :=
  ∀ (n : Nat) (x : Str), names[n]? = some x → ∃ (F : Fn) (f : Addr) (fd : FuncData) (ps : List Str), tb[n]? = some F ∧ mg x = some (.ref f) ∧ PySem.W.keepIn K (.ref f) = true ∧ Binds K fd ps [] ∧ FnOk P w K mg base (L2.CX P w) k f fd ps (spF P w K exV F)
/-- where a def stands -/
def Stands (K : PySem.W.Frag) (mg : Str → Option Value) (d : Desc) : Prop := ∃ f fd, mg d.name = some (.ref f) ∧ PySem.W.keepIn K (.ref f) = true ∧ Binds K fd d.ps [] ∧ FunD K d.name d.name d.params d.body d.scope [] [] f fd
section
variable {C : Nat → Option D} {exV : Nat → Value} {P : Program} {w : World} {K : PySem.W.Frag} {mg : Str → Option Value} {base : Heap} {gls xcs : List Str}
theorem funs_step {names : List Str} {tb : List Fn} {k : Nat} {d : Desc} (hl : names.length = tb.length) (M : ∀ I : Info, I.gls = gls → I.xcs = xcs → ModK I C exV P w K mg base) (T : FunsL names tb exV P w K mg base k) (S : FnScope d.N d.ps d.scope) (hm : d.ms.length = d.ps.length)
    (hc : chkSs ⟨d.N, names, gls, xcs⟩ d.scope d.b d.body = true) (hd : Stands K mg d) : FunsL (names ++ [d.name]) (tb ++ [mkF C tb d]) exV P w K mg base (k + 1) := by
  obtain ⟨f, fd, e1, e2, e3, e4⟩ := hd
  have F := fn_sound (I := ⟨d.N, names, gls, xcs⟩) (G := fun n => tb[n]?) (M _ rfl rfl) T e4 S hm hc
  intro n x hn
  by_cases c : n < names.length
  · rw [List.getElem?_append_left c] at hn
    obtain ⟨F', f', fd', ps', q1, q2, q3, q4, q5⟩ := T n x hn
    exact ⟨F', f', fd', ps', by rw [List.getElem?_append_left (by omega)]; exact q1, q2, q3, q4, q5.mono (Nat.le_succ k)⟩
  · have e : n = names.length := by
      have := (List.getElem?_eq_some_iff.mp hn).1
      simp at this
      omega
    subst e
    rw [List.getElem?_append_right (Nat.le_refl _), Nat.sub_self] at hn
    have ex : d.name = x := by simpa using hn
    subst ex
    refine ⟨mkF C tb d, f, fd, d.ps, ?_, e1, e2, e3, F⟩
    rw [hl, List.getElem?_append_right (Nat.le_refl _), Nat.sub_self]
    rfl
/-- all of a list -/
noncomputable def tabs (C : Nat → Option D) : List Desc → List Fn → List Fn
  | [], tb => tb
  | d :: ds, tb => tabs C ds (tb ++ [mkF C tb d])
def okAll (gls xcs : List Str) : List Desc → List Str → Prop
  | [], _ => True
  | d :: ds, names => (FnScope d.N d.ps d.scope ∧ d.ms.length = d.ps.length ∧ chkSs ⟨d.N, names, gls, xcs⟩ d.scope d.b d.body = true) ∧ okAll gls xcs ds (names ++ [d.name])
theorem funs_all (M : ∀ I : Info, I.gls = gls → I.xcs = xcs → ModK I C exV P w K mg base) : ∀ (ds : List Desc) {names : List Str} {tb : List Fn} {k : Nat}, names.length = tb.length → FunsL names tb exV P w K mg base k → okAll gls xcs ds names → (∀ d ∈ ds, Stands K mg d) →
    FunsL (names ++ ds.map (·.name)) (tabs C ds tb) exV P w K mg base (k + ds.length)
  | [], names, tb, k, hl, T, _, _ => by simpa [tabs] using T
  | d :: ds, names, tb, k, hl, T, ⟨⟨o1, o2, o3⟩, o4⟩, st => by
    have T1 := funs_step hl M T o1 o2 o3 (st d (by simp))
    have := funs_all M ds (names := names ++ [d.name]) (tb := tb ++ [mkF C tb d]) (k := k + 1) (by simp [hl]) T1 o4 fun d' h => st d' (by simp [h])
    rw [List.append_assoc] at this
    have e : k + 1 + ds.length = k + (d :: ds).length := by simp; omega
    rw [e] at this
    exact this
end
end Ev
end

section
set_option Elab.async false
set_option linter.all false
set_option maxRecDepth 100000
set_option maxHeartbeats 1000000
/-! The join: from the head's facts to the law's own promise. -/
namespace Ev
open PySem PySem.Spec L2
def bltN : List Str := ["len", "isinstance", "max", "min", "abs", "sum", "all", "tuple", "list", "int", "bool", "str", "range", "enumerate", "dict", "sorted", "zip"]
/-- the facts that are asked of the head -/
def mkFa (fns xcs : List Str) (ics : List (Str × Int)) : List He.Fa :=
  (fns ++ xcs).map He.Fa.glo ++ (xcs.map He.Fa.exc ++ ((("PressError" : Str) :: xcs).flatMap (fun x => xcs.map fun y => He.Fa.exm x y (decide (x = y))) ++ (ics.map (fun p => He.Fa.int p.1 p.2) ++ bltN.map He.Fa.free)))
def mkD (d : Desc) : He.DefD := ⟨(d.name, none), d.name, d.name, d.params, d.body, d.scope, [], []⟩
def BindOk (d : Desc) : Prop := ∀ (kV doc pm : Value) (an : Option Addr) (cdv ct : Value) (us : List Value), us.length = d.ps.length → bindArgs (PySem.W.fnOf d.name d.name d.params d.body d.scope .none kV doc pm an cdv ct) ⟨us, []⟩ = pure (d.ps.zip us)
def exVof (K : PySem.W.Frag) (xcs : List Str) (c : Nat) : Value := .ref (He.ga K (xcs.getD c "PressError"))
def intC (ics : List (Str × Int)) (n : Nat) : Option D := (ics[n]?).map fun p => .int p.2
section
variable {P : Program} {w : World} {K : PySem.W.Frag} {h base : Heap} {mg : Str → Option Value} {fns xcs : List Str} {ics : List (Str × Int)}
theorem modK_of (X : K.In h) (G : h.Ns mainGlobals mg) (all : ∀ f ∈ mkFa fns xcs ics, f.ok K = true) (nx : xcs.Nodup) (np : ("PressError" : Str) ∉ xcs) (nd : xcs.all (fun x => !(x == ("__debug__" : Str))) = true) (I : Info) (e1 : I.gls = ics.map (·.1)) (e2 : I.xcs = xcs) :
    ModK I (intC ics) (exVof K xcs) P w K mg base where
  blt := fun x hx => He.free_ok X G (all (.free x) (by
    unfold mkFa
    simp only [List.mem_append]
    exact .inr (.inr (.inr (.inr (List.mem_map.mpr ⟨x, by unfold bltN; exact hx, rfl⟩)))))) 
  glo := fun n x hx => by
    rw [e1, List.getElem?_map] at hx
    obtain ⟨p, ep, rfl⟩ := Option.map_eq_some_iff.mp hx
    obtain ⟨t, et⟩ := He.int_ok X G (all (.int p.1 p.2) (by
      unfold mkFa
      simp only [List.mem_append]
      exact .inr (.inr (.inr (.inl (List.mem_map.mpr ⟨p, List.mem_of_getElem? ep, rfl⟩))))))
    exact ⟨.int p.2, _, .int p.2, by unfold intC; rw [ep]; rfl, et, ⟨t, rfl⟩, fun H => .int _, fun z => nomatch z⟩
  xm := fun c x hx => by
    rw [e2] at hx
    have hm := List.mem_of_getElem? hx
    have q := He.glo_ok X G (all (.glo x) (by
      unfold mkFa
      rw [List.mem_append]
      exact .inl (List.mem_map.mpr ⟨x, List.mem_append_right _ hm, rfl⟩)))
    rw [q]
    unfold exVof
    rw [List.getD_eq_getElem?_getD, hx]
    rfl
  xd := fun c0 c1 x1 hx => by
    rw [e2] at hx
    have hm := List.mem_of_getElem? hx
    have hx0 : xcs.getD c0 "PressError" ∈ (("PressError" : Str) :: xcs) := by
      rw [List.getD_eq_getElem?_getD]
      cases e : xcs[c0]? with
      | none => simp
      | some y => simp [List.mem_of_getElem? e]
    have hx1 : xcs.getD c1 "PressError" = x1 := by rw [List.getD_eq_getElem?_getD, hx]; rfl
    have q := He.exm_ok (all (.exm (xcs.getD c0 "PressError") x1 (decide (xcs.getD c0 "PressError" = x1))) (by
      unfold mkFa
      simp only [List.mem_append]
      exact .inr (.inr (.inl (List.mem_flatMap.mpr ⟨_, hx0, List.mem_map.mpr ⟨x1, hm, rfl⟩⟩)))))
    unfold exVof
    rw [hx1, q]
    congr 1
    by_cases c : c0 = c1
    · subst c
      rw [decide_eq_true rfl, decide_eq_true hx1]
    · rw [decide_eq_false c, decide_eq_false]
      intro z
      rw [List.getD_eq_getElem?_getD] at z
      cases e : xcs[c0]? with
      | none =>
        rw [e] at z
        have z : ("PressError" : Str) = x1 := z
        rw [z] at np
        exact np hm
      | some y =>
        rw [e] at z
        have z : y = x1 := z
        subst z
        have l0 := (List.getElem?_eq_some_iff.mp e)
        have l1 := (List.getElem?_eq_some_iff.mp hx)
        exact c ((List.getElem?_inj l0.1 nx).mp (e.trans hx.symm))
  xc := fun X' h1 h2 h3 h4 h5 c x hx hg m j p p2 pos => by
    rw [e2] at hx
    have hm := List.mem_of_getElem? hx
    obtain ⟨q1, q2, q3, q4⟩ := He.exc_ok (all (.exc x) (by
      unfold mkFa
      simp only [List.mem_append]
      exact .inr (.inl (List.mem_map.mpr ⟨x, hm, rfl⟩))))
    subst h1 h2 h3 h4 h5
    have ev : exVof X'.K xcs c = .ref (He.ga X'.K x) := by unfold exVof; rw [List.getD_eq_getElem?_getD, hx]; rfl
    rw [ev]
    have hd : (x == ("__debug__" : Str)) = false := by simpa using List.all_eq_true.mp nd x hm
    have q := He.glo_ok X G (all (.glo x) (by
      unfold mkFa
      rw [List.mem_append]
      exact .inl (List.mem_map.mpr ⟨x, List.mem_append_right _ hm, rfl⟩)))
    exact pmk_own PySem.F.excBase_ValueError q1 q q2 (raises_own q3 q4) hg hd
theorem stands_of (X : K.In h) (G : h.Ns mainGlobals mg) {d : Desc} (F : ∃ fd, FunD K d.name d.name d.params d.body d.scope [] [] (He.fAd K (d.name, none)) fd) (g : (He.Fa.glo d.name).ok K = true) (b : BindOk d) : Stands K mg d := by
  obtain ⟨fd, F⟩ := F
  exact ⟨_, fd, He.glo_ok X G g, F.kp, F.bindsN fun kV doc pm an cdv ct us hl => b kV doc pm an cdv ct us hl, F⟩
/-- the law itself -/
theorem law_walk {ds : List Desc} {dl : Desc} (hfn : fns = (ds ++ [dl]).map (·.name)) (nx : xcs.Nodup) (np : ("PressError" : Str) ∉ xcs) (nd : xcs.all (fun x => !(x == ("__debug__" : Str))) = true)
    (ok : okAll (ics.map (·.1)) xcs (ds ++ [dl]) []) (bd : ∀ d ∈ ds ++ [dl], BindOk d) (hps : dl.ps = [("_law_script" : Str)]) (hms : dl.ms = [.vl])
    (sem : ∀ ns : List Int, (mkF (intC ics) (tabs (intC ics) ds []) dl).sem [.scr ns] = .ret ⟨.im, .bl true⟩ [])
    (X : K.In h) (G : h.Ns mainGlobals mg) (c : He.SaysD (mkFa fns xcs ics) ((ds ++ [dl]).map mkD) K) {fl : Addr} (hmg : mg dl.name = some (.ref fl)) :
    ∃ (fd : FuncData) (sp : Sp), (∀ (s : Shared) (u : Value), BindsTo s fd ⟨[u], []⟩ [(("_law_script" : Str), u)]) ∧
        (∀ (H : Hp) (a : Addr) (ns : List Int), Only H → SqL K H a (ns.map V.int) → sp [.ref a] H (fun v _ => v = .bl true) fun _ _ _ => False) ∧
        ∀ base : Heap, K.In base → base.Ns mainGlobals mg → FnOk P w K mg base (L2.CX P w) (ds.length + 1) fl fd [("_law_script" : Str)] sp := by
  have all : ∀ f ∈ mkFa fns xcs ics, f.ok K = true := fun f hf => by
    obtain ⟨i, hi⟩ := List.getElem?_of_mem hf
    exact c.fact i hi
  have hst : ∀ d ∈ ds ++ [dl], Stands K mg d := fun d hd => by
    obtain ⟨i, hi⟩ := List.getElem?_of_mem hd
    refine stands_of X G (c.def_ i (d := mkD d) (by rw [List.getElem?_map, hi]; rfl)) (all _ ?_) (bd d hd)
    unfold mkFa
    rw [List.mem_append]
    refine .inl (List.mem_map.mpr ⟨d.name, List.mem_append_left _ ?_, rfl⟩)
    rw [hfn]
    exact List.mem_map.mpr ⟨d, hd, rfl⟩
  have okl : ∀ (l : List Desc) (names : List Str), okAll (ics.map (·.1)) xcs (l ++ [dl]) names → okAll (ics.map (·.1)) xcs l names ∧ (FnScope dl.N dl.ps dl.scope ∧ dl.ms.length = dl.ps.length ∧ chkSs ⟨dl.N, names ++ l.map (·.name), ics.map (·.1), xcs⟩ dl.scope dl.b dl.body = true) := fun l => by
    induction l with
    | nil =>
      intro names h
      exact ⟨trivial, by simpa using h.1⟩
    | cons d l ih =>
      intro names h
      obtain ⟨h1, h2⟩ := ih _ h.2
      exact ⟨⟨h.1, h1⟩, by simpa using h2⟩
  obtain ⟨ok1, o1, o2, o3⟩ := okl ds [] ok
  obtain ⟨fl', fd, e1, e2, e3, F⟩ := hst dl (by simp)
  rw [hmg] at e1
  cases e1
  have b := FunD.bindsA F fun kV doc pm an cdv ct us hl => bd dl (by simp) kV doc pm an cdv ct us hl
  refine ⟨fd, spF P w K (exVof K xcs) (mkF (intC ics) (tabs (intC ics) ds []) dl), fun s u => ?_, fun H a ns hO hS => ?_, fun base X' G' => ?_⟩
  · have := b s [u] (by rw [hps]; rfl)
    rw [hps] at this
    exact this
  · have hm : (mkF (intC ics) (tabs (intC ics) ds []) dl).modes = [.vl] := hms
    refine ⟨[.scr ns], [fz], ?_, ?_, ?_, ?_⟩
    · rw [hm]
      refine .cons (.scr ?_) (fun z => nomatch z) .nil
      rcases hS with (q | ⟨o, q⟩) | q
      · rcases hO a with q' | ⟨o, xs, q'⟩
        · rw [q] at q'; cases q'
        · rw [q] at q'; cases q'
      · exact .inl ⟨o, q⟩
      · exact .inr q
    · rw [hm]; exact fun a => Nat.zero_le _
    · rw [hm]; exact fun a z => absurd z (Nat.lt_irrefl _)
    · rw [sem]
      intro x H' f gs _ r _
      cases r
      rfl
  · have T := funs_all (P := P) (w := w) (base := base) (fun I i1 i2 => modK_of X' G' all nx np nd I i1 i2) ds (names := []) (tb := []) (k := 0) rfl (fun n x hn => by simp at hn) ok1 fun d hd => hst d (by simp [hd])
    have := fn_sound (I := ⟨dl.N, [] ++ ds.map (·.name), ics.map (·.1), xcs⟩) (G := fun n => (tabs (intC ics) ds [])[n]?) (modK_of X' G' all nx np nd _ rfl rfl) T F o1 o2 o3
    rw [Nat.zero_add] at this
    rw [← hps]
    exact this
end
theorem no_out {P : Program} {w : World} {H : Hp} {s s' : Shared} {e : Value} (h : L2.CX P w [] H s (fun _ _ _ => False) e s') : False := by
  obtain ⟨_, _, _, _, _, _, _, _, _, _, _, _, z⟩ := h
  exact z
/-- the law's call, from its promise -/
theorem end_of {l : PySem.W.OpenLaw} {q : Program} {loose : List Str} {XP : (Str → Option Value) → Heap → Prop} {YP : World → Heap → Prop} {d : DefRec} (k : Nat) (x : Str) (most : l.most = some 63) (plain : d.params.defaults = []) (room : Room k callerA)
    (F : ∀ (w : World) (mg : Str → Option Value) (fl : Addr) (h : Heap), YP w h → h.Ns mainGlobals mg → mg d.name = some (.ref fl) → ∃ (K : PySem.W.Frag) (fd : FuncData) (sp : Sp),
      K.In h ∧ (∀ (s : Shared) (u : Value), BindsTo s fd ⟨[u], []⟩ [(x, u)]) ∧ (∀ (H : Hp) (a : Addr) (ns : List Int), Only H → SqL K H a (ns.map V.int) → sp [.ref a] H (fun v _ => v = .bl true) fun _ _ _ => False) ∧
      ∀ base : Heap, K.In base → base.Ns mainGlobals mg → FnOk l.prog w K mg base (L2.CX l.prog w) k fl fd [x] sp) :
    PySem.W.WalkO q loose XP YP l.row.toRowW d [] fun f vs => PySem.call f vs := by
  refine Att.attach_call most plain fun w s₀ s₁ mg mb fl o pm cd doc a vs ns G Y ho hd hcd hmg hobj hi hlen hg => ?_
  obtain ⟨K, fd, sp, h1, h2, h3, h4⟩ := F w mg fl _ Y G.T.g hmg
  have hl : ns.length ≤ sizeLine := Nat.le_trans hlen (by decide)
  exact law_call h1 G.T.g G.T.b G.T.builtins G.T.nolimit hg hobj hi hl room h4 h2 (fun H hO hS => h3 H a ns hO hS) fun H e s' => no_out
def BindAll : List Desc → Prop
  | [] => True
  | d :: ds => BindOk d ∧ BindAll ds
theorem BindAll.all : ∀ {ds : List Desc}, BindAll ds → ∀ d ∈ ds, BindOk d
  | [], _, d, h => by cases h
  | d0 :: ds, b, d, h => by
    rcases List.mem_cons.mp h with rfl | h
    · exact b.1
    · exact b.2.all d h
end Ev
end

section
set_option Elab.async false
set_option linter.all false
set_option maxRecDepth 100000
set_option maxHeartbeats 1000000
/-! The join, with constants of other kinds: tuples of texts. -/
namespace Ev
open PySem PySem.Spec L2
inductive Kc where
  | int (i : Int)
  | txts (zs : List Str)
def Kc.d : Kc → D
  | .int i => .int i
  | .txts zs => .tup (zs.map .str)
def Kc.int? : Kc → Option Int
  | .int i => some i
  | _ => none
def Kc.txts? : Kc → Option (List Str)
  | .txts z => some z
  | _ => none
def mixC (cs : List (Str × Kc)) (n : Nat) : Option D := (cs[n]?).map fun p => p.2.d
def intsOfC (cs : List (Str × Kc)) : List (Str × Int) := cs.filterMap fun p => p.2.int?.map fun i => (p.1, i)
def tupsOfC (cs : List (Str × Kc)) : List (Str × List Str) := cs.filterMap fun p => p.2.txts?.map fun i => (p.1, i)
/-- the module's name x is a tuple of these texts -/
def tupF (K : PySem.W.Frag) (p : Str × List Str) : Bool := He.eqO (PySem.W.nsIn K mainGlobals p.1) (some (some (.ref (He.ga K p.1)))) && (match K.lookup (He.ga K p.1) with
  | some ⟨.type c, none, .seq its _, _⟩ => decide (c = "tuple") && (decide (its.size ≤ sizeLine) && He.relAll (p.2.map V.str) its.toList)
  | _ => false)
theorem tupF_ok {K : PySem.W.Frag} {h : Heap} {mg : Str → Option Value} (X : K.In h) (G : h.Ns mainGlobals mg) {p : Str × List Str} (c : tupF K p = true) : mg p.1 = some (.ref (He.ga K p.1)) ∧ (∀ H, SqT K H (He.ga K p.1) (p.2.map V.str)) ∧ ∃ o, K.lookup (He.ga K p.1) = some o ∧ o.cls = .type "tuple" ∧ o.dict = none := by
  obtain ⟨c1, c2⟩ := He.ba c
  refine ⟨PySem.W.mg_of X G (He.eqO_ok c1), ?_⟩
  cases q : K.lookup (He.ga K p.1) with
  | none =>
    rw [q] at c2
    cases c2
  | some o =>
    obtain ⟨oc, od, dt, osl⟩ := o
    rw [q] at c2
    cases oc with
    | type c =>
      cases od with
      | none =>
        cases dt with
        | seq its n =>
          obtain ⟨h1, h2⟩ := He.ba (show (decide (c = "tuple") && (decide (its.size ≤ sizeLine) && He.relAll (p.2.map V.str) its.toList)) = true from c2)
          obtain ⟨h3, h4⟩ := He.ba h2
          have e := congrArg Value.type (of_decide_eq_true h1)
          exact ⟨fun H => .inr ⟨_, its, n, q, e, rfl, of_decide_eq_true h3, He.relAll_ok h4⟩, _, rfl, e, rfl⟩
        | _ => cases c2
      | some a => cases dt <;> cases c2
    | _ => cases od <;> cases dt <;> cases c2
/-! ### the Hook -/
def obsE (fa : List He.Fa) (tf : List (Str × List Str)) (fn : List He.DefD) (K : PySem.W.Frag) : He.AlD := (((fa.all fun f => f.ok K) && tf.all fun p => tupF K p) && fn.all fun d => d.ok K, fn.map fun d => He.fnW K d.at_)
def SaysE (fa : List He.Fa) (tf : List (Str × List Str)) (fn : List He.DefD) (K : PySem.W.Frag) : Prop := obsE fa tf fn K = He.valD fn
def obsEG (n : Nat) (fa : List He.Fa) (tf : List (Str × List Str)) (fn : List He.DefD) (g : Addr → Option Obj) : He.AlD := obsE fa tf fn (He.frG g (He.asD g n))
def hookE (n : Nat) (fa : List He.Fa) (tf : List (Str × List Str)) (fn : List He.DefD) : PySem.W.Hook where
  α := He.AlD
  obs := fun s => obsEG n fa tf fn s.heap.get?
  val := fun _ => He.valD fn
  says := fun _ h => ∃ K : PySem.W.Frag, K.In h ∧ SaysE fa tf fn K
  of := fun _ _ e => ⟨_, He.frG_in, e⟩
  keeps := fun _ _ _ ⟨K, hK, c⟩ k => ⟨K, PySem.W.Frag.In.keeps hK k, c⟩
theorem obsEG_eq {n : Nat} {fa : List He.Fa} {tf : List (Str × List Str)} {fn : List He.DefD} {g : Addr → Option Obj} {s : Shared} (h : ∀ a, g a = s.heap.get? a) : obsEG n fa tf fn g = (hookE n fa tf fn).obs s := by
  have e : g = s.heap.get? := funext h
  rw [e] <;> rfl
theorem SaysE.d {fa : List He.Fa} {tf : List (Str × List Str)} {fn : List He.DefD} {K : PySem.W.Frag} (c : SaysE fa tf fn K) : He.SaysD fa fn K ∧ ∀ p ∈ tf, tupF K p = true := by
  have c1 : (((fa.all fun f => f.ok K) && tf.all fun p => tupF K p) && fn.all fun d => d.ok K) = true := congrArg (fun z : He.AlD => z.1) c
  obtain ⟨c2, c3⟩ := He.ba c1
  obtain ⟨c4, c5⟩ := He.ba c2
  refine ⟨?_, fun p hp => List.all_eq_true.mp c5 p hp⟩
  have e : fn.map (fun d => He.fnW K d.at_) = fn.map He.DefD.val := congrArg (fun z : He.AlD => z.2) c
  show (_, _) = (_, _)
  rw [e, c4, c3]
  rfl
section
variable {P : Program} {w : World} {K : PySem.W.Frag} {h base : Heap} {mg : Str → Option Value} {fns xcs : List Str} {ics : List (Str × Int)}
theorem modK_of2 {C : Nat → Option D} {gls : List Str} (X : K.In h) (G : h.Ns mainGlobals mg) (all : ∀ f ∈ mkFa fns xcs ics, f.ok K = true) (nx : xcs.Nodup) (np : ("PressError" : Str) ∉ xcs) (nd : xcs.all (fun x => !(x == ("__debug__" : Str))) = true) (I : Info) (hglo : ∀ n x, gls[n]? = some x → ∃ d u v, C n = some d ∧ mg x = some u ∧ RelV v u ∧ (∀ H, Rep P w K H v d fz) ∧ TupK K d v) (e1 : I.gls = gls) (e2 : I.xcs = xcs) :
    ModK I C (exVof K xcs) P w K mg base :=
  have M := modK_of (P := P) (w := w) (base := base) X G all nx np nd { I with gls := ics.map (·.1) } rfl e2
  { blt := M.blt, glo := fun n x hx => hglo n x (by rw [← e1]; exact hx), xm := M.xm, xd := M.xd, xc := M.xc }
/-- the constants -/
theorem glo_of {cs : List (Str × Kc)} (X : K.In h) (G : h.Ns mainGlobals mg) (all : ∀ f ∈ mkFa fns xcs (intsOfC cs), f.ok K = true) (tall : ∀ p ∈ tupsOfC cs, tupF K p = true) : ∀ n x, (cs.map (·.1))[n]? = some x → ∃ d u v, mixC cs n = some d ∧ mg x = some u ∧ RelV v u ∧ (∀ H, Rep P w K H v d fz) ∧ TupK K d v := fun n x hx => by
  rw [List.getElem?_map] at hx
  obtain ⟨p, ep, rfl⟩ := Option.map_eq_some_iff.mp hx
  obtain ⟨x, c⟩ := p
  have hm := List.mem_of_getElem? ep
  have ec : mixC cs n = some c.d := by unfold mixC; rw [ep]; rfl
  cases c with
  | int i =>
    obtain ⟨t, et⟩ := He.int_ok X G (all (.int x i) (by
      unfold mkFa
      simp only [List.mem_append]
      exact .inr (.inr (.inr (.inl (List.mem_map.mpr ⟨(x, i), List.mem_filterMap.mpr ⟨(x, .int i), hm, rfl⟩, rfl⟩))))))
    exact ⟨_, _, .int i, ec, et, ⟨t, rfl⟩, fun H => .int _, fun z => nomatch z⟩
  | txts zs =>
    obtain ⟨q1, q2, o, q3, q4, q5⟩ := tupF_ok X G (tall (x, zs) (List.mem_filterMap.mpr ⟨(x, .txts zs), hm, rfl⟩))
    exact ⟨_, _, .ref (He.ga K x), ec, q1, rfl, fun H => .tup (q2 H) (strs_repL zs), fun _ => ⟨_, o, rfl, q3, q4, q5⟩⟩
/-- the law itself -/
theorem law_walk2 {gls : List Str} {C : Nat → Option D} {ds : List Desc} {dl : Desc} (hfn : fns = (ds ++ [dl]).map (·.name)) (nx : xcs.Nodup) (np : ("PressError" : Str) ∉ xcs) (nd : xcs.all (fun x => !(x == ("__debug__" : Str))) = true)
    (ok : okAll gls xcs (ds ++ [dl]) []) (bd : ∀ d ∈ ds ++ [dl], BindOk d) (hps : dl.ps = [("_law_script" : Str)]) (hms : dl.ms = [.vl])
    (sem : ∀ ns : List Int, (mkF C (tabs C ds []) dl).sem [.scr ns] = .ret ⟨.im, .bl true⟩ [])
    (X : K.In h) (G : h.Ns mainGlobals mg) (all : ∀ f ∈ mkFa fns xcs ics, f.ok K = true) (defs : ∀ (i : Nat) (d : He.DefD), ((ds ++ [dl]).map mkD)[i]? = some d → ∃ fd, FunD K d.name d.qual d.params d.body d.scope (d.dvs K) (d.kws K) (He.fAd K d.at_) fd) (hglo : ∀ n x, gls[n]? = some x → ∃ d u v, C n = some d ∧ mg x = some u ∧ RelV v u ∧ (∀ H, Rep P w K H v d fz) ∧ TupK K d v) {fl : Addr} (hmg : mg dl.name = some (.ref fl)) :
    ∃ (fd : FuncData) (sp : Sp), (∀ (s : Shared) (u : Value), BindsTo s fd ⟨[u], []⟩ [(("_law_script" : Str), u)]) ∧
        (∀ (H : Hp) (a : Addr) (ns : List Int), Only H → SqL K H a (ns.map V.int) → sp [.ref a] H (fun v _ => v = .bl true) fun _ _ _ => False) ∧
        ∀ base : Heap, K.In base → base.Ns mainGlobals mg → FnOk P w K mg base (L2.CX P w) (ds.length + 1) fl fd [("_law_script" : Str)] sp := by
  have hst : ∀ d ∈ ds ++ [dl], Stands K mg d := fun d hd => by
    obtain ⟨i, hi⟩ := List.getElem?_of_mem hd
    refine stands_of X G (defs i (mkD d) (by rw [List.getElem?_map, hi]; rfl)) (all _ ?_) (bd d hd)
    unfold mkFa
    rw [List.mem_append]
    refine .inl (List.mem_map.mpr ⟨d.name, List.mem_append_left _ ?_, rfl⟩)
    rw [hfn]
    exact List.mem_map.mpr ⟨d, hd, rfl⟩
  have okl : ∀ (l : List Desc) (names : List Str), okAll gls xcs (l ++ [dl]) names → okAll gls xcs l names ∧ (FnScope dl.N dl.ps dl.scope ∧ dl.ms.length = dl.ps.length ∧ chkSs ⟨dl.N, names ++ l.map (·.name), gls, xcs⟩ dl.scope dl.b dl.body = true) := fun l => by
    induction l with
    | nil =>
      intro names h
      exact ⟨trivial, by simpa using h.1⟩
    | cons d l ih =>
      intro names h
      obtain ⟨h1, h2⟩ := ih _ h.2
      exact ⟨⟨h.1, h1⟩, by simpa using h2⟩
  obtain ⟨ok1, o1, o2, o3⟩ := okl ds [] ok
  obtain ⟨fl', fd, e1, e2, e3, F⟩ := hst dl (by simp)
  rw [hmg] at e1
  cases e1
  have b := FunD.bindsA F fun kV doc pm an cdv ct us hl => bd dl (by simp) kV doc pm an cdv ct us hl
  refine ⟨fd, spF P w K (exVof K xcs) (mkF C (tabs C ds []) dl), fun s u => ?_, fun H a ns hO hS => ?_, fun base X' G' => ?_⟩
  · have := b s [u] (by rw [hps]; rfl)
    rw [hps] at this
    exact this
  · have hm : (mkF C (tabs C ds []) dl).modes = [.vl] := hms
    refine ⟨[.scr ns], [fz], ?_, ?_, ?_, ?_⟩
    · rw [hm]
      refine .cons (.scr ?_) (fun z => nomatch z) .nil
      rcases hS with (q | ⟨o, q⟩) | q
      · rcases hO a with q' | ⟨o, xs, q'⟩
        · rw [q] at q'; cases q'
        · rw [q] at q'; cases q'
      · exact .inl ⟨o, q⟩
      · exact .inr q
    · rw [hm]; exact fun a => Nat.zero_le _
    · rw [hm]; exact fun a z => absurd z (Nat.lt_irrefl _)
    · rw [sem]
      intro x H' f gs _ r _
      cases r
      rfl
  · have T := funs_all (P := P) (w := w) (base := base) (fun I i1 i2 => modK_of2 X' G' all nx np nd I hglo i1 i2) ds (names := []) (tb := []) (k := 0) rfl (fun n x hn => by simp at hn) ok1 fun d hd => hst d (by simp [hd])
    have := fn_sound (I := ⟨dl.N, [] ++ ds.map (·.name), gls, xcs⟩) (G := fun n => (tabs C ds [])[n]?) (modK_of2 X' G' all nx np nd _ hglo rfl rfl) T F o1 o2 o3
    rw [Nat.zero_add] at this
    rw [← hps]
    exact this
end
end Ev
end

section
set_option Elab.async false
set_option linter.all false
set_option maxRecDepth 100000
set_option maxHeartbeats 1000000
/-! A def that calls itself: so many calls deep. -/
namespace Ev
open PySem PySem.Spec L2
noncomputable def mkR (C : Nat → Option D) (tb : List Fn) (d : Desc) : Nat → Fn
  | 0 => ⟨d.ms, fun _ => .no⟩
  | m + 1 => ⟨d.ms, runF (fun n => (tb ++ [mkR C tb d m])[n]?) C d.ms (d.N.length - d.ps.length) d.b⟩
section
variable {C : Nat → Option D} {exV : Nat → Value} {P : Program} {w : World} {K : PySem.W.Frag} {mg : Str → Option Value} {base : Heap} {gls xcs : List Str}
theorem funs_ext {names : List Str} {tb : List Fn} {k k' : Nat} {d : Desc} {F0 : Fn} (hk : k ≤ k') (hl : names.length = tb.length) (T : FunsL names tb exV P w K mg base k) {f : Addr} {fd : FuncData} (e1 : mg d.name = some (.ref f)) (e2 : PySem.W.keepIn K (.ref f) = true) (e3 : Binds K fd d.ps [])
    (F : FnOk P w K mg base (L2.CX P w) k' f fd d.ps (spF P w K exV F0)) : FunsL (names ++ [d.name]) (tb ++ [F0]) exV P w K mg base k' := by
  intro n x hn
  by_cases c : n < names.length
  · rw [List.getElem?_append_left c] at hn
    obtain ⟨F', f', fd', ps', q1, q2, q3, q4, q5⟩ := T n x hn
    exact ⟨F', f', fd', ps', by rw [List.getElem?_append_left (by omega)]; exact q1, q2, q3, q4, q5.mono hk⟩
  · have e : n = names.length := by
      have := (List.getElem?_eq_some_iff.mp hn).1
      simp at this
      omega
    subst e
    rw [List.getElem?_append_right (Nat.le_refl _), Nat.sub_self] at hn
    have ex : d.name = x := by simpa using hn
    subst ex
    refine ⟨F0, f, fd, d.ps, ?_, e1, e2, e3, F⟩
    rw [hl, List.getElem?_append_right (Nat.le_refl _), Nat.sub_self]
    rfl
theorem rec_step {names : List Str} {tb : List Fn} {k : Nat} {d : Desc} (hl : names.length = tb.length) (M : ∀ I : Info, I.gls = gls → I.xcs = xcs → ModK I C exV P w K mg base) (T : FunsL names tb exV P w K mg base k) (S : FnScope d.N d.ps d.scope) (hm : d.ms.length = d.ps.length)
    (hc : chkSs ⟨d.N, names ++ [d.name], gls, xcs⟩ d.scope d.b d.body = true) (hd : Stands K mg d) : ∀ m, FunsL (names ++ [d.name]) (tb ++ [mkR C tb d m]) exV P w K mg base (k + 1 + m) := by
  obtain ⟨f, fd, e1, e2, e3, e4⟩ := hd
  intro m
  induction m with
  | zero =>
    refine funs_ext (by omega) hl T e1 e2 e3 (FnOk.mono (j := k + 1) (e4.ok (CX := L2.CX P w) S (fun vs H Q E h => ?_) fun cdv A outer s H vs Q E hr h => ?_) (by omega))
    · obtain ⟨ds, fs, _, _, _, h⟩ := h
      exact h.elim
    · obtain ⟨ds, fs, _, _, _, h⟩ := h
      exact h.elim
  | succ m ih =>
    have F := fn_sound (I := ⟨d.N, names ++ [d.name], gls, xcs⟩) (G := fun n => (tb ++ [mkR C tb d m])[n]?) (M _ rfl rfl) ih e4 S hm hc
    exact funs_ext (by omega) hl T e1 e2 e3 F
end
theorem tabs_len {C : Nat → Option D} : ∀ (ds : List Desc) (tb : List Fn), (tabs C ds tb).length = tb.length + ds.length
  | [], tb => by simp [tabs]
  | d :: ds, tb => by
    unfold tabs
    rw [tabs_len ds, List.length_append, List.length_singleton, List.length_cons]
    omega
section
variable {P : Program} {w : World} {K : PySem.W.Frag} {h base : Heap} {mg : Str → Option Value} {fns xcs : List Str} {ics : List (Str × Int)}
/-- the law itself -/
theorem law_walkR {ds : List Desc} {dr dl : Desc} (R : Nat) (hfn : fns = (ds ++ [dr, dl]).map (·.name)) (nx : xcs.Nodup) (np : ("PressError" : Str) ∉ xcs) (nd : xcs.all (fun x => !(x == ("__debug__" : Str))) = true)
    (ok1 : okAll (ics.map (·.1)) xcs ds []) (r1 : FnScope dr.N dr.ps dr.scope) (r2 : dr.ms.length = dr.ps.length) (r3 : chkSs ⟨dr.N, ds.map (·.name) ++ [dr.name], ics.map (·.1), xcs⟩ dr.scope dr.b dr.body = true) (o1 : FnScope dl.N dl.ps dl.scope) (o2 : dl.ms.length = dl.ps.length) (o3 : chkSs ⟨dl.N, ds.map (·.name) ++ [dr.name], ics.map (·.1), xcs⟩ dl.scope dl.b dl.body = true) (bd : ∀ d ∈ ds ++ [dr, dl], BindOk d) (hps : dl.ps = [("_law_script" : Str)]) (hms : dl.ms = [.vl])
    (sem : ∀ ns : List Int, (mkF (intC ics) (tabs (intC ics) ds [] ++ [mkR (intC ics) (tabs (intC ics) ds []) dr R]) dl).sem [.scr ns] = .ret ⟨.im, .bl true⟩ [])
    (X : K.In h) (G : h.Ns mainGlobals mg) (c : He.SaysD (mkFa fns xcs ics) ((ds ++ [dr, dl]).map mkD) K) {fl : Addr} (hmg : mg dl.name = some (.ref fl)) :
    ∃ (fd : FuncData) (sp : Sp), (∀ (s : Shared) (u : Value), BindsTo s fd ⟨[u], []⟩ [(("_law_script" : Str), u)]) ∧
        (∀ (H : Hp) (a : Addr) (ns : List Int), Only H → SqL K H a (ns.map V.int) → sp [.ref a] H (fun v _ => v = .bl true) fun _ _ _ => False) ∧
        ∀ base : Heap, K.In base → base.Ns mainGlobals mg → FnOk P w K mg base (L2.CX P w) (ds.length + 1 + R + 1) fl fd [("_law_script" : Str)] sp := by
  have all : ∀ f ∈ mkFa fns xcs ics, f.ok K = true := fun f hf => by
    obtain ⟨i, hi⟩ := List.getElem?_of_mem hf
    exact c.fact i hi
  have hst : ∀ d ∈ ds ++ [dr, dl], Stands K mg d := fun d hd => by
    obtain ⟨i, hi⟩ := List.getElem?_of_mem hd
    refine stands_of X G (c.def_ i (d := mkD d) (by rw [List.getElem?_map, hi]; rfl)) (all _ ?_) (bd d hd)
    unfold mkFa
    rw [List.mem_append]
    refine .inl (List.mem_map.mpr ⟨d.name, List.mem_append_left _ ?_, rfl⟩)
    rw [hfn]
    exact List.mem_map.mpr ⟨d, hd, rfl⟩
  obtain ⟨fl', fd, e1, e2, e3, F⟩ := hst dl (by simp)
  rw [hmg] at e1
  cases e1
  have b := FunD.bindsA F fun kV doc pm an cdv ct us hl => bd dl (by simp) kV doc pm an cdv ct us hl
  refine ⟨fd, spF P w K (exVof K xcs) (mkF (intC ics) (tabs (intC ics) ds [] ++ [mkR (intC ics) (tabs (intC ics) ds []) dr R]) dl), fun s u => ?_, fun H a ns hO hS => ?_, fun base X' G' => ?_⟩
  · have := b s [u] (by rw [hps]; rfl)
    rw [hps] at this
    exact this
  · have hm : (mkF (intC ics) (tabs (intC ics) ds [] ++ [mkR (intC ics) (tabs (intC ics) ds []) dr R]) dl).modes = [.vl] := hms
    refine ⟨[.scr ns], [fz], ?_, ?_, ?_, ?_⟩
    · rw [hm]
      refine .cons (.scr ?_) (fun z => nomatch z) .nil
      rcases hS with (q | ⟨o, q⟩) | q
      · rcases hO a with q' | ⟨o, xs, q'⟩
        · rw [q] at q'; cases q'
        · rw [q] at q'; cases q'
      · exact .inl ⟨o, q⟩
      · exact .inr q
    · rw [hm]; exact fun a => Nat.zero_le _
    · rw [hm]; exact fun a z => absurd z (Nat.lt_irrefl _)
    · rw [sem]
      intro x H' f gs _ r _
      cases r
      rfl
  · have T := funs_all (P := P) (w := w) (base := base) (fun I i1 i2 => modK_of X' G' all nx np nd I i1 i2) ds (names := []) (tb := []) (k := 0) rfl (fun n x hn => by simp at hn) ok1 fun d hd => hst d (by simp [hd])
    have T2 := rec_step (d := dr) (by rw [List.length_append, List.length_map, List.length_nil, tabs_len, List.length_nil]) (fun I i1 i2 => modK_of X' G' all nx np nd I i1 i2) T r1 r2 (by simpa using r3) (hst dr (by simp)) R
    have := fn_sound (I := ⟨dl.N, [] ++ ds.map (·.name) ++ [dr.name], ics.map (·.1), xcs⟩) (G := fun n => (tabs (intC ics) ds [] ++ [mkR (intC ics) (tabs (intC ics) ds []) dr R])[n]?) (modK_of X' G' all nx np nd _ rfl rfl) T2 F o1 o2 (by simpa using o3)
    rw [Nat.zero_add] at this
    rw [← hps]
    exact this
end
end Ev
end

section
set_option Elab.async false
set_option linter.all false
set_option maxRecDepth 100000
/-! The evaluator by rewriting. -/
namespace Ev
open PySem L2
section
variable {α β : Type}
@[simp] theorem R.bind_ok (a : α) (ρ : En) (k : α → En → R β) : (R.ok a ρ).bind k = k a ρ := rfl
@[simp] theorem R.bind_ex (c : Nat) (ρ : En) (k : α → En → R β) : (R.ex c ρ : R α).bind k = .ex c ρ := rfl
@[simp] theorem R.bind_no (k : α → En → R β) : (R.no : R α).bind k = .no := rfl
@[simp] theorem R.bind_if (c : Prop) [Decidable c] (a b : R α) (k : α → En → R β) : (if c then a else b).bind k = if c then a.bind k else b.bind k := by split <;> rfl
@[simp] theorem R.of_some (a : α) (ρ : En) : R.of ρ (some a) = .ok a ρ := rfl
@[simp] theorem R.of_none (ρ : En) : R.of ρ (none : Option α) = .no := rfl
@[simp] theorem R.of_if (c : Prop) [Decidable c] (a b : Option α) (ρ : En) : R.of ρ (if c then a else b) = if c then R.of ρ a else R.of ρ b := by split <;> rfl
end
/-- one statement, then the others -/
def R.seq (r : R Flow) (k : En → R Flow) : R Flow := match r with
  | .ok .nx ρ => k ρ
  | .ok f ρ => .ok f ρ
  | .ex c ρ => .ex c ρ
  | .no => .no
@[simp] theorem R.seq_nx (ρ : En) (k : En → R Flow) : (R.ok .nx ρ).seq k = k ρ := rfl
@[simp] theorem R.seq_rt (v : RV) (ρ : En) (k : En → R Flow) : (R.ok (.rt v) ρ).seq k = .ok (.rt v) ρ := rfl
@[simp] theorem R.seq_bk (ρ : En) (k : En → R Flow) : (R.ok .bk ρ).seq k = .ok .bk ρ := rfl
@[simp] theorem R.seq_ct (ρ : En) (k : En → R Flow) : (R.ok .ct ρ).seq k = .ok .ct ρ := rfl
@[simp] theorem R.seq_ex (c : Nat) (ρ : En) (k : En → R Flow) : (R.ex c ρ).seq k = .ex c ρ := rfl
@[simp] theorem R.seq_no (k : En → R Flow) : (R.no).seq k = .no := rfl
@[simp] theorem R.seq_if (c : Prop) [Decidable c] (a b : R Flow) (k : En → R Flow) : (if c then a else b).seq k = if c then a.seq k else b.seq k := by split <;> rfl
/-! ### environments -/
@[simp] theorem En.at_zero (x : Option SV) (ρ : En) : En.at (x :: ρ) 0 = x := by cases x <;> rfl
@[simp] theorem En.at_succ (x : Option SV) (ρ : En) (i : Nat) : En.at (x :: ρ) (i + 1) = En.at ρ i := rfl
@[simp] theorem En.put_zero (x v : Option SV) (ρ : En) : En.put (x :: ρ) 0 v = v :: ρ := rfl
@[simp] theorem En.put_succ (x v : Option SV) (ρ : En) (i : Nat) : En.put (x :: ρ) (i + 1) v = x :: En.put ρ i v := rfl
@[simp] theorem En.free_succ (x : Option SV) (ρ : En) (i : Nat) : En.free (x :: ρ) (i + 1) = En.free ρ i := rfl
def freeO (x : Option SV) : Bool := En.free [x] 0
theorem En.free_zero' (x : Option SV) (ρ : En) : En.free (x :: ρ) 0 = freeO x := by rcases x with _ | ⟨t, d⟩ <;> first | rfl | (cases t <;> rfl)
@[simp] theorem En.free_zero (x : Option SV) (ρ : En) : En.free (x :: ρ) 0 = freeO x := En.free_zero' x ρ
@[simp] theorem freeO_none : freeO none = true := rfl
@[simp] theorem freeO_im (d : D) : freeO (some ⟨.im, d⟩) = true := rfl
@[simp] theorem freeO_vl (d : D) : freeO (some ⟨.vl, d⟩) = true := rfl
@[simp] theorem freeO_mu (d : D) : freeO (some ⟨.mu, d⟩) = true := rfl
def varR (i : Nat) (o : Option SV) (ρ : En) : R RV := match o with
  | some ⟨s, d⟩ => .ok (RV.nrm ⟨s.rt i, d⟩) ρ
  | none => .no
@[simp] theorem varR_some (i : Nat) (s : ST) (d : D) (ρ : En) : varR i (some ⟨s, d⟩) ρ = .ok (RV.nrm ⟨s.rt i, d⟩) ρ := rfl
def mvR (i : Nat) (o : Option SV) (ρ : En) : R RV := match o with
  | some ⟨.mu, d⟩ => .ok ⟨.fr, d⟩ (ρ.put i none)
  | _ => .no
@[simp] theorem mvR_mu (i : Nat) (d : D) (ρ : En) : mvR i (some ⟨.mu, d⟩) ρ = .ok ⟨.fr, d⟩ (ρ.put i none) := rfl
def globR (o : Option D) (ρ : En) : R RV := match o with
  | some d => .ok ⟨.im, d⟩ ρ
  | none => .no
@[simp] theorem globR_some (d : D) (ρ : En) : globR (some d) ρ = .ok ⟨.im, d⟩ ρ := rfl
def callR (o : Option Fn) (k : Fn → R RV) : R RV := match o with
  | some F => k F
  | none => .no
@[simp] theorem callR_some (F : Fn) (k : Fn → R RV) : callR (some F) k = k F := rfl
def negD : D → Option RV
  | .int i => some ⟨.im, .int (-i)⟩
  | _ => none
@[simp] theorem negD_int (i : Int) : negD (.int i) = some ⟨.im, .int (-i)⟩ := rfl
def notD : D → Option RV
  | .bl b => some ⟨.im, .bl (!b)⟩
  | _ => none
@[simp] theorem notD_bl (b : Bool) : notD (.bl b) = some ⟨.im, .bl (!b)⟩ := rfl
/-- a bool chooses -/
def blR (d : D) (t f : R RV) : R RV := match d with
  | .bl true => t
  | .bl false => f
  | _ => .no
@[simp] theorem blR_bl (b : Bool) (t f : R RV) : blR (.bl b) t f = if b = true then t else f := by cases b <;> rfl
def obR (o : Option Bool) (t f : R RV) : R RV := match o with
  | some true => t
  | some false => f
  | none => .no
@[simp] theorem obR_some (b : Bool) (t f : R RV) : obR (some b) t f = if b = true then t else f := by cases b <;> rfl
@[simp] theorem ev_var (G : Tab) (C : Nat → Option D) (i : Nat) (ρ : En) : ev G C (.var i) ρ = varR i (ρ.at i) ρ := by (conv => lhs; unfold ev) <;> rfl
@[simp] theorem ev_mv (G : Tab) (C : Nat → Option D) (i : Nat) (ρ : En) : ev G C (.mv i) ρ = mvR i (ρ.at i) ρ := by (conv => lhs; unfold ev) <;> rfl
@[simp] theorem ev_lit (G : Tab) (C : Nat → Option D) (d : D) (ρ : En) : ev G C (.lit d) ρ = .ok ⟨.im, d⟩ ρ := by (conv => lhs; unfold ev) <;> rfl
@[simp] theorem ev_glob (G : Tab) (C : Nat → Option D) (n : Nat) (ρ : En) : ev G C (.glob n) ρ = globR (C n) ρ := by (conv => lhs; unfold ev) <;> rfl
def kTup  : List RV → En → R RV := fun vs ρ => R.of ρ ((joinAll vs).map fun t => ⟨t, .tup (vs.map (·.d))⟩)
@[simp] theorem kTup_ap  (vs : List RV) (ρ : En) : kTup  vs ρ = R.of ρ ((joinAll vs).map fun t => ⟨t, .tup (vs.map (·.d))⟩) := rfl
@[simp] theorem ev_tup (G : Tab) (C : Nat → Option D) (as : MEs) (ρ : En) : ev G C (.tup as) ρ = (evs G C as ρ).bind kTup := by (conv => lhs; unfold ev) <;> rfl
def kLst  : List RV → En → R RV := fun vs ρ => R.of ρ ((joinAll vs).map fun t => ⟨t.newL, .lst (vs.map (·.d))⟩)
@[simp] theorem kLst_ap  (vs : List RV) (ρ : En) : kLst  vs ρ = R.of ρ ((joinAll vs).map fun t => ⟨t.newL, .lst (vs.map (·.d))⟩) := rfl
@[simp] theorem ev_lst (G : Tab) (C : Nat → Option D) (as : MEs) (ρ : En) : ev G C (.lst as) ρ = (evs G C as ρ).bind kLst := by (conv => lhs; unfold ev) <;> rfl
@[simp] theorem ev_dic0 (G : Tab) (C : Nat → Option D) (ρ : En) : ev G C .dic0 ρ = .ok ⟨.fr, .dic [] []⟩ ρ := by (conv => lhs; unfold ev) <;> rfl
def kDic  : List RV → En → R RV := fun vs ρ => R.of ρ (dispD (vs.map (·.d)))
@[simp] theorem kDic_ap  (vs : List RV) (ρ : En) : kDic  vs ρ = R.of ρ (dispD (vs.map (·.d))) := rfl
@[simp] theorem ev_dic (G : Tab) (C : Nat → Option D) (as : MEs) (ρ : En) : ev G C (.dic as) ρ = (evs G C as ρ).bind kDic := by (conv => lhs; unfold ev) <;> rfl
def kDpr  : RV → En → R RV := fun v ρ => R.of ρ (dprD v.d)
@[simp] theorem kDpr_ap  (v : RV) (ρ : En) : kDpr  v ρ = R.of ρ (dprD v.d) := rfl
@[simp] theorem ev_dpr (G : Tab) (C : Nat → Option D) (a : ME) (ρ : En) : ev G C (.dpr a) ρ = (ev G C a ρ).bind kDpr := by (conv => lhs; unfold ev) <;> rfl
def kLrg  : RV → En → R RV := fun v ρ => R.of ρ (lrgD v.d)
@[simp] theorem kLrg_ap  (v : RV) (ρ : En) : kLrg  v ρ = R.of ρ (lrgD v.d) := rfl
@[simp] theorem ev_lrg (G : Tab) (C : Nat → Option D) (a : ME) (ρ : En) : ev G C (.lrg a) ρ = (ev G C a ρ).bind kLrg := by (conv => lhs; unfold ev) <;> rfl
def kBin2 (o : BinO) (v : RV) : RV → En → R RV := fun w ρ => R.of ρ (opD o v w)
@[simp] theorem kBin2_ap (o : BinO) (v : RV) (w : RV) (ρ : En) : kBin2 o v w ρ = R.of ρ (opD o v w) := rfl
def kBin (G : Tab) (C : Nat → Option D) (o : BinO) (b : ME) : RV → En → R RV := fun v ρ => if waits v.t b.pure = true then (ev G C b ρ).bind (kBin2 o v) else .no
@[simp] theorem kBin_ap (G : Tab) (C : Nat → Option D) (o : BinO) (b : ME) (v : RV) (ρ : En) : kBin G C o b v ρ = if waits v.t b.pure = true then (ev G C b ρ).bind (kBin2 o v) else .no := rfl
@[simp] theorem ev_bin (G : Tab) (C : Nat → Option D) (o : BinO) (a b : ME) (ρ : En) : ev G C (.bin o a b) ρ = (ev G C a ρ).bind (kBin G C o b) := by (conv => lhs; unfold ev) <;> rfl
def kNeg  : RV → En → R RV := fun v ρ => R.of ρ (negD v.d)
@[simp] theorem kNeg_ap  (v : RV) (ρ : En) : kNeg  v ρ = R.of ρ (negD v.d) := rfl
@[simp] theorem ev_neg (G : Tab) (C : Nat → Option D) (a : ME) (ρ : En) : ev G C (.neg a) ρ = (ev G C a ρ).bind kNeg := by (conv => lhs; unfold ev) <;> rfl
def kNot  : RV → En → R RV := fun v ρ => R.of ρ (notD v.d)
@[simp] theorem kNot_ap  (v : RV) (ρ : En) : kNot  v ρ = R.of ρ (notD v.d) := rfl
@[simp] theorem ev_not (G : Tab) (C : Nat → Option D) (a : ME) (ρ : En) : ev G C (.not a) ρ = (ev G C a ρ).bind kNot := by (conv => lhs; unfold ev) <;> rfl
def kCmp2 (o : CmpO) (v : RV) : RV → En → R RV := fun w ρ => R.of ρ ((cmpD o v.d w.d).map fun k => ⟨.im, .bl k⟩)
@[simp] theorem kCmp2_ap (o : CmpO) (v : RV) (w : RV) (ρ : En) : kCmp2 o v w ρ = R.of ρ ((cmpD o v.d w.d).map fun k => ⟨.im, .bl k⟩) := rfl
def kCmp (G : Tab) (C : Nat → Option D) (o : CmpO) (b : ME) : RV → En → R RV := fun v ρ => if waits v.t b.pure = true then (ev G C b ρ).bind (kCmp2 o v) else .no
@[simp] theorem kCmp_ap (G : Tab) (C : Nat → Option D) (o : CmpO) (b : ME) (v : RV) (ρ : En) : kCmp G C o b v ρ = if waits v.t b.pure = true then (ev G C b ρ).bind (kCmp2 o v) else .no := rfl
@[simp] theorem ev_cmp (G : Tab) (C : Nat → Option D) (o : CmpO) (a b : ME) (ρ : En) : ev G C (.cmp o a b) ρ = (ev G C a ρ).bind (kCmp G C o b) := by (conv => lhs; unfold ev) <;> rfl
def kChn3 (o : CmpO) (w : RV) : RV → En → R RV := fun x ρ => R.of ρ ((cmpD o w.d x.d).map fun k => ⟨.im, .bl k⟩)
@[simp] theorem kChn3_ap (o : CmpO) (w : RV) (x : RV) (ρ : En) : kChn3 o w x ρ = R.of ρ ((cmpD o w.d x.d).map fun k => ⟨.im, .bl k⟩) := rfl
def kChn2 (G : Tab) (C : Nat → Option D) (o o' : CmpO) (c : ME) (v : RV) : RV → En → R RV := fun w ρ => obR (cmpD o v.d w.d) (if waits w.t c.pure = true then (ev G C c ρ).bind (kChn3 o' w) else .no) (.ok ⟨.im, .bl false⟩ ρ)
@[simp] theorem kChn2_ap (G : Tab) (C : Nat → Option D) (o o' : CmpO) (c : ME) (v : RV) (w : RV) (ρ : En) : kChn2 G C o o' c v w ρ = obR (cmpD o v.d w.d) (if waits w.t c.pure = true then (ev G C c ρ).bind (kChn3 o' w) else .no) (.ok ⟨.im, .bl false⟩ ρ) := rfl
def kChn (G : Tab) (C : Nat → Option D) (o o' : CmpO) (b c : ME) : RV → En → R RV := fun v ρ => if waits v.t b.pure = true then (ev G C b ρ).bind (kChn2 G C o o' c v) else .no
@[simp] theorem kChn_ap (G : Tab) (C : Nat → Option D) (o o' : CmpO) (b c : ME) (v : RV) (ρ : En) : kChn G C o o' b c v ρ = if waits v.t b.pure = true then (ev G C b ρ).bind (kChn2 G C o o' c v) else .no := rfl
@[simp] theorem ev_chn (G : Tab) (C : Nat → Option D) (o o' : CmpO) (a b c : ME) (ρ : En) : ev G C (.chn o o' a b c) ρ = (ev G C a ρ).bind (kChn G C o o' b c) := by
  conv => lhs; unfold ev
  congr 1
  funext v ρ1
  unfold kChn
  split
  · congr 1
    funext w ρ2
    unfold kChn2
    cases cmpD o v.d w.d with
    | none => rfl
    | some k => cases k <;> rfl
  · rfl
def kAnd (G : Tab) (C : Nat → Option D) (b : ME) : RV → En → R RV := fun v ρ => blR v.d (ev G C b ρ) (.ok ⟨.im, .bl false⟩ ρ)
@[simp] theorem kAnd_ap (G : Tab) (C : Nat → Option D) (b : ME) (v : RV) (ρ : En) : kAnd G C b v ρ = blR v.d (ev G C b ρ) (.ok ⟨.im, .bl false⟩ ρ) := rfl
@[simp] theorem ev_and (G : Tab) (C : Nat → Option D) (a b : ME) (ρ : En) : ev G C (.and a b) ρ = (ev G C a ρ).bind (kAnd G C b) := by
  (conv => lhs; unfold ev) <;> first | rfl | (congr 1; funext v ρ1; unfold kAnd; cases v.d <;> first | rfl | (rename_i k; cases k <;> rfl))
def kOr (G : Tab) (C : Nat → Option D) (b : ME) : RV → En → R RV := fun v ρ => blR v.d (.ok ⟨.im, .bl true⟩ ρ) (ev G C b ρ)
@[simp] theorem kOr_ap (G : Tab) (C : Nat → Option D) (b : ME) (v : RV) (ρ : En) : kOr G C b v ρ = blR v.d (.ok ⟨.im, .bl true⟩ ρ) (ev G C b ρ) := rfl
@[simp] theorem ev_or (G : Tab) (C : Nat → Option D) (a b : ME) (ρ : En) : ev G C (.or a b) ρ = (ev G C a ρ).bind (kOr G C b) := by
  (conv => lhs; unfold ev) <;> first | rfl | (congr 1; funext v ρ1; unfold kOr; cases v.d <;> first | rfl | (rename_i k; cases k <;> rfl))
def kIte (G : Tab) (C : Nat → Option D) (a b : ME) : Bool → En → R RV := fun k ρ => if k = true then ev G C a ρ else ev G C b ρ
@[simp] theorem kIte_ap (G : Tab) (C : Nat → Option D) (a b : ME) (k : Bool) (ρ : En) : kIte G C a b k ρ = if k = true then ev G C a ρ else ev G C b ρ := rfl
@[simp] theorem ev_ite (G : Tab) (C : Nat → Option D) (c : MT) (a b : ME) (ρ : En) : ev G C (.ite c a b) ρ = (evt G C c ρ).bind (kIte G C a b) := by (conv => lhs; unfold ev) <;> rfl
def kIdx2 (v : RV) : RV → En → R RV := fun w ρ => R.of ρ ((idxD v w.d).map RV.nrm)
@[simp] theorem kIdx2_ap (v : RV) (w : RV) (ρ : En) : kIdx2 v w ρ = R.of ρ ((idxD v w.d).map RV.nrm) := rfl
def kIdx (G : Tab) (C : Nat → Option D) (i : ME) : RV → En → R RV := fun v ρ => if waits v.t i.pure = true then (ev G C i ρ).bind (kIdx2 v) else .no
@[simp] theorem kIdx_ap (G : Tab) (C : Nat → Option D) (i : ME) (v : RV) (ρ : En) : kIdx G C i v ρ = if waits v.t i.pure = true then (ev G C i ρ).bind (kIdx2 v) else .no := rfl
@[simp] theorem ev_idx (G : Tab) (C : Nat → Option D) (a i : ME) (ρ : En) : ev G C (.idx a i) ρ = (ev G C a ρ).bind (kIdx G C i) := by (conv => lhs; unfold ev) <;> rfl
def kSlD (v : RV) (lo : Option Int) : Option Int → En → R RV := fun hi ρ => R.of ρ (slcO v lo hi)
@[simp] theorem kSlD_ap (v : RV) (lo : Option Int) (hi : Option Int) (ρ : En) : kSlD v lo hi ρ = R.of ρ (slcO v lo hi) := rfl
def kSlC (bh : Bool) (v : RV) (lo : Option Int) : RV → En → R RV := fun y ρ => (R.of ρ (partD bh y.d)).bind (kSlD v lo)
@[simp] theorem kSlC_ap (bh : Bool) (v : RV) (lo : Option Int) (y : RV) (ρ : En) : kSlC bh v lo y ρ = (R.of ρ (partD bh y.d)).bind (kSlD v lo) := rfl
def kSlB (G : Tab) (C : Nat → Option D) (bh : Bool) (h : ME) (v : RV) : Option Int → En → R RV := fun lo ρ => (ev G C h ρ).bind (kSlC bh v lo)
@[simp] theorem kSlB_ap (G : Tab) (C : Nat → Option D) (bh : Bool) (h : ME) (v : RV) (lo : Option Int) (ρ : En) : kSlB G C bh h v lo ρ = (ev G C h ρ).bind (kSlC bh v lo) := rfl
def kSlA (G : Tab) (C : Nat → Option D) (bl bh : Bool) (h : ME) (v : RV) : RV → En → R RV := fun x ρ => (R.of ρ (partD bl x.d)).bind (kSlB G C bh h v)
@[simp] theorem kSlA_ap (G : Tab) (C : Nat → Option D) (bl bh : Bool) (h : ME) (v : RV) (x : RV) (ρ : En) : kSlA G C bl bh h v x ρ = (R.of ρ (partD bl x.d)).bind (kSlB G C bh h v) := rfl
def kSlc (G : Tab) (C : Nat → Option D) (bl : Bool) (l : ME) (bh : Bool) (h : ME) : RV → En → R RV := fun v ρ => if waits v.t (l.pure && h.pure) = true then (ev G C l ρ).bind (kSlA G C bl bh h v) else .no
@[simp] theorem kSlc_ap (G : Tab) (C : Nat → Option D) (bl : Bool) (l : ME) (bh : Bool) (h : ME) (v : RV) (ρ : En) : kSlc G C bl l bh h v ρ = if waits v.t (l.pure && h.pure) = true then (ev G C l ρ).bind (kSlA G C bl bh h v) else .no := rfl
@[simp] theorem ev_slc (G : Tab) (C : Nat → Option D) (a : ME) (bl : Bool) (l : ME) (bh : Bool) (h : ME) (ρ : En) : ev G C (.slc a bl l bh h) ρ = (ev G C a ρ).bind (kSlc G C bl l bh h) := by (conv => lhs; unfold ev) <;> rfl
def kRev  : RV → En → R RV := fun v ρ => R.of ρ (revD v)
@[simp] theorem kRev_ap  (v : RV) (ρ : En) : kRev  v ρ = R.of ρ (revD v) := rfl
@[simp] theorem ev_rev (G : Tab) (C : Nat → Option D) (a : ME) (ρ : En) : ev G C (.rev a) ρ = (ev G C a ρ).bind kRev := by (conv => lhs; unfold ev) <;> rfl
def callP (vs : List RV) (ρ : En) (F : Fn) : R RV := if F.modes.contains .rf then .no else callF F (some []) vs ρ
@[simp] theorem callP_ap (vs : List RV) (ρ : En) (F : Fn) : callP vs ρ F = if F.modes.contains .rf then .no else callF F (some []) vs ρ := rfl
def callQ (as : MEs) (vs : List RV) (ρ : En) (F : Fn) : R RV := callF F (rfSlots F.modes as) vs ρ
@[simp] theorem callQ_ap (as : MEs) (vs : List RV) (ρ : En) (F : Fn) : callQ as vs ρ F = callF F (rfSlots F.modes as) vs ρ := rfl
def kCall (G : Tab) (f : Nat) : List RV → En → R RV := fun vs ρ => callR (G f) (callP vs ρ)
@[simp] theorem kCall_ap (G : Tab) (f : Nat) (vs : List RV) (ρ : En) : kCall G f vs ρ = callR (G f) (callP vs ρ) := rfl
@[simp] theorem ev_call (G : Tab) (C : Nat → Option D) (f : Nat) (as : MEs) (ρ : En) : ev G C (.call f as) ρ = (evs G C as ρ).bind (kCall G f) := by (conv => lhs; unfold ev) <;> rfl
def kCallm (G : Tab) (f : Nat) (as : MEs) : List RV → En → R RV := fun vs ρ => callR (G f) (callQ as vs ρ)
@[simp] theorem kCallm_ap (G : Tab) (f : Nat) (as : MEs) (vs : List RV) (ρ : En) : kCallm G f as vs ρ = callR (G f) (callQ as vs ρ) := rfl
@[simp] theorem ev_callm (G : Tab) (C : Nat → Option D) (f : Nat) (as : MEs) (ρ : En) : ev G C (.callm f as) ρ = (evs G C as ρ).bind (kCallm G f as) := by (conv => lhs; unfold ev) <;> rfl
def kBi (b : BI) : List RV → En → R RV := fun vs ρ => R.of ρ (biD b vs)
@[simp] theorem kBi_ap (b : BI) (vs : List RV) (ρ : En) : kBi b vs ρ = R.of ρ (biD b vs) := rfl
@[simp] theorem ev_bi (G : Tab) (C : Nat → Option D) (b : BI) (as : MEs) (ρ : En) : ev G C (.bi b as) ρ = (evs G C as ρ).bind (kBi b) := by (conv => lhs; unfold ev) <;> rfl
def kMth2 (m : Mt) (v : RV) : List RV → En → R RV := fun vs ρ => R.of ρ (mtD m v vs)
@[simp] theorem kMth2_ap (m : Mt) (v : RV) (vs : List RV) (ρ : En) : kMth2 m v vs ρ = R.of ρ (mtD m v vs) := rfl
def kMth (G : Tab) (C : Nat → Option D) (m : Mt) (as : MEs) : RV → En → R RV := fun v ρ => if (waits v.t as.pure && v.d.isStr) = true then (evs G C as ρ).bind (kMth2 m v) else .no
@[simp] theorem kMth_ap (G : Tab) (C : Nat → Option D) (m : Mt) (as : MEs) (v : RV) (ρ : En) : kMth G C m as v ρ = if (waits v.t as.pure && v.d.isStr) = true then (evs G C as ρ).bind (kMth2 m v) else .no := rfl
@[simp] theorem ev_mth (G : Tab) (C : Nat → Option D) (m : Mt) (o : ME) (as : MEs) (ρ : En) : ev G C (.mth m o as) ρ = (ev G C o ρ).bind (kMth G C m as) := by (conv => lhs; unfold ev) <;> rfl
def kIxo2 (v : RV) : RV → En → R RV := fun w ρ => R.of ρ (ixoD v.d w.d)
@[simp] theorem kIxo2_ap (v : RV) (w : RV) (ρ : En) : kIxo2 v w ρ = R.of ρ (ixoD v.d w.d) := rfl
def kIxo (G : Tab) (C : Nat → Option D) (a : ME) : RV → En → R RV := fun v ρ => if (waits v.t a.pure && strTup v.d) = true then (ev G C a ρ).bind (kIxo2 v) else .no
@[simp] theorem kIxo_ap (G : Tab) (C : Nat → Option D) (a : ME) (v : RV) (ρ : En) : kIxo G C a v ρ = if (waits v.t a.pure && strTup v.d) = true then (ev G C a ρ).bind (kIxo2 v) else .no := rfl
@[simp] theorem ev_ixo (G : Tab) (C : Nat → Option D) (o a : ME) (ρ : En) : ev G C (.ixo o a) ρ = (ev G C o ρ).bind (kIxo G C a) := by (conv => lhs; unfold ev) <;> rfl
@[simp] theorem evs_nil (G : Tab) (C : Nat → Option D) (ρ : En) : evs G C .nil ρ = .ok [] ρ := by (conv => lhs; unfold evs) <;> rfl
def kCons2 (v : RV) : List RV → En → R (List RV) := fun vs ρ => .ok (v :: vs) ρ
@[simp] theorem kCons2_ap (v : RV) (vs : List RV) (ρ : En) : kCons2 v vs ρ = .ok (v :: vs) ρ := rfl
def kCons (G : Tab) (C : Nat → Option D) (as : MEs) : RV → En → R (List RV) := fun v ρ => if waits v.t as.pure = true then (evs G C as ρ).bind (kCons2 v) else .no
@[simp] theorem kCons_ap (G : Tab) (C : Nat → Option D) (as : MEs) (v : RV) (ρ : En) : kCons G C as v ρ = if waits v.t as.pure = true then (evs G C as ρ).bind (kCons2 v) else .no := rfl
@[simp] theorem evs_cons (G : Tab) (C : Nat → Option D) (a : ME) (as : MEs) (ρ : En) : evs G C (.cons a as) ρ = (ev G C a ρ).bind (kCons G C as) := by (conv => lhs; unfold evs) <;> rfl
def kSeq  : RV → En → R IR := fun v ρ => R.of ρ (seqD v)
@[simp] theorem kSeq_ap  (v : RV) (ρ : En) : kSeq  v ρ = R.of ρ (seqD v) := rfl
@[simp] theorem evi_seq (G : Tab) (C : Nat → Option D) (a : ME) (ρ : En) : evi G C (.seq a) ρ = (ev G C a ρ).bind kSeq := by (conv => lhs; unfold evi) <;> rfl
def kRng  : List RV → En → R IR := fun v ρ => R.of ρ (rngD v)
@[simp] theorem kRng_ap  (v : List RV) (ρ : En) : kRng  v ρ = R.of ρ (rngD v) := rfl
@[simp] theorem evi_rng (G : Tab) (C : Nat → Option D) (as : MEs) (ρ : En) : evi G C (.rng as) ρ = (evs G C as ρ).bind kRng := by (conv => lhs; unfold evi) <;> rfl
def kEnu  : RV → En → R IR := fun v ρ => R.of ρ (if v.d.isDic then none else (seqD v).map fun r => ⟨r.root, r.t, enuF 0 r.ds⟩)
@[simp] theorem kEnu_ap  (v : RV) (ρ : En) : kEnu  v ρ = R.of ρ (if v.d.isDic then none else (seqD v).map fun r => ⟨r.root, r.t, enuF 0 r.ds⟩) := rfl
@[simp] theorem evi_enu (G : Tab) (C : Nat → Option D) (a : ME) (ρ : En) : evi G C (.enu a) ρ = (ev G C a ρ).bind kEnu := by (conv => lhs; unfold evi) <;> rfl
def valsD (v : RV) : Option IR := match v with
  | ⟨t, .dic ks vs⟩ => if ks.all D.isTup then some ⟨t, t.item, vs⟩ else none
  | _ => none
def kVals  : RV → En → R IR := fun v ρ => R.of ρ (valsD v)
@[simp] theorem kVals_ap  (v : RV) (ρ : En) : kVals  v ρ = R.of ρ (valsD v) := rfl
@[simp] theorem evi_vals (G : Tab) (C : Nat → Option D) (a : ME) (ρ : En) : evi G C (.vals a) ρ = (ev G C a ρ).bind kVals := by (conv => lhs; unfold evi) <;> rfl
@[simp] theorem evt_tt (G : Tab) (C : Nat → Option D) (ρ : En) : evt G C .tt ρ = .ok true ρ := by (conv => lhs; unfold evt) <;> rfl
def kTAnd (G : Tab) (C : Nat → Option D) (b : MT) : Bool → En → R Bool := fun k ρ => if k = true then evt G C b ρ else .ok false ρ
@[simp] theorem kTAnd_ap (G : Tab) (C : Nat → Option D) (b : MT) (k : Bool) (ρ : En) : kTAnd G C b k ρ = if k = true then evt G C b ρ else .ok false ρ := rfl
@[simp] theorem evt_and (G : Tab) (C : Nat → Option D) (a b : MT) (ρ : En) : evt G C (.and a b) ρ = (evt G C a ρ).bind (kTAnd G C b) := by (conv => lhs; unfold evt) <;> rfl
def kTOr (G : Tab) (C : Nat → Option D) (b : MT) : Bool → En → R Bool := fun k ρ => if k = true then .ok true ρ else evt G C b ρ
@[simp] theorem kTOr_ap (G : Tab) (C : Nat → Option D) (b : MT) (k : Bool) (ρ : En) : kTOr G C b k ρ = if k = true then .ok true ρ else evt G C b ρ := rfl
@[simp] theorem evt_or (G : Tab) (C : Nat → Option D) (a b : MT) (ρ : En) : evt G C (.or a b) ρ = (evt G C a ρ).bind (kTOr G C b) := by (conv => lhs; unfold evt) <;> rfl
def kTNot  : Bool → En → R Bool := fun k ρ => .ok (!k) ρ
@[simp] theorem kTNot_ap  (k : Bool) (ρ : En) : kTNot  k ρ = .ok (!k) ρ := rfl
@[simp] theorem evt_not (G : Tab) (C : Nat → Option D) (a : MT) (ρ : En) : evt G C (.not a) ρ = (evt G C a ρ).bind kTNot := by (conv => lhs; unfold evt) <;> rfl
def kVal  : RV → En → R Bool := fun v ρ => R.of ρ (truD v.d)
@[simp] theorem kVal_ap  (v : RV) (ρ : En) : kVal  v ρ = R.of ρ (truD v.d) := rfl
@[simp] theorem evt_val (G : Tab) (C : Nat → Option D) (a : ME) (ρ : En) : evt G C (.val a) ρ = (ev G C a ρ).bind kVal := by (conv => lhs; unfold evt) <;> rfl
@[simp] theorem exs_nil (G : Tab) (C : Nat → Option D) (ρ : En) : exs G C .nil ρ = .ok .nx ρ := by (conv => lhs; unfold exs) <;> rfl
@[simp] theorem exs_cons (G : Tab) (C : Nat → Option D) (s : MS) (ss : MSs) (ρ : En) : exs G C (.cons s ss) ρ = (exc G C s ρ).seq (exs G C ss) := by
  conv => lhs; unfold exs
  cases exc G C s ρ with
  | ok f ρ1 => cases f <;> rfl
  | ex c ρ1 => rfl
  | no => rfl
/-- a store -/
def R.sto (o : Option En) : R Flow := match o with
  | some ρ => .ok .nx ρ
  | none => .no
@[simp] theorem R.sto_some (ρ : En) : R.sto (some ρ) = .ok .nx ρ := rfl
@[simp] theorem R.sto_none : R.sto none = .no := rfl
@[simp] theorem R.sto_if (c : Prop) [Decidable c] (a b : Option En) : R.sto (if c then a else b) = if c then R.sto a else R.sto b := by split <;> rfl
/-- a return -/
def R.rtn (o : Option RV) (ρ : En) : R Flow := match o with
  | some v => .ok (.rt v) ρ
  | none => .no
@[simp] theorem R.rtn_some (v : RV) (ρ : En) : R.rtn (some v) ρ = .ok (.rt v) ρ := rfl
/-- a loop, its source opened behind it -/
def R.opn (r : R Flow) (t : RT) (ρ0 : En) : R Flow := r.bind fun f ρ => .ok f (openE t ρ0 ρ)
@[simp] theorem R.opn_ok (f : Flow) (ρ : En) (t : RT) (ρ0 : En) : R.opn (.ok f ρ) t ρ0 = .ok f (openE t ρ0 ρ) := rfl
@[simp] theorem R.opn_ex (c : Nat) (ρ : En) (t : RT) (ρ0 : En) : R.opn (.ex c ρ) t ρ0 = .ex c ρ := rfl
def forL (body : En → R Flow) (bind : D → En → Option En) (ds : List D) (o : Option En) : R Flow := match o with
  | some ρ => forR bind body ds ρ
  | none => .no
@[simp] theorem forL_some (body : En → R Flow) (bind : D → En → Option En) (ds : List D) (ρ : En) : forL body bind ds (some ρ) = forR bind body ds ρ := rfl
def kAsg (tg : TG) : RV → En → R Flow := fun v ρ => R.sto (bindT tg v.t v.d ρ)
@[simp] theorem kAsg_ap (tg : TG) (v : RV) (ρ : En) : kAsg tg v ρ = R.sto (bindT tg v.t v.d ρ) := rfl
@[simp] theorem exc_asg (G : Tab) (C : Nat → Option D) (tg : TG) (e : ME) (ρ : En) : exc G C (.asg tg e) ρ = (ev G C e ρ).bind (kAsg tg) := by (conv => lhs; unfold exc) <;> rfl
def kPar (ts : List (Nat × Bool)) : List RV → En → R Flow := fun vs ρ => if parOk ts vs = true then R.sto (parE ts vs ρ) else .no
@[simp] theorem kPar_ap (ts : List (Nat × Bool)) (vs : List RV) (ρ : En) : kPar ts vs ρ = if parOk ts vs = true then R.sto (parE ts vs ρ) else .no := rfl
@[simp] theorem exc_par (G : Tab) (C : Nat → Option D) (ts : List (Nat × Bool)) (es : MEs) (ρ : En) : exc G C (.par ts es) ρ = (evs G C es ρ).bind (kPar ts) := by (conv => lhs; unfold exc) <;> rfl
def kSet2 (i : Nat) (v : RV) : List RV → En → R Flow := fun ks ρ => R.sto (chgE i (setPath v.d (ks.map (·.d))) ρ)
@[simp] theorem kSet2_ap (i : Nat) (v : RV) (ks : List RV) (ρ : En) : kSet2 i v ks ρ = R.sto (chgE i (setPath v.d (ks.map (·.d))) ρ) := rfl
noncomputable def kSet (G : Tab) (C : Nat → Option D) (i : Nat) (p : MEs) : RV → En → R Flow := fun v ρ => if (storeT v && p.pure && (ρ.at i).isSome) = true then (evs G C p ρ).bind (kSet2 i v) else .no
@[simp] theorem kSet_ap (G : Tab) (C : Nat → Option D) (i : Nat) (p : MEs) (v : RV) (ρ : En) : kSet G C i p v ρ = if (storeT v && p.pure && (ρ.at i).isSome) = true then (evs G C p ρ).bind (kSet2 i v) else .no := rfl
@[simp] theorem exc_set (G : Tab) (C : Nat → Option D) (i : Nat) (p : MEs) (e : ME) (ρ : En) : exc G C (.set i p e) ρ = (ev G C e ρ).bind (kSet G C i p) := by (conv => lhs; unfold exc) <;> rfl
def kApp (i : Nat) : RV → En → R Flow := fun v ρ => if storeT v = true then R.sto (chgE i (appPath v.d []) ρ) else .no
@[simp] theorem kApp_ap (i : Nat) (v : RV) (ρ : En) : kApp i v ρ = if storeT v = true then R.sto (chgE i (appPath v.d []) ρ) else .no := rfl
@[simp] theorem exc_app (G : Tab) (C : Nat → Option D) (i : Nat) (e : ME) (ρ : En) : exc G C (.app i .nil e) ρ = if lstAt ρ i = true then (ev G C e ρ).bind (kApp i) else .no := by
  conv => lhs; unfold exc
  simp [MEs.pure]
  rfl
def kSt23 (i : Nat) (v x : RV) : RV → En → R Flow := fun y ρ => R.sto (chgE i (setTwo v.d x.d y.d) ρ)
@[simp] theorem kSt23_ap (i : Nat) (v x : RV) (y : RV) (ρ : En) : kSt23 i v x y ρ = R.sto (chgE i (setTwo v.d x.d y.d) ρ) := rfl
noncomputable def kSt22 (G : Tab) (C : Nat → Option D) (i : Nat) (b : ME) (v : RV) : RV → En → R Flow := fun x ρ => (ev G C b ρ).bind (kSt23 i v x)
@[simp] theorem kSt22_ap (G : Tab) (C : Nat → Option D) (i : Nat) (b : ME) (v : RV) (x : RV) (ρ : En) : kSt22 G C i b v x ρ = (ev G C b ρ).bind (kSt23 i v x) := rfl
noncomputable def kSt2 (G : Tab) (C : Nat → Option D) (i : Nat) (a b : ME) : RV → En → R Flow := fun v ρ => if (storeT v && a.simp && b.simp && (ρ.at i).isSome) = true then (ev G C a ρ).bind (kSt22 G C i b v) else .no
@[simp] theorem kSt2_ap (G : Tab) (C : Nat → Option D) (i : Nat) (a b : ME) (v : RV) (ρ : En) : kSt2 G C i a b v ρ = if (storeT v && a.simp && b.simp && (ρ.at i).isSome) = true then (ev G C a ρ).bind (kSt22 G C i b v) else .no := rfl
@[simp] theorem exc_st2 (G : Tab) (C : Nat → Option D) (i : Nat) (a b e : ME) (ρ : En) : exc G C (.st2 i a b e) ρ = (ev G C e ρ).bind (kSt2 G C i a b) := by (conv => lhs; unfold exc) <;> rfl
def kApk2 (i : Nat) (x : RV) : RV → En → R Flow := fun v ρ => if storeT v = true then R.sto (chgE i (appAt v.d x.d) ρ) else .no
@[simp] theorem kApk2_ap (i : Nat) (x : RV) (v : RV) (ρ : En) : kApk2 i x v ρ = if storeT v = true then R.sto (chgE i (appAt v.d x.d) ρ) else .no := rfl
noncomputable def kApk (G : Tab) (C : Nat → Option D) (i : Nat) (e : ME) : RV → En → R Flow := fun x ρ => if dicLst ρ i x.d = true then (ev G C e ρ).bind (kApk2 i x) else .no
@[simp] theorem kApk_ap (G : Tab) (C : Nat → Option D) (i : Nat) (e : ME) (x : RV) (ρ : En) : kApk G C i e x ρ = if dicLst ρ i x.d = true then (ev G C e ρ).bind (kApk2 i x) else .no := rfl
@[simp] theorem exc_apk (G : Tab) (C : Nat → Option D) (i : Nat) (a e : ME) (ρ : En) : exc G C (.apk i a e) ρ = if (a.simp && e.pure) = true then (ev G C a ρ).bind (kApk G C i e) else .no := by (conv => lhs; unfold exc) <;> rfl
def kExpr  : RV → En → R Flow := fun v ρ => .ok .nx ρ
@[simp] theorem kExpr_ap  (v : RV) (ρ : En) : kExpr  v ρ = .ok .nx ρ := rfl
@[simp] theorem exc_expr (G : Tab) (C : Nat → Option D) (e : ME) (ρ : En) : exc G C (.expr e) ρ = (ev G C e ρ).bind kExpr := by (conv => lhs; unfold exc) <;> rfl
def kRet  : RV → En → R Flow := fun v ρ => R.rtn (retT v) ρ
@[simp] theorem kRet_ap  (v : RV) (ρ : En) : kRet  v ρ = R.rtn (retT v) ρ := rfl
@[simp] theorem exc_ret (G : Tab) (C : Nat → Option D) (e : ME) (ρ : En) : exc G C (.ret e) ρ = (ev G C e ρ).bind kRet := by (conv => lhs; unfold exc) <;> rfl
@[simp] theorem exc_retN (G : Tab) (C : Nat → Option D) (ρ : En) : exc G C .retN ρ = .ok (.rt ⟨.im, .non⟩) ρ := by (conv => lhs; unfold exc) <;> rfl
noncomputable def kIfe (G : Tab) (C : Nat → Option D) (a b : MSs) : Bool → En → R Flow := fun k ρ => if k = true then exs G C a ρ else exs G C b ρ
@[simp] theorem kIfe_ap (G : Tab) (C : Nat → Option D) (a b : MSs) (k : Bool) (ρ : En) : kIfe G C a b k ρ = if k = true then exs G C a ρ else exs G C b ρ := rfl
@[simp] theorem exc_ife (G : Tab) (C : Nat → Option D) (c : MT) (a b : MSs) (ρ : En) : exc G C (.ife c a b) ρ = (evt G C c ρ).bind (kIfe G C a b) := by (conv => lhs; unfold exc) <;> rfl
@[simp] theorem exc_whl (G : Tab) (C : Nat → Option D) (c : MT) (b : MSs) (ρ : En) : exc G C (.whl c b) ρ = loopR (whlS (evt G C c) (exs G C b)) ρ := by (conv => lhs; unfold exc) <;> rfl
noncomputable def kFr (G : Tab) (C : Nat → Option D) (tg : TG) (b : MSs) : IR → En → R Flow := fun r ρ => (forL (exs G C b) (bindT tg r.t) r.ds (lockE r.root ρ)).opn r.root ρ
@[simp] theorem kFr_ap (G : Tab) (C : Nat → Option D) (tg : TG) (b : MSs) (r : IR) (ρ : En) : kFr G C tg b r ρ = (forL (exs G C b) (bindT tg r.t) r.ds (lockE r.root ρ)).opn r.root ρ := rfl
@[simp] theorem exc_fr (G : Tab) (C : Nat → Option D) (tg : TG) (it : IT) (b : MSs) (ρ : En) : exc G C (.fr tg it b) ρ = (evi G C it ρ).bind (kFr G C tg b) := by
  conv => lhs; unfold exc
  congr 1
  funext r ρ1
  unfold kFr
  cases lockE r.root ρ1 <;> rfl
@[simp] theorem exc_rse (G : Tab) (C : Nat → Option D) (c : Nat) (ρ : En) : exc G C (.rse c) ρ = .ex c ρ := by (conv => lhs; unfold exc) <;> rfl
@[simp] theorem exc_pass (G : Tab) (C : Nat → Option D) (ρ : En) : exc G C .pass ρ = .ok .nx ρ := by (conv => lhs; unfold exc) <;> rfl
@[simp] theorem exc_brk (G : Tab) (C : Nat → Option D) (ρ : En) : exc G C .brk ρ = .ok .bk ρ := by (conv => lhs; unfold exc) <;> rfl
@[simp] theorem exc_cnt (G : Tab) (C : Nat → Option D) (ρ : En) : exc G C .cnt ρ = .ok .ct ρ := by (conv => lhs; unfold exc) <;> rfl
/-! ### tags -/
@[simp] theorem waits_im (p : Bool) : waits .im p = true := rfl
@[simp] theorem waits_vl (p : Bool) : waits .vl p = true := rfl
@[simp] theorem waits_fr (p : Bool) : waits .fr p = true := rfl
@[simp] theorem waits_tm (i : Nat) (p : Bool) : waits (.tm i) p = p := rfl
@[simp] theorem rt_im (i : Nat) : ST.rt i .im = .im := rfl
@[simp] theorem rt_vl (i : Nat) : ST.rt i .vl = .vl := rfl
@[simp] theorem rt_mu (i : Nat) : ST.rt i .mu = .tm i := rfl
@[simp] theorem rt_rf (i : Nat) : ST.rt i .rf = .tm i := rfl
@[simp] theorem rt_lk (i : Nat) : ST.rt i .lk = .tm i := rfl
@[simp] theorem nrm_im (d : D) : RV.nrm ⟨.im, d⟩ = ⟨.im, d⟩ := by unfold RV.nrm; split <;> rfl
theorem nrm_of {t : RT} {d : D} (h : d.imm = true) : RV.nrm ⟨t, d⟩ = ⟨.im, d⟩ := by unfold RV.nrm; rw [if_pos h]
@[simp] theorem sj_im (t : RT) : RT.join .im t = some t := by cases t <;> rfl
@[simp] theorem sj_im' (t : RT) : RT.join t .im = some t := by cases t <;> rfl
@[simp] theorem newL_im : RT.newL .im = .fr := rfl
@[simp] theorem item_im : RT.item .im = .im := rfl
@[simp] theorem item_vl : RT.item .vl = .vl := rfl
@[simp] theorem item_fr : RT.item .fr = .vl := rfl
@[simp] theorem slot_im (o : Bool) (d : D) : RT.slot o .im d = some .im := by cases o <;> rfl
@[simp] theorem slot_vl (d : D) : RT.slot false .vl d = some .vl := rfl
@[simp] theorem slot_fr (d : D) : RT.slot false .fr d = some .vl := rfl
@[simp] theorem slot_frT (d : D) : RT.slot true .fr d = some .mu := rfl
@[simp] theorem lock_im (ρ : En) : lockE .im ρ = some ρ := rfl
@[simp] theorem lock_vl (ρ : En) : lockE .vl ρ = some ρ := rfl
@[simp] theorem lock_fr (ρ : En) : lockE .fr ρ = some ρ := rfl
@[simp] theorem open_im (ρ ρ' : En) : openE .im ρ ρ' = ρ' := rfl
@[simp] theorem open_vl (ρ ρ' : En) : openE .vl ρ ρ' = ρ' := rfl
@[simp] theorem open_fr (ρ ρ' : En) : openE .fr ρ ρ' = ρ' := rfl
@[simp] theorem retT_im (d : D) : retT ⟨.im, d⟩ = some ⟨.im, d⟩ := rfl
@[simp] theorem retT_vl (d : D) : retT ⟨.vl, d⟩ = some ⟨.vl, d⟩ := rfl
@[simp] theorem retT_fr (d : D) : retT ⟨.fr, d⟩ = some ⟨.fr, d⟩ := rfl
@[simp] theorem bindT_nm (i : Nat) (o : Bool) (t : RT) (d : D) (ρ : En) : bindT (.nm i o) t d ρ = if ρ.free i then (t.slot o d).map fun s => ρ.put i (some ⟨s, d⟩) else none := by unfold bindT; rfl
@[simp] theorem bindT_one (a : TG) (t : RT) (d : D) (ρ : En) : bindT (.one a) t (.tup [d]) ρ = bindT a t d ρ := by conv => lhs; unfold bindT
@[simp] theorem bindT_tp (a b : TG) (t : RT) (d : D) (ds : List D) (ρ : En) : bindT (.tp a b) t (.tup (d :: ds)) ρ = (bindT a t d ρ).bind fun ρ' => bindT b t (.tup ds) ρ' := by conv => lhs; unfold bindT
@[simp] theorem joinAll_nil : joinAll [] = some .im := rfl
@[simp] theorem joinAll_cons (v : RV) (vs : List RV) : joinAll (v :: vs) = (joinAll vs).bind fun t => v.t.join t := rfl
@[simp] theorem storeT_im (d : D) : storeT ⟨.im, d⟩ = true := rfl
@[simp] theorem storeT_fr (d : D) : storeT ⟨.fr, d⟩ = true := rfl
/-! ### data -/
@[simp] theorem imm_int (i : Int) : (D.int i).imm = true := rfl
@[simp] theorem imm_bl (b : Bool) : (D.bl b).imm = true := rfl
@[simp] theorem imm_non : D.non.imm = true := rfl
@[simp] theorem imm_str (x : Str) : (D.str x).imm = true := rfl
@[simp] theorem imm_tup (ds : List D) : (D.tup ds).imm = immAll ds := by simp [D.imm]
@[simp] theorem immAll_nil : immAll [] = true := by simp [immAll]
@[simp] theorem immAll_cons (d : D) (ds : List D) : immAll (d :: ds) = (d.imm && immAll ds) := by conv => lhs; unfold immAll
@[simp] theorem immAll_append (a b : List D) : immAll (a ++ b) = (immAll a && immAll b) := by
  induction a with
  | nil => simp
  | cons d ds ih => simp [ih, Bool.and_assoc]
theorem immAll_map {α : Type} (g : α → D) (xs : List α) (h : ∀ x ∈ xs, (g x).imm = true) : immAll (xs.map g) = true := by
  induction xs with
  | nil => simp
  | cons x xs ih => simp [h x (by simp), ih fun y hy => h y (by simp [hy])]

/-! ### whole defs -/
noncomputable section
def outR (v : RV) (o : Option (List D)) : SR := match o with
  | some o => .ret v o
  | none => .no
def outX (c : Nat) (o : Option (List D)) : SR := match o with
  | some o => .ex c o
  | none => .no
def endF (ms : List Mode) (r : R Flow) : SR := match r with
  | .ok (.rt v) ρ => outR v (outsOf ms 0 ρ)
  | .ok .nx ρ => outR ⟨.im, .non⟩ (outsOf ms 0 ρ)
  | .ok _ _ => .no
  | .ex c ρ => outX c (outsOf ms 0 ρ)
  | .no => .no
@[simp] theorem outR_some (v : RV) (o : List D) : outR v (some o) = .ret v o := rfl
@[simp] theorem outX_some (c : Nat) (o : List D) : outX c (some o) = .ex c o := rfl
@[simp] theorem endF_rt (ms : List Mode) (v : RV) (ρ : En) : endF ms (.ok (.rt v) ρ) = outR v (outsOf ms 0 ρ) := rfl
@[simp] theorem endF_nx (ms : List Mode) (ρ : En) : endF ms (.ok .nx ρ) = outR ⟨.im, .non⟩ (outsOf ms 0 ρ) := rfl
@[simp] theorem endF_ex (ms : List Mode) (c : Nat) (ρ : En) : endF ms (.ex c ρ) = outX c (outsOf ms 0 ρ) := rfl
@[simp] theorem endF_no (ms : List Mode) : endF ms .no = .no := rfl
@[simp] theorem endF_if (ms : List Mode) (c : Prop) [Decidable c] (a b : R Flow) : endF ms (if c then a else b) = if c then endF ms a else endF ms b := by split <;> rfl
@[simp] theorem outsOf_nil (i : Nat) (ρ : En) : outsOf [] i ρ = some [] := rfl
@[simp] theorem outsOf_vl (ms : List Mode) (i : Nat) (ρ : En) : outsOf (.vl :: ms) i ρ = outsOf ms (i + 1) ρ := rfl
@[simp] theorem outsOf_im (ms : List Mode) (i : Nat) (ρ : En) : outsOf (.im :: ms) i ρ = outsOf ms (i + 1) ρ := rfl
def rfO (o : Option SV) (r : Option (List D)) : Option (List D) := match o with
  | some ⟨.rf, d⟩ => r.map (d :: ·)
  | _ => none
@[simp] theorem rfO_rf (d : D) (r : Option (List D)) : rfO (some ⟨.rf, d⟩) r = r.map (d :: ·) := rfl
@[simp] theorem outsOf_rf (ms : List Mode) (i : Nat) (ρ : En) : outsOf (.rf :: ms) i ρ = rfO (ρ.at i) (outsOf ms (i + 1) ρ) := by
  conv => lhs; unfold outsOf
  unfold rfO
  rfl
theorem runF_eq (G : Tab) (C : Nat → Option D) (ms : List Mode) (n : Nat) (b : MSs) (ds : List D) {ρ : En} (h : startE ms ds n = some ρ) : runF G C ms n b ds = endF ms (exs G C b ρ) := by
  unfold runF
  rw [h]
  dsimp only
  cases exs G C b ρ with
  | ok f ρ' => cases f <;> first | rfl | (unfold endF outR; dsimp only; cases outsOf ms 0 ρ' <;> rfl)
  | ex c ρ' => unfold endF outX; dsimp only; try (cases outsOf ms 0 ρ' <;> rfl)
  | no => rfl
def startK (G : Tab) (C : Nat → Option D) (ms : List Mode) (b : MSs) (o : Option En) : SR := match o with
  | some ρ => endF ms (exs G C b ρ)
  | none => .no
@[simp] theorem startK_some (G : Tab) (C : Nat → Option D) (ms : List Mode) (b : MSs) (ρ : En) : startK G C ms b (some ρ) = endF ms (exs G C b ρ) := rfl
theorem runF_st (G : Tab) (C : Nat → Option D) (ms : List Mode) (n : Nat) (b : MSs) (ds : List D) : runF G C ms n b ds = startK G C ms b (startE ms ds n) := by
  cases e : startE ms ds n with
  | none => unfold runF; rw [e]; rfl
  | some ρ => exact runF_eq G C ms n b ds e
@[simp] theorem startE_nil (n : Nat) : startE [] [] n = some (List.replicate n none) := rfl
@[simp] theorem startE_cons (m : Mode) (ms : List Mode) (d : D) (ds : List D) (n : Nat) : startE (m :: ms) (d :: ds) n = (startE ms ds n).map (some ⟨m.slot, d⟩ :: ·) := rfl
@[simp] theorem repl_0 : (List.replicate 0 none : En) = [] := rfl
@[simp] theorem repl_S (n : Nat) : (List.replicate (n + 1) none : En) = none :: List.replicate n none := rfl
@[simp] theorem slot_m_vl : Mode.slot .vl = .vl := rfl
@[simp] theorem slot_m_rf : Mode.slot .rf = .rf := rfl
/-! calls -/
def callC (o : Option En) (v : Option RV) : R RV := match o, v with
  | some ρ', some v' => .ok v' ρ'
  | _, _ => .no
@[simp] theorem callC_some (ρ : En) (v : RV) : callC (some ρ) (some v) = .ok v ρ := rfl
def callX (c : Nat) (o : Option En) : R RV := match o with
  | some ρ' => .ex c ρ'
  | none => .no
@[simp] theorem callX_some (c : Nat) (ρ : En) : callX c (some ρ) = .ex c ρ := rfl
def callB (rs : List Nat) (b : Bool) (ρ : En) (r : SR) : R RV := match r with
  | .ret v outs => callC (putOuts rs outs ρ) (resT b v)
  | .ex c outs => callX c (putOuts rs outs ρ)
  | .no => .no
@[simp] theorem callB_ret (rs : List Nat) (b : Bool) (ρ : En) (v : RV) (o : List D) : callB rs b ρ (.ret v o) = callC (putOuts rs o ρ) (resT b v) := rfl
@[simp] theorem callB_ex (rs : List Nat) (b : Bool) (ρ : En) (c : Nat) (o : List D) : callB rs b ρ (.ex c o) = callX c (putOuts rs o ρ) := rfl
@[simp] theorem callB_if (rs : List Nat) (b : Bool) (ρ : En) (c : Prop) [Decidable c] (x y : SR) : callB rs b ρ (if c then x else y) = if c then callB rs b ρ x else callB rs b ρ y := by split <;> rfl
def callA (F : Fn) (rs : List Nat) (b : Bool) (ρ : En) (o : Option (List D)) : R RV := match o with
  | some ds => callB rs b ρ (F.sem ds)
  | none => .no
@[simp] theorem callA_some (F : Fn) (rs : List Nat) (b : Bool) (ρ : En) (ds : List D) : callA F rs b ρ (some ds) = callB rs b ρ (F.sem ds) := rfl
@[simp] theorem callF_eq (F : Fn) (rs : List Nat) (vs : List RV) (ρ : En) : callF F (some rs) vs ρ = if rs.Nodup then callA F rs (anyTm F.modes vs) ρ (argOk rs ρ F.modes rs vs) else .no := by
  unfold callF callA callB
  dsimp only
  split
  · cases argOk rs ρ F.modes rs vs with
    | none => rfl
    | some ds =>
      dsimp only
      cases F.sem ds with
      | ret v o => unfold callC; dsimp only; try (cases putOuts rs o ρ <;> cases resT (anyTm F.modes vs) v <;> rfl)
      | ex c o => unfold callX; dsimp only; try (cases putOuts rs o ρ <;> rfl)
      | no => rfl
  · rfl
@[simp] theorem argOk_nil (rs : List Nat) (ρ : En) : argOk rs ρ [] [] [] = some [] := rfl
@[simp] theorem argOk_vl0 (ρ : En) (ms : List Mode) (is : List Nat) (v : RV) (vs : List RV) : argOk [] ρ (.vl :: ms) is (v :: vs) = (argOk [] ρ ms is vs).map (v.d :: ·) := by
  conv => lhs; unfold argOk
  obtain ⟨t, d⟩ := v
  cases t <;> rfl
@[simp] theorem argOk_im' (rs : List Nat) (ρ : En) (ms : List Mode) (is : List Nat) (d : D) (vs : List RV) : argOk rs ρ (.vl :: ms) is (⟨.im, d⟩ :: vs) = (argOk rs ρ ms is vs).map (d :: ·) := rfl
@[simp] theorem argOk_vl' (rs : List Nat) (ρ : En) (ms : List Mode) (is : List Nat) (d : D) (vs : List RV) : argOk rs ρ (.vl :: ms) is (⟨.vl, d⟩ :: vs) = (argOk rs ρ ms is vs).map (d :: ·) := rfl
@[simp] theorem argOk_fr' (rs : List Nat) (ρ : En) (ms : List Mode) (is : List Nat) (d : D) (vs : List RV) : argOk rs ρ (.vl :: ms) is (⟨.fr, d⟩ :: vs) = (argOk rs ρ ms is vs).map (d :: ·) := rfl
def argR (o : Option SV) (r : Option (List D)) : Option (List D) := match o with
  | some ⟨.mu, d⟩ => r.map (d :: ·)
  | some ⟨.rf, d⟩ => r.map (d :: ·)
  | _ => none
@[simp] theorem argR_mu (d : D) (r : Option (List D)) : argR (some ⟨.mu, d⟩) r = r.map (d :: ·) := rfl
@[simp] theorem argR_rf (d : D) (r : Option (List D)) : argR (some ⟨.rf, d⟩) r = r.map (d :: ·) := rfl
@[simp] theorem argOk_rf (rs : List Nat) (ρ : En) (ms : List Mode) (i : Nat) (is : List Nat) (v : RV) (vs : List RV) : argOk rs ρ (.rf :: ms) (i :: is) (v :: vs) = argR (ρ.at i) (argOk rs ρ ms is vs) := by
  conv => lhs; unfold argOk
  unfold argR
  rfl
@[simp] theorem rfSlots_nil : rfSlots [] .nil = some [] := rfl
@[simp] theorem rfSlots_rf (ms : List Mode) (i : Nat) (as : MEs) : rfSlots (.rf :: ms) (.cons (.var i) as) = (rfSlots ms as).map (i :: ·) := rfl
@[simp] theorem rfSlots_vl (ms : List Mode) (a : ME) (as : MEs) : rfSlots (.vl :: ms) (.cons a as) = rfSlots ms as := by conv => lhs; unfold rfSlots
@[simp] theorem putOuts_nil (ρ : En) : putOuts [] [] ρ = some ρ := rfl
def putO (i : Nat) (o : Option SV) (is : List Nat) (d : D) (ds : List D) (ρ : En) : Option En := match o with
  | some ⟨t, _⟩ => putOuts is ds (ρ.put i (some ⟨t, d⟩))
  | none => none
@[simp] theorem putO_some (i : Nat) (t : ST) (d0 : D) (is : List Nat) (d : D) (ds : List D) (ρ : En) : putO i (some ⟨t, d0⟩) is d ds ρ = putOuts is ds (ρ.put i (some ⟨t, d⟩)) := rfl
@[simp] theorem putOuts_cons (i : Nat) (is : List Nat) (d : D) (ds : List D) (ρ : En) : putOuts (i :: is) (d :: ds) ρ = putO i (ρ.at i) is d ds ρ := by
  conv => lhs; unfold putOuts
  unfold putO
  rfl
@[simp] theorem resT_im (b : Bool) (d : D) : resT b ⟨.im, d⟩ = some ⟨.im, d⟩ := rfl
@[simp] theorem resT_fr (b : Bool) (d : D) : resT b ⟨.fr, d⟩ = some ⟨.fr, d⟩ := rfl
@[simp] theorem resT_vl (d : D) : resT false ⟨.vl, d⟩ = some ⟨.vl, d⟩ := rfl
end
/-! ### values with an open tag -/
@[simp] theorem nrm_dd (v : RV) : v.nrm.d = v.d := by unfold RV.nrm; split <;> rfl
@[simp] theorem nrm_int (t : RT) (i : Int) : RV.nrm ⟨t, .int i⟩ = ⟨.im, .int i⟩ := rfl
@[simp] theorem nrm_bl (t : RT) (i : Bool) : RV.nrm ⟨t, .bl i⟩ = ⟨.im, .bl i⟩ := rfl
@[simp] theorem nrm_str (t : RT) (i : Str) : RV.nrm ⟨t, .str i⟩ = ⟨.im, .str i⟩ := rfl
@[simp] theorem nrm_non (t : RT) : RV.nrm ⟨t, .non⟩ = ⟨.im, .non⟩ := rfl
@[simp] theorem waits_nrm (d : D) (p : Bool) : waits (RV.nrm ⟨.vl, d⟩).t p = true := by unfold RV.nrm; split <;> rfl
@[simp] theorem waits_true (t : RT) : waits t true = true := by cases t <;> rfl
@[simp] theorem retT_nrm (d : D) : retT (RV.nrm ⟨.vl, d⟩) = some (RV.nrm ⟨.vl, d⟩) := by unfold RV.nrm; split <;> rfl
@[simp] theorem slot_nrm (d : D) : RT.slot false (RV.nrm ⟨.vl, d⟩).t d = some (if d.imm then .im else .vl) := by unfold RV.nrm; split <;> simp [*]
@[simp] theorem isi_eq (T : Ty) (v : RV) : biD (.isi T) [v] = if v.d.known then some ⟨.im, .bl (v.d.isT T)⟩ else none := rfl
def lenD : D → Option RV
  | .tup ds => some ⟨.im, .int ds.length⟩
  | .lst ds => some ⟨.im, .int ds.length⟩
  | .scr ns => some ⟨.im, .int ns.length⟩
  | .str z => if z.length ≤ big then some ⟨.im, .int z.length⟩ else none
  | .dic ks _ => some ⟨.im, .int ks.length⟩
  | _ => none
@[simp] theorem len_eq (v : RV) : biD .len [v] = lenD v.d := by obtain ⟨t, d⟩ := v; cases d <;> rfl
@[simp] theorem lenD_tup (ds : List D) : lenD (.tup ds) = some ⟨.im, .int ds.length⟩ := rfl
@[simp] theorem lenD_lst (ds : List D) : lenD (.lst ds) = some ⟨.im, .int ds.length⟩ := rfl
@[simp] theorem lenD_scr (ds : List Int) : lenD (.scr ds) = some ⟨.im, .int ds.length⟩ := rfl
@[simp] theorem max2_eq (t u : RT) (i j : Int) : biD .max2 [⟨t, .int i⟩, ⟨u, .int j⟩] = some ⟨.im, .int (if j > i then j else i)⟩ := rfl
@[simp] theorem min2_eq (t u : RT) (i j : Int) : biD .min2 [⟨t, .int i⟩, ⟨u, .int j⟩] = some ⟨.im, .int (if j < i then j else i)⟩ := rfl
@[simp] theorem abs_eq (t : RT) (i : Int) : biD .abs [⟨t, .int i⟩] = some ⟨.im, .int (if i < 0 then -i else i)⟩ := rfl
@[simp] theorem int_eq (t : RT) (i : Int) : biD .int [⟨t, .int i⟩] = some ⟨.im, .int i⟩ := rfl
@[simp] theorem intb_eq (t : RT) (b : Bool) : biD .int [⟨t, .bl b⟩] = some ⟨.im, .int (if b then 1 else 0)⟩ := rfl
@[simp] theorem add_eq (t u : RT) (i j : Int) : opD .add ⟨t, .int i⟩ ⟨u, .int j⟩ = some ⟨.im, .int (i + j)⟩ := rfl
@[simp] theorem sub_eq (t u : RT) (i j : Int) : opD .sub ⟨t, .int i⟩ ⟨u, .int j⟩ = some ⟨.im, .int (i - j)⟩ := rfl
@[simp] theorem mul_eq (t u : RT) (i j : Int) : opD .mul ⟨t, .int i⟩ ⟨u, .int j⟩ = if smallI i || smallI j then some ⟨.im, .int (i * j)⟩ else none := rfl
@[simp] theorem fdiv_eq (t u : RT) (i j : Int) : opD .fdiv ⟨t, .int i⟩ ⟨u, .int j⟩ = if 0 < j ∧ j < 1073741824 then some ⟨.im, .int (i / j)⟩ else none := rfl
@[simp] theorem mod_eq (t u : RT) (i j : Int) : opD .mod ⟨t, .int i⟩ ⟨u, .int j⟩ = if 0 < j then some ⟨.im, .int (i % j)⟩ else none := rfl
@[simp] theorem addT_eq (a b : List D) : opD .add ⟨.im, .tup a⟩ ⟨.im, .tup b⟩ = if a.length + b.length ≤ big then some ⟨.im, .tup (a ++ b)⟩ else none := by simp [opD]
@[simp] theorem lt_eq (i j : Int) : cmpD .lt (.int i) (.int j) = some (decide (i < j)) := rfl
@[simp] theorem le_eq (i j : Int) : cmpD .le (.int i) (.int j) = some (decide (i ≤ j)) := rfl
@[simp] theorem gt_eq (i j : Int) : cmpD .gt (.int i) (.int j) = some (decide (j < i)) := rfl
@[simp] theorem ge_eq (i j : Int) : cmpD .ge (.int i) (.int j) = some (decide (j ≤ i)) := rfl
@[simp] theorem eq_eq (a b : D) : cmpD .eq a b = eqD a b := rfl
@[simp] theorem ne_eq' (a b : D) : cmpD .ne a b = (eqD a b).map (!·) := rfl
@[simp] theorem eqI (i j : Int) : eqD (.int i) (.int j) = some (decide (i = j)) := rfl
@[simp] theorem eqS (i j : Str) : eqD (.str i) (.str j) = some (decide (i = j)) := rfl
@[simp] theorem eqB (i j : Bool) : eqD (.bl i) (.bl j) = some (i == j) := rfl
@[simp] theorem isN (a : D) : cmpD .is_ a .non = isNonD a := by cases a <;> rfl
@[simp] theorem isnN (a : D) : cmpD .isn a .non = (isNonD a).map (!·) := by cases a <;> rfl
@[simp] theorem isB (a b : Bool) : cmpD .is_ (.bl a) (.bl b) = some (a == b) := rfl
@[simp] theorem isnB (a b : Bool) : cmpD .isn (.bl a) (.bl b) = some (!(a == b)) := rfl
@[simp] theorem isNon_non : isNonD .non = some true := rfl
@[simp] theorem isNon_int (i : Int) : isNonD (.int i) = some false := rfl
@[simp] theorem isNon_tup (i : List D) : isNonD (.tup i) = some false := rfl
@[simp] theorem isNon_lst (i : List D) : isNonD (.lst i) = some false := rfl
@[simp] theorem isNon_str (i : Str) : isNonD (.str i) = some false := rfl
@[simp] theorem isNon_bl (i : Bool) : isNonD (.bl i) = some false := rfl
@[simp] theorem tru_bl (b : Bool) : truD (.bl b) = some b := rfl
@[simp] theorem tru_int (i : Int) : truD (.int i) = some (i != 0) := rfl
@[simp] theorem in_eq (a b : D) : cmpD .in_ a b = inD a b := rfl
@[simp] theorem nin_eq (a b : D) : cmpD .nin a b = (inD a b).map (!·) := rfl
@[simp] theorem idxT_int (t : RT) (ds : List D) (i : Int) : idxD ⟨t, .tup ds⟩ (.int i) = (atI ds i).map fun d => ⟨t, d⟩ := rfl
@[simp] theorem idxL_int (t : RT) (ds : List D) (i : Int) : idxD ⟨t, .lst ds⟩ (.int i) = (atI ds i).map fun d => ⟨t, d⟩ := rfl
@[simp] theorem idxS_int (t : RT) (ns : List Int) (i : Int) : idxD ⟨t, .scr ns⟩ (.int i) = (atI ns i).map fun n => ⟨.im, .int n⟩ := rfl
theorem atI_nat {α : Type} (xs : List α) (n : Nat) : atI xs (n : Int) = xs[n]? := by
  unfold L2.atI ixN
  by_cases h : n < xs.length
  · simp [h]
  · simp [h] <;> omega
@[simp] theorem atI_0 {α : Type} (a : α) (xs : List α) : atI (a :: xs) 0 = some a := by have := atI_nat (a :: xs) 0; simpa using this
@[simp] theorem atI_1 {α : Type} (a b : α) (xs : List α) : atI (a :: b :: xs) 1 = some b := by have := atI_nat (a :: b :: xs) 1; simpa using this
@[simp] theorem atI_2 {α : Type} (a b c : α) (xs : List α) : atI (a :: b :: c :: xs) 2 = some c := by have := atI_nat (a :: b :: c :: xs) 2; simpa using this
@[simp] theorem atI_3 {α : Type} (a b c d : α) (xs : List α) : atI (a :: b :: c :: d :: xs) 3 = some d := by have := atI_nat (a :: b :: c :: d :: xs) 3; simpa using this
@[simp] theorem atI_4 {α : Type} (a b c d e : α) (xs : List α) : atI (a :: b :: c :: d :: e :: xs) 4 = some e := by have := atI_nat (a :: b :: c :: d :: e :: xs) 4; simpa using this
/-! ### loops -/
def forK (f : D → En → Option En) (body : En → R Flow) (ds : List D) (r : R Flow) : R Flow := match r with
  | .ok .nx ρ2 => forR f body ds ρ2
  | .ok .ct ρ2 => forR f body ds ρ2
  | .ok .bk ρ2 => .ok .nx ρ2
  | .ok (.rt v) ρ2 => .ok (.rt v) ρ2
  | .ex c ρ2 => .ex c ρ2
  | .no => .no
@[simp] theorem forK_nx (f : D → En → Option En) (body : En → R Flow) (ds : List D) (ρ : En) : forK f body ds (.ok .nx ρ) = forR f body ds ρ := rfl
@[simp] theorem forK_ct (f : D → En → Option En) (body : En → R Flow) (ds : List D) (ρ : En) : forK f body ds (.ok .ct ρ) = forR f body ds ρ := rfl
@[simp] theorem forK_rt (f : D → En → Option En) (body : En → R Flow) (ds : List D) (v : RV) (ρ : En) : forK f body ds (.ok (.rt v) ρ) = .ok (.rt v) ρ := rfl
@[simp] theorem forK_ex (f : D → En → Option En) (body : En → R Flow) (ds : List D) (c : Nat) (ρ : En) : forK f body ds (.ex c ρ) = .ex c ρ := rfl
@[simp] theorem forK_if (f : D → En → Option En) (body : En → R Flow) (ds : List D) (c : Prop) [Decidable c] (a b : R Flow) : forK f body ds (if c then a else b) = if c then forK f body ds a else forK f body ds b := by split <;> rfl
def forB (body : En → R Flow) (o : Option En) : R Flow := match o with
  | some ρ => body ρ
  | none => .no
@[simp] theorem forB_some (body : En → R Flow) (ρ : En) : forB body (some ρ) = body ρ := rfl
@[simp] theorem forR_nil (f : D → En → Option En) (body : En → R Flow) (ρ : En) : forR f body [] ρ = .ok .nx ρ := rfl
theorem forR_cons (f : D → En → Option En) (body : En → R Flow) (d : D) (ds : List D) (ρ : En) : forR f body (d :: ds) ρ = forK f body ds (forB body (f d ρ)) := by
  conv => lhs; unfold forR
  unfold forK forB
  cases f d ρ with
  | none => rfl
  | some ρ1 => rfl

/-! ### comprehensions -/
section
variable (G : Tab) (C : Nat → Option D)
def lczV (r : R RV) : Option (Option RV) := match r with
  | .ok v _ => (retT v).map some
  | _ => none
@[simp] theorem lczV_ok (v : RV) (ρ : En) : lczV (.ok v ρ) = (retT v).map some := rfl
@[simp] theorem lczV_if (c : Prop) [Decidable c] (a b : R RV) : lczV (if c then a else b) = if c then lczV a else lczV b := by split <;> rfl
def lczH (e : ME) (ρ : En) (r : R Bool) : Option (Option RV) := match r with
  | .ok k _ => if k = true then lczV (ev G C e ρ) else some none
  | _ => none
@[simp] theorem lczH_ok (e : ME) (ρ ρ' : En) (k : Bool) : lczH G C e ρ (.ok k ρ') = if k = true then lczV (ev G C e ρ) else some none := rfl
@[simp] theorem lczH_if (e : ME) (ρ : En) (c : Prop) [Decidable c] (a b : R Bool) : lczH G C e ρ (if c then a else b) = if c then lczH G C e ρ a else lczH G C e ρ b := by split <;> rfl
def lczG (e : ME) (c : MT) (o : Option En) : Option (Option RV) := match o with
  | some ρ => lczH G C e ρ (evt G C c ρ)
  | none => none
@[simp] theorem lczG_some (e : ME) (c : MT) (ρ : En) : lczG G C e c (some ρ) = lczH G C e ρ (evt G C c ρ) := rfl
def lczF (e : ME) (tg : TG) (c : MT) (t : RT) (ρ : En) (d : D) : Option (Option RV) := lczG G C e c (bindT tg t d ρ)
@[simp] theorem lczF_ap (e : ME) (tg : TG) (c : MT) (t : RT) (ρ : En) (d : D) : lczF G C e tg c t ρ d = lczG G C e c (bindT tg t d ρ) := rfl
def lczE (vs : List RV) : Option RV := if vs.length ≤ big then (joinAll vs).map fun t => ⟨t.newL, .lst (vs.map (·.d))⟩ else none
def lczO (o : Option (List RV)) : Option RV := match o with
  | some vs => lczE vs
  | none => none
@[simp] theorem lczO_some (vs : List RV) : lczO (some vs) = lczE vs := rfl
def kLc (e : ME) (tg : TG) (own : List Nat) (c : MT) : IR → En → R RV := fun r ρ => if (e.pure && c.pure && own.all (clearB ρ)) = true then R.of ρ (lczO (turns (lczF G C e tg c r.t (wipeE ρ own)) r.ds)) else .no
@[simp] theorem kLc_ap (e : ME) (tg : TG) (own : List Nat) (c : MT) (r : IR) (ρ : En) : kLc G C e tg own c r ρ = if (e.pure && c.pure && own.all (clearB ρ)) = true then R.of ρ (lczO (turns (lczF G C e tg c r.t (wipeE ρ own)) r.ds)) else .no := rfl
@[simp] theorem ev_lc (e : ME) (tg : TG) (own : List Nat) (it : IT) (c : MT) (ρ : En) : ev G C (.lc e tg own it c) ρ = (evi G C it ρ).bind (kLc G C e tg own c) := by
  conv => lhs; unfold ev
  congr 1
  funext r ρ1
  unfold kLc
  split
  · congr 1
    have h : (fun d => (bindT tg r.t d (wipeE ρ1 own)).bind fun ρ1 => (evt G C c ρ1).val.bind fun k => if k = true then (ev G C e ρ1).val.bind fun v => (retT v).map some else some none) = lczF G C e tg c r.t (wipeE ρ1 own) := by
      funext d
      unfold lczF lczG lczH lczV
      cases bindT tg r.t d (wipeE ρ1 own) with
      | none => rfl
      | some ρ2 =>
        dsimp only [Option.bind]
        cases evt G C c ρ2 with
        | ok k ρ3 =>
          cases k
          · rfl
          · dsimp only [R.val]
            rw [if_pos rfl, if_pos rfl]
            cases ev G C e ρ2 <;> rfl
        | ex _ _ => rfl
        | no => rfl
    rw [h]
    cases turns (lczF G C e tg c r.t (wipeE ρ1 own)) r.ds <;> rfl
  · rfl
end
@[simp] theorem wipeE_nil (ρ : En) : wipeE ρ [] = ρ := rfl
@[simp] theorem wipeE_cons (ρ : En) (i : Nat) (is : List Nat) : wipeE ρ (i :: is) = wipeE (ρ.put i none) is := rfl
def clrO (o : Option SV) : Bool := match o with
  | some ⟨.mu, _⟩ => false
  | some ⟨.rf, _⟩ => false
  | some ⟨.lk, _⟩ => false
  | _ => true
@[simp] theorem clearB_eq (ρ : En) (i : Nat) : clearB ρ i = clrO (ρ.at i) := rfl
@[simp] theorem clrO_none : clrO none = true := rfl
@[simp] theorem clrO_im (d : D) : clrO (some ⟨.im, d⟩) = true := rfl
@[simp] theorem clrO_vl (d : D) : clrO (some ⟨.vl, d⟩) = true := rfl
theorem turns_map {α : Type} (f : D → Option (Option RV)) (g : α → D) (h : α → D) : ∀ (xs : List α), (∀ x ∈ xs, f (g x) = some (some ⟨.im, h x⟩)) → turns f (xs.map g) = some (xs.map fun x => ⟨.im, h x⟩)
  | [], _ => rfl
  | x :: xs, hx => by
    have ih := turns_map f g h xs fun y hy => hx y (by simp [hy])
    rw [List.map_cons]
    unfold turns
    rw [hx x (by simp), ih]
    rfl
theorem turns_filter {α : Type} (f : D → Option (Option RV)) (g : α → D) (h : α → D) (p : α → Bool) : ∀ (xs : List α), (∀ x ∈ xs, f (g x) = some (if p x = true then some ⟨.im, h x⟩ else none)) → turns f (xs.map g) = some ((xs.filter p).map fun x => ⟨.im, h x⟩)
  | [], _ => rfl
  | x :: xs, hx => by
    have ih := turns_filter f g h p xs fun y hy => hx y (by simp [hy])
    rw [List.map_cons]
    unfold turns
    rw [hx x (by simp), ih]
    cases q : p x <;> simp [q]
theorem joinAll_ims {α : Type} (h : α → D) : ∀ (xs : List α), joinAll (xs.map fun x => (⟨.im, h x⟩ : RV)) = some .im
  | [] => rfl
  | x :: xs => by
    rw [List.map_cons, joinAll_cons, joinAll_ims h xs]
    rfl
theorem lczE_ims {α : Type} (h : α → D) (xs : List α) (hl : xs.length ≤ big) : lczE (xs.map fun x => (⟨.im, h x⟩ : RV)) = some ⟨.fr, .lst (xs.map h)⟩ := by
  unfold lczE
  rw [if_pos (by simpa using hl), joinAll_ims]
  simp
@[simp] theorem tupleL (t : RT) (ds : List D) : biD .tuple [⟨t, .lst ds⟩] = some (RV.nrm ⟨t, .tup ds⟩) := rfl
@[simp] theorem tupleT (t : RT) (ds : List D) : biD .tuple [⟨t, .tup ds⟩] = some (RV.nrm ⟨t, .tup ds⟩) := rfl
@[simp] theorem enuF_nil (n : Nat) : enuF n [] = [] := rfl
@[simp] theorem enuF_cons (n : Nat) (d : D) (ds : List D) : enuF n (d :: ds) = .tup [.int n, d] :: enuF (n + 1) ds := rfl
theorem all_bls (bs : List Bool) : biD .all [⟨.fr, .lst (bs.map D.bl)⟩] = some ⟨.im, .bl (bs.all id)⟩ := by
  have : ∀ bs : List Bool, blsOf (bs.map D.bl) = some bs := fun bs => by
    induction bs with
    | nil => rfl
    | cons b bs ih =>
      rw [List.map_cons]
      unfold blsOf
      rw [ih]
      rfl
  show (blsOf (bs.map D.bl)).map _ = _
  rw [this]
  rfl
@[simp] theorem lstAt_eq (ρ : En) (i : Nat) : lstAt ρ i = (match ρ.at i with
  | some ⟨_, .lst _⟩ => true
  | _ => false) := rfl
def chgO (i : Nat) (f : D → Option D) (ρ : En) (o : Option SV) : Option En := match o with
  | some ⟨.mu, d⟩ => (f d).map fun d' => ρ.put i (some ⟨.mu, d'⟩)
  | some ⟨.rf, d⟩ => (f d).map fun d' => ρ.put i (some ⟨.rf, d'⟩)
  | _ => none
@[simp] theorem chgE_eq (i : Nat) (f : D → Option D) (ρ : En) : chgE i f ρ = chgO i f ρ (ρ.at i) := rfl
@[simp] theorem chgO_mu (i : Nat) (f : D → Option D) (ρ : En) (d : D) : chgO i f ρ (some ⟨.mu, d⟩) = (f d).map fun d' => ρ.put i (some ⟨.mu, d'⟩) := rfl
@[simp] theorem chgO_rf (i : Nat) (f : D → Option D) (ρ : En) (d : D) : chgO i f ρ (some ⟨.rf, d⟩) = (f d).map fun d' => ρ.put i (some ⟨.rf, d'⟩) := rfl
@[simp] theorem appPath_lst (v : D) (ds : List D) : appPath v [] (.lst ds) = if ds.length < big then some (.lst (ds ++ [v])) else none := rfl
@[simp] theorem setPath_lst (v : D) (k : Int) (ds : List D) : setPath v [.int k] (.lst ds) = (ixN ds.length k).map fun j => .lst (ds.set j v) := by simp [setPath]
@[simp] theorem slot_tm {o : Bool} {i : Nat} {d : D} : RT.slot o (.tm i) d = if d.imm then some .im else none := by cases o <;> rfl
@[simp] theorem parE_nil (ρ : En) : parE [] [] ρ = some ρ := rfl
@[simp] theorem parE_cons (i : Nat) (o : Bool) (ts : List (Nat × Bool)) (v : RV) (vs : List RV) (ρ : En) : parE ((i, o) :: ts) (v :: vs) ρ = (bindT (.nm i o) (parT o v) v.d ρ).bind (parE ts vs) := rfl
theorem parT_imm (o : Bool) (v : RV) (h : v.d.imm = true) : parT o v = .im := by unfold parT; rw [if_pos h]
@[simp] theorem parT_fr (ds : List D) : parT true ⟨.fr, .lst ds⟩ = .fr := rfl
@[simp] theorem parT_frd (ks vs : List D) : parT true ⟨.fr, .dic ks vs⟩ = .fr := rfl
@[simp] theorem imm_lst (ds : List D) : (D.lst ds).imm = false := by simp [D.imm]
@[simp] theorem imm_dic (ks ds : List D) : (D.dic ks ds).imm = false := by simp [D.imm]
@[simp] theorem nrm_lst (t : RT) (ds : List D) : RV.nrm ⟨t, .lst ds⟩ = ⟨t, .lst ds⟩ := by
  unfold RV.nrm
  rw [if_neg (by simp)]
@[simp] theorem nrm_dic (t : RT) (ks ds : List D) : RV.nrm ⟨t, .dic ks ds⟩ = ⟨t, .dic ks ds⟩ := by
  unfold RV.nrm
  rw [if_neg (by simp)]
theorem ixN_nat (n k : Nat) (h : k < n) : ixN n (k : Int) = some k := by
  unfold ixN
  simp
  omega
@[simp] theorem ixN_0 (n : Nat) : ixN (n + 1) 0 = some 0 := ixN_nat (n + 1) 0 (by omega)
@[simp] theorem ixN_1 (n : Nat) : ixN (n + 1 + 1) 1 = some 1 := ixN_nat (n + 1 + 1) 1 (by omega)
@[simp] theorem ixN_2 (n : Nat) : ixN (n + 1 + 1 + 1) 2 = some 2 := ixN_nat (n + 1 + 1 + 1) 2 (by omega)
@[simp] theorem ixN_3 (n : Nat) : ixN (n + 1 + 1 + 1 + 1) 3 = some 3 := ixN_nat (n + 1 + 1 + 1 + 1) 3 (by omega)
/-- what a clause does -/
noncomputable def triK (G : Tab) (C : Nat → Option D) (hs : MHs) (r : R Flow) : R Flow := match r with
  | .ex c ρ' => exh G C hs c ρ'
  | r => r
@[simp] theorem triK_ex (G : Tab) (C : Nat → Option D) (hs : MHs) (c : Nat) (ρ : En) : triK G C hs (.ex c ρ) = exh G C hs c ρ := rfl
@[simp] theorem triK_ok (G : Tab) (C : Nat → Option D) (hs : MHs) (f : Flow) (ρ : En) : triK G C hs (.ok f ρ) = .ok f ρ := rfl
@[simp] theorem triK_if (G : Tab) (C : Nat → Option D) (hs : MHs) (c : Prop) [Decidable c] (a b : R Flow) : triK G C hs (if c then a else b) = if c then triK G C hs a else triK G C hs b := by split <;> rfl
@[simp] theorem exc_tri (G : Tab) (C : Nat → Option D) (b : MSs) (hs : MHs) (ρ : En) : exc G C (.tri b hs) ρ = triK G C hs (exs G C b ρ) := by
  conv => lhs; unfold exc
  cases exs G C b ρ <;> rfl
@[simp] theorem exh_nil (G : Tab) (C : Nat → Option D) (c : Nat) (ρ : En) : exh G C .nil c ρ = .ex c ρ := by (conv => lhs; unfold exh) <;> rfl
@[simp] theorem exh_cons (G : Tab) (C : Nat → Option D) (c' : Nat) (s : MS) (hs : MHs) (c : Nat) (ρ : En) : exh G C (.cons c' s hs) c ρ = if c = c' then exc G C s ρ else exh G C hs c ρ := by (conv => lhs; unfold exh) <;> rfl
@[simp] theorem mulL_eq (t : RT) (a : List D) (u : RT) (k : Int) (h1 : 0 ≤ k) (h2 : k < 1000000000) : opD .mul ⟨t, .lst a⟩ ⟨u, .int k⟩ = if immAll a && decide (a.length * k.toNat ≤ big) then some ⟨.fr, .lst (List.replicate k.toNat a).flatten⟩ else none := by
  have h : decide (0 ≤ k ∧ k < 2 ^ 63) = true := decide_eq_true ⟨h1, Int.lt_trans h2 (by decide)⟩
  show (if immAll a && decide (0 ≤ k ∧ k < 2 ^ 63) && decide (a.length * k.toNat ≤ big) then some (⟨.fr, .lst (List.replicate k.toNat a).flatten⟩ : RV) else none) = _
  rw [h, Bool.and_true]
@[simp] theorem mulT_eq (t : RT) (a : List D) (u : RT) (k : Int) : opD .mul ⟨t, .tup a⟩ ⟨u, .int k⟩ = if immAll a && !a.isEmpty && decide (2 ≤ k ∧ k ≤ 1000) && decide (a.length ≤ 1000) then some ⟨.im, .tup (List.replicate k.toNat a).flatten⟩ else none := rfl
@[simp] theorem rng1_eq (t : RT) (j : Int) (h1 : 0 ≤ j) (h2 : j < 1000000000) : rngD [⟨t, .int j⟩] = some ⟨.im, .im, (List.range j.toNat).map fun (i : Nat) => D.int i⟩ := by
  have h : -(2 ^ 62) ≤ j ∧ j < 2 ^ 62 := ⟨Int.le_trans (by decide) h1, Int.lt_trans h2 (by decide)⟩
  exact if_pos h
@[simp] theorem rng2_eq (t u : RT) (i j : Int) (h1 : 0 ≤ i) (h2 : i < 1000000000) (h3 : 0 ≤ j) (h4 : j < 1000000000) : rngD [⟨t, .int i⟩, ⟨u, .int j⟩] = some ⟨.im, .im, (List.range (j - i).toNat).map fun (k : Nat) => D.int (i + k)⟩ := by
  have h : -(2 ^ 62) ≤ i ∧ i < 2 ^ 62 ∧ -(2 ^ 62) ≤ j ∧ j < 2 ^ 62 := ⟨Int.le_trans (by decide) h1, Int.lt_trans h2 (by decide), Int.le_trans (by decide) h3, Int.lt_trans h4 (by decide)⟩
  exact if_pos h
@[simp] theorem addL_eq (t u : RT) (a b : List D) : opD .add ⟨t, .lst a⟩ ⟨u, .lst b⟩ = if a.length + b.length ≤ big then (t.join u).map fun w => ⟨w.newL, .lst (a ++ b)⟩ else none := rfl
@[simp] theorem newL_vl : RT.newL .vl = .vl := rfl
@[simp] theorem newL_fr : RT.newL .fr = .fr := rfl
@[simp] theorem join_vf : RT.join .vl .fr = some .vl := rfl
@[simp] theorem join_fv : RT.join .fr .vl = some .vl := rfl
@[simp] theorem join_vv : RT.join .vl .vl = some .vl := rfl
@[simp] theorem join_ff : RT.join .fr .fr = some .fr := rfl
end Ev
end

section
set_option Elab.async false
set_option linter.all false
set_option maxRecDepth 100000
set_option maxHeartbeats 0
namespace Tx
open PySem L2 Ev
def top (i : Nat) : Stmt := PySem.Challenge.pw_pressfirst_k18_strings_that_are_spoilt.main.body.getD i (.Pass ⟨0, 0, 0, 0⟩)
def order : List Str := ((["is_from", "is_tuple", "is_button", "longest", "size_of", "is_board", "is_word", "is_line", "has_list", "need_board", "is_list", "text_of", "line_from", "read_list", "_law_source", "_law_draw", "_law_choice", "_law_size", "_law_board", "_law_list"] : List Str) ++ (["_law_written", "_law_bent", "_law_tried", "law"] : List Str))
abbrev intC := Ev.mixC
def ics : List (Str × Kc) := [("MOST_SIZE", .int 400), ("NUMBERS", .txts ["0", "1", "2", "3", "4"])]
def gls : List Str := ics.map (·.1)
def xcs : List Str := (["InvalidBoard", "InvalidLine"] : List Str)
/-! is_from -/
def i_is_from : Info := ⟨(["value", "low", "high"] : List Str), order.take 0, gls, xcs⟩
def b_is_from : MSs := (.cons (.ret (.and (.bi (.isi .int) (.cons (.var 0) .nil)) (.and (.not (.bi (.isi .bool) (.cons (.var 0) .nil))) (.chn .le .le (.var 1) (.var 0) (.var 2)))))
    .nil)
def m_is_from : List Mode := [.vl, .vl, .vl]
theorem c_is_from : chkSs i_is_from (defScope (top 6)) b_is_from (defBody (top 6)) = true := by decide +kernel
/-! is_tuple -/
def i_is_tuple : Info := ⟨(["value", "low", "high"] : List Str), order.take 1, gls, xcs⟩
def b_is_tuple : MSs := (.cons (.ret (.and (.bi (.isi .tuple) (.cons (.var 0) .nil)) (.chn .le .le (.var 1) (.bi .len (.cons (.var 0) .nil)) (.var 2))))
    .nil)
def m_is_tuple : List Mode := [.vl, .vl, .vl]
theorem c_is_tuple : chkSs i_is_tuple (defScope (top 7)) b_is_tuple (defBody (top 7)) = true := by decide +kernel
/-! is_button -/
def i_is_button : Info := ⟨(["value", "number", "many"] : List Str), order.take 2, gls, xcs⟩
def b_is_button : MSs := (.cons (.ife (.or (.not (.val (.call 1 (.cons (.var 0) (.cons (.lit (.int 5)) (.cons (.lit (.int 5)) .nil)))))) (.or (.not (.val (.call 0 (.cons (.idx (.var 0) (.lit (.int 0))) (.cons (.lit (.int 1)) (.cons (.lit (.int 6)) .nil)))))) (.not (.val (.call 0 (.cons (.idx (.var 0) (.lit (.int 1))) (.cons (.lit (.int 0)) (.cons (.lit (.int 9)) .nil)))))))) (.cons (.ret (.lit (.bl false)))
    .nil) .nil)
    (.cons (.ife (.or (.not (.val (.call 0 (.cons (.idx (.var 0) (.lit (.int 2))) (.cons (.lit (.int 0)) (.cons (.lit (.int 4)) .nil)))))) (.not (.val (.call 0 (.cons (.idx (.var 0) (.lit (.int 3))) (.cons (.lit (.int 0)) (.cons (.lit (.int 4)) .nil))))))) (.cons (.ret (.lit (.bl false)))
    .nil) .nil)
    (.cons (.ret (.or (.cmp .is_ (.idx (.var 0) (.lit (.int 4))) (.lit .non)) (.and (.call 0 (.cons (.idx (.var 0) (.lit (.int 4))) (.cons (.lit (.int 0)) (.cons (.bin .sub (.var 2) (.lit (.int 1))) .nil)))) (.cmp .ne (.idx (.var 0) (.lit (.int 4))) (.var 1)))))
    .nil)))
def m_is_button : List Mode := [.vl, .vl, .vl]
theorem c_is_button : chkSs i_is_button (defScope (top 8)) b_is_button (defBody (top 8)) = true := by decide +kernel
/-! longest -/
def i_longest : Info := ⟨(["button"] : List Str), order.take 3, gls, xcs⟩
def b_longest : MSs := (.cons (.ret (.bi .max2 (.cons (.idx (.var 0) (.lit (.int 0))) (.cons (.bin .add (.idx (.var 0) (.lit (.int 2))) (.lit (.int 1))) .nil))))
    .nil)
def m_longest : List Mode := [.vl]
theorem c_longest : chkSs i_longest (defScope (top 9)) b_longest (defBody (top 9)) = true := by decide +kernel
/-! size_of -/
def i_size_of : Info := ⟨(["board", "size", "button"] : List Str), order.take 4, gls, xcs⟩
def l_size_of_1 : MSs := (.cons (.asg (.nm 1 false) (.bin .mul (.var 1) (.call 3 (.cons (.var 2) .nil))))
    .nil)
def b_size_of : MSs := (.cons (.asg (.nm 1 false) (.bin .mul (.bin .add (.idx (.var 0) (.lit (.int 1))) (.lit (.int 1))) (.bin .add (.idx (.var 0) (.lit (.int 2))) (.lit (.int 1)))))
    (.cons (.fr (.nm 2 false) (.seq (.idx (.var 0) (.lit (.int 0)))) l_size_of_1)
    (.cons (.ret (.var 1))
    .nil)))
def m_size_of : List Mode := [.vl]
theorem c_size_of : chkSs i_size_of (defScope (top 10)) b_size_of (defBody (top 10)) = true := by decide +kernel
/-! is_board -/
def i_is_board : Info := ⟨(["value", "number", "button"] : List Str), order.take 5, gls, xcs⟩
def b_is_board : MSs := (.cons (.ife (.or (.not (.val (.call 1 (.cons (.var 0) (.cons (.lit (.int 3)) (.cons (.lit (.int 3)) .nil)))))) (.not (.val (.call 1 (.cons (.idx (.var 0) (.lit (.int 0))) (.cons (.lit (.int 1)) (.cons (.lit (.int 3)) .nil))))))) (.cons (.ret (.lit (.bl false)))
    .nil) .nil)
    (.cons (.ife (.not (.val (.bi .all (.cons (.lc (.call 2 (.cons (.var 2) (.cons (.var 1) (.cons (.bi .len (.cons (.idx (.var 0) (.lit (.int 0))) .nil)) .nil)))) (.tp (.nm 1 false) (.one (.nm 2 false))) [1, 2] (.enu (.idx (.var 0) (.lit (.int 0)))) .tt) .nil)))) (.cons (.ret (.lit (.bl false)))
    .nil) .nil)
    (.cons (.ife (.or (.not (.val (.call 0 (.cons (.idx (.var 0) (.lit (.int 1))) (.cons (.lit (.int 0)) (.cons (.lit (.int 3)) .nil)))))) (.not (.val (.call 0 (.cons (.idx (.var 0) (.lit (.int 2))) (.cons (.lit (.int 0)) (.cons (.lit (.int 4)) .nil))))))) (.cons (.ret (.lit (.bl false)))
    .nil) .nil)
    (.cons (.ret (.cmp .le (.call 4 (.cons (.var 0) .nil)) (.glob 0)))
    .nil))))
def m_is_board : List Mode := [.vl]
theorem c_is_board : chkSs i_is_board (defScope (top 11)) b_is_board (defBody (top 11)) = true := by decide +kernel
/-! is_word -/
def i_is_word : Info := ⟨(["value", "many"] : List Str), order.take 6, gls, xcs⟩
def b_is_word : MSs := (.cons (.ife (.and (.val (.cmp .eq (.var 0) (.tup (.cons (.lit (.str "always")) .nil)))) (.val (.call 1 (.cons (.var 0) (.cons (.lit (.int 1)) (.cons (.lit (.int 1)) .nil)))))) (.cons (.ret (.lit (.bl true)))
    .nil) .nil)
    (.cons (.ife (.or (.not (.val (.call 1 (.cons (.var 0) (.cons (.lit (.int 2)) (.cons (.lit (.int 2)) .nil)))))) (.not (.val (.bi (.isi .str) (.cons (.idx (.var 0) (.lit (.int 0))) .nil))))) (.cons (.ret (.lit (.bl false)))
    .nil) .nil)
    (.cons (.ife (.val (.cmp .eq (.idx (.var 0) (.lit (.int 0))) (.lit (.str "energy")))) (.cons (.ret (.call 0 (.cons (.idx (.var 0) (.lit (.int 1))) (.cons (.lit (.int 1)) (.cons (.lit (.int 4)) .nil)))))
    .nil) .nil)
    (.cons (.ret (.and (.cmp .in_ (.idx (.var 0) (.lit (.int 0))) (.tup (.cons (.lit (.str "rests")) (.cons (.lit (.str "runs")) .nil)))) (.call 0 (.cons (.idx (.var 0) (.lit (.int 1))) (.cons (.lit (.int 0)) (.cons (.bin .sub (.var 1) (.lit (.int 1))) .nil))))))
    .nil))))
def m_is_word : List Mode := [.vl, .vl]
theorem c_is_word : chkSs i_is_word (defScope (top 12)) b_is_word (defBody (top 12)) = true := by decide +kernel
/-! is_line -/
def i_is_line : Info := ⟨(["value", "many"] : List Str), order.take 7, gls, xcs⟩
def b_is_line : MSs := (.cons (.ret (.and (.call 1 (.cons (.var 0) (.cons (.lit (.int 2)) (.cons (.lit (.int 2)) .nil)))) (.and (.call 0 (.cons (.idx (.var 0) (.lit (.int 0))) (.cons (.lit (.int 0)) (.cons (.bin .sub (.var 1) (.lit (.int 1))) .nil)))) (.call 6 (.cons (.idx (.var 0) (.lit (.int 1))) (.cons (.var 1) .nil))))))
    .nil)
def m_is_line : List Mode := [.vl, .vl]
theorem c_is_line : chkSs i_is_line (defScope (top 13)) b_is_line (defBody (top 13)) = true := by decide +kernel
/-! has_list -/
def i_has_list : Info := ⟨(["board", "value", "line"] : List Str), order.take 8, gls, xcs⟩
def b_has_list : MSs := (.cons (.ret (.and (.call 1 (.cons (.var 1) (.cons (.lit (.int 1)) (.cons (.lit (.int 4)) .nil)))) (.bi .all (.cons (.lc (.call 7 (.cons (.var 2) (.cons (.bi .len (.cons (.idx (.var 0) (.lit (.int 0))) .nil)) .nil))) (.nm 2 false) [2] (.seq (.var 1)) .tt) .nil))))
    .nil)
def m_has_list : List Mode := [.vl, .vl]
theorem c_has_list : chkSs i_has_list (defScope (top 14)) b_has_list (defBody (top 14)) = true := by decide +kernel
/-! need_board -/
def i_need_board : Info := ⟨(["value"] : List Str), order.take 9, gls, xcs⟩
def b_need_board : MSs := (.cons (.ife (.not (.val (.call 5 (.cons (.var 0) .nil)))) (.cons (.rse 0)
    .nil) .nil)
    .nil)
def m_need_board : List Mode := [.vl]
theorem c_need_board : chkSs i_need_board (defScope (top 15)) b_need_board (defBody (top 15)) = true := by decide +kernel
/-! is_list -/
def i_is_list : Info := ⟨(["board", "value"] : List Str), order.take 10, gls, xcs⟩
def b_is_list : MSs := (.cons (.expr (.call 9 (.cons (.var 0) .nil)))
    (.cons (.ret (.call 8 (.cons (.var 0) (.cons (.var 1) .nil))))
    .nil))
def m_is_list : List Mode := [.vl, .vl]
theorem c_is_list : chkSs i_is_list (defScope (top 16)) b_is_list (defBody (top 16)) = true := by decide +kernel
/-! text_of -/
def i_text_of : Info := ⟨(["lines", "rows", "number", "word", "words"] : List Str), order.take 11, gls, xcs⟩
def l_text_of_1 : MSs := (.cons (.asg (.nm 4 false) (.lst (.cons (.lit (.str "press")) (.cons (.bi .str (.cons (.var 2) .nil)) .nil))))
    (.cons (.ife (.val (.cmp .ne (.var 3) (.tup (.cons (.lit (.str "always")) .nil)))) (.cons (.asg (.nm 4 false) (.bin .add (.var 4) (.lst (.cons (.lit (.str "if")) (.cons (.idx (.var 3) (.lit (.int 0))) (.cons (.bi .str (.cons (.idx (.var 3) (.lit (.int 1))) .nil)) .nil))))))
    .nil) .nil)
    (.cons (.app 1 .nil (.mth .join (.lit (.str " ")) (.cons (.var 4) .nil)))
    .nil)))
def b_text_of : MSs := (.cons (.asg (.nm 1 true) (.lst .nil))
    (.cons (.fr (.tp (.nm 2 false) (.one (.nm 3 false))) (.seq (.var 0)) l_text_of_1)
    (.cons (.ret (.mth .join (.lit (.str "\n")) (.cons (.var 1) .nil)))
    .nil)))
def m_text_of : List Mode := [.vl]
theorem c_text_of : chkSs i_text_of (defScope (top 19)) b_text_of (defBody (top 19)) = true := by decide +kernel
/-! line_from -/
def i_line_from : Info := ⟨(["row", "words", "numbers", "word"] : List Str), order.take 12, gls, xcs⟩
def b_line_from : MSs := (.cons (.asg (.nm 1 false) (.mth .split (.var 0) (.cons (.lit (.str " ")) .nil)))
    (.cons (.asg (.nm 2 false) (.lc (.ite (.val (.cmp .in_ (.var 3) (.glob 1))) (.ixo (.glob 1) (.var 3)) (.lit .non)) (.nm 3 false) [3] (.seq (.var 1)) .tt))
    (.cons (.ife (.val (.cmp .eq (.bi .len (.cons (.var 1) .nil)) (.lit (.int 2)))) (.cons (.ret (.tup (.cons (.idx (.var 2) (.lit (.int 1))) (.cons (.tup (.cons (.lit (.str "always")) .nil)) .nil))))
    .nil) .nil)
    (.cons (.ret (.ite (.val (.cmp .eq (.bi .len (.cons (.var 1) .nil)) (.lit (.int 5)))) (.tup (.cons (.idx (.var 2) (.lit (.int 1))) (.cons (.tup (.cons (.idx (.var 1) (.lit (.int 3))) (.cons (.idx (.var 2) (.lit (.int 4))) .nil))) .nil))) (.lit .non)))
    .nil))))
def m_line_from : List Mode := [.vl]
theorem c_line_from : chkSs i_line_from (defScope (top 20)) b_line_from (defBody (top 20)) = true := by decide +kernel
/-! read_list -/
def i_read_list : Info := ⟨(["board", "value", "lines", "row"] : List Str), order.take 13, gls, xcs⟩
def b_read_list : MSs := (.cons (.expr (.call 9 (.cons (.var 0) .nil)))
    (.cons (.ife (.not (.val (.bi (.isi .str) (.cons (.var 1) .nil)))) (.cons (.rse 1)
    .nil) .nil)
    (.cons (.asg (.nm 2 false) (.bi .tuple (.cons (.lc (.call 12 (.cons (.var 3) .nil)) (.nm 3 false) [3] (.seq (.mth .split (.var 1) (.cons (.lit (.str "\n")) .nil))) .tt) .nil)))
    (.cons (.ife (.or (.not (.val (.call 8 (.cons (.var 0) (.cons (.var 2) .nil))))) (.val (.cmp .ne (.call 11 (.cons (.var 2) .nil)) (.var 1)))) (.cons (.rse 1)
    .nil) .nil)
    (.cons (.ret (.var 2))
    .nil)))))
def m_read_list : List Mode := [.vl, .vl]
theorem c_read_list : chkSs i_read_list (defScope (top 21)) b_read_list (defBody (top 21)) = true := by decide +kernel
/-! _law_source -/
def i__law_source : Info := ⟨(["_law_script", "_law_k", "_law_cell"] : List Str), order.take 14, gls, xcs⟩
def b__law_source : MSs := (.cons (.asg (.nm 2 false) (.ite (.val (.cmp .lt (.var 1) (.bi .len (.cons (.var 0) .nil)))) (.bi .abs (.cons (.bi .int (.cons (.idx (.var 0) (.var 1)) .nil)) .nil)) (.bin .add (.bin .mul (.lit (.int 37)) (.var 1)) (.lit (.int 11)))))
    (.cons (.ret (.lst (.cons (.ite (.val (.cmp .gt (.var 2) (.bin .pow (.lit (.int 10)) (.lit (.int 17))))) (.var 2) (.lit (.int 0))) (.cons (.bin .mod (.bi .int (.cons (.bin .add (.bin .add (.bin .mul (.var 2) (.lit (.int 48271))) (.bin .mul (.lit (.int 5003)) (.var 1))) (.lit (.int 7))) .nil)) (.lit (.int 2147483587))) .nil))))
    .nil))
def m__law_source : List Mode := [.vl, .vl]
theorem c__law_source : chkSs i__law_source (defScope (top 23)) b__law_source (defBody (top 23)) = true := by decide +kernel
/-! _law_draw -/
def i__law_draw : Info := ⟨(["_law_source_here", "_law_many", "_law_wide", "_law_rest"] : List Str), order.take 15, gls, xcs⟩
def b__law_draw : MSs := (.cons (.ife (.val (.cmp .gt (.idx (.var 0) (.lit (.int 0))) (.lit (.int 0)))) (.cons (.asg (.nm 3 false) (.bin .mod (.bi .int (.cons (.idx (.var 0) (.lit (.int 0))) .nil)) (.var 1)))
    (.cons (.set 0 (.cons (.lit (.int 0)) .nil) (.bin .fdiv (.idx (.var 0) (.lit (.int 0))) (.var 1)))
    (.cons (.ret (.var 3))
    .nil))) .nil)
    (.cons (.set 0 (.cons (.lit (.int 1)) .nil) (.bin .mod (.bi .int (.cons (.bin .add (.bin .mul (.idx (.var 0) (.lit (.int 1))) (.lit (.int 69621))) (.lit (.int 13))) .nil)) (.lit (.int 2147483587))))
    (.cons (.asg (.nm 2 false) (.bin .mod (.bi .int (.cons (.bin .mul (.idx (.var 0) (.lit (.int 1))) (.bin .add (.bin .fdiv (.idx (.var 0) (.lit (.int 1))) (.lit (.int 9))) (.lit (.int 2)))) .nil)) (.lit (.int 2147483563))))
    (.cons (.ret (.bin .mod (.bi .int (.cons (.bin .fdiv (.var 2) (.lit (.int 16))) .nil)) (.var 1)))
    .nil))))
def m__law_draw : List Mode := [.rf, .vl]
theorem c__law_draw : chkSs i__law_draw (defScope (top 24)) b__law_draw (defBody (top 24)) = true := by decide +kernel
/-! _law_choice -/
def i__law_choice : Info := ⟨(["_law_source_here", "_law_some"] : List Str), order.take 16, gls, xcs⟩
def b__law_choice : MSs := (.cons (.ret (.idx (.var 1) (.callm 15 (.cons (.var 0) (.cons (.bi .len (.cons (.var 1) .nil)) .nil)))))
    .nil)
def m__law_choice : List Mode := [.rf, .vl]
theorem c__law_choice : chkSs i__law_choice (defScope (top 25)) b__law_choice (defBody (top 25)) = true := by decide +kernel
/-! _law_size -/
def i__law_size : Info := ⟨(["_law_board_here", "_law_found", "_law_wait", "_law_worth", "_law_lasts", "_law_cost", "_law_partner"] : List Str), order.take 17, gls, xcs⟩
def l__law_size_1 : MSs := (.cons (.asg (.nm 1 false) (.bin .mul (.var 1) (.bi .max2 (.cons (.var 2) (.cons (.bin .add (.var 4) (.lit (.int 1))) .nil)))))
    .nil)
def b__law_size : MSs := (.cons (.asg (.nm 1 false) (.bin .mul (.bin .add (.idx (.var 0) (.lit (.int 1))) (.lit (.int 1))) (.bin .add (.idx (.var 0) (.lit (.int 2))) (.lit (.int 1)))))
    (.cons (.fr (.tp (.nm 2 false) (.tp (.nm 3 false) (.tp (.nm 4 false) (.tp (.nm 5 false) (.one (.nm 6 false)))))) (.seq (.idx (.var 0) (.lit (.int 0)))) l__law_size_1)
    (.cons (.ret (.var 1))
    .nil)))
def m__law_size : List Mode := [.vl]
theorem c__law_size : chkSs i__law_size (defScope (top 26)) b__law_size (defBody (top 26)) = true := by decide +kernel
/-! _law_board -/
def i__law_board : Info := ⟨(["_law_source_here", "_law_most", "_law_many", "_law_found", "_law_tries", "_law_buttons", "_law_at", "_law_others", "_law_partner", "_law_row", "_law_other"] : List Str), order.take 18, gls, xcs⟩
def l__law_board_1 : MSs := (.cons (.asg (.nm 7 false) (.lc (.var 10) (.nm 10 false) [10] (.rng (.cons (.var 2) .nil)) (.val (.cmp .ne (.var 10) (.var 6)))))
    (.cons (.asg (.nm 8 false) (.callm 16 (.cons (.var 0) (.cons (.bin .add (.var 7) (.lst (.cons (.lit .non) .nil))) .nil))))
    (.cons (.asg (.nm 9 false) (.tup (.cons (.bin .add (.lit (.int 1)) (.callm 15 (.cons (.var 0) (.cons (.lit (.int 5)) .nil)))) (.cons (.callm 15 (.cons (.var 0) (.cons (.lit (.int 10)) .nil))) (.cons (.callm 16 (.cons (.var 0) (.cons (.lst (.cons (.lit (.int 0)) (.cons (.lit (.int 0)) (.cons (.lit (.int 1)) (.cons (.lit (.int 2)) (.cons (.lit (.int 3)) .nil)))))) .nil))) .nil)))))
    (.cons (.app 5 .nil (.bin .add (.var 9) (.tup (.cons (.callm 16 (.cons (.var 0) (.cons (.lst (.cons (.lit (.int 0)) (.cons (.lit (.int 0)) (.cons (.lit (.int 0)) (.cons (.lit (.int 1)) (.cons (.lit (.int 2)) .nil)))))) .nil))) (.cons (.var 8) .nil)))))
    .nil))))
def l__law_board_2 : MSs := (.cons (.asg (.nm 5 true) (.lst .nil))
    (.cons (.fr (.nm 6 false) (.rng (.cons (.var 2) .nil)) l__law_board_1)
    (.cons (.asg (.nm 3 false) (.tup (.cons (.bi .tuple (.cons (.var 5) .nil)) (.cons (.callm 16 (.cons (.var 0) (.cons (.lst (.cons (.lit (.int 0)) (.cons (.lit (.int 0)) (.cons (.lit (.int 1)) (.cons (.lit (.int 2)) .nil))))) .nil))) (.cons (.callm 16 (.cons (.var 0) (.cons (.lst (.cons (.lit (.int 0)) (.cons (.lit (.int 0)) (.cons (.lit (.int 1)) (.cons (.lit (.int 2)) (.cons (.lit (.int 3)) .nil)))))) .nil))) .nil)))))
    (.cons (.asg (.nm 4 false) (.bin .add (.var 4) (.lit (.int 1))))
    (.cons (.asg (.nm 2 false) (.ite (.val (.cmp .lt (.var 4) (.lit (.int 40)))) (.var 2) (.lit (.int 1))))
    (.cons (.ife (.val (.cmp .eq (.idx (.var 0) (.lit (.int 0))) (.lit (.int 0)))) (.cons (.asg (.nm 1 false) (.bi .min2 (.cons (.lit (.int 400)) (.cons (.bin .add (.var 1) (.lit (.int 5))) .nil))))
    .nil) .nil)
    .nil))))))
def w__law_board_2 : MT := (.or (.val (.cmp .is_ (.var 3) (.lit .non))) (.val (.cmp .gt (.call 17 (.cons (.var 3) .nil)) (.var 1))))
def b__law_board : MSs := (.cons (.par [(2, false), (3, false), (4, false)] (.cons (.callm 16 (.cons (.var 0) (.cons (.ite (.val (.cmp .gt (.var 1) (.lit (.int 45)))) (.lst (.cons (.lit (.int 1)) (.cons (.lit (.int 2)) (.cons (.lit (.int 2)) (.cons (.lit (.int 2)) (.cons (.lit (.int 3)) .nil)))))) (.lst (.cons (.lit (.int 1)) (.cons (.lit (.int 2)) (.cons (.lit (.int 2)) (.cons (.lit (.int 2)) .nil)))))) .nil))) (.cons (.lit .non) (.cons (.lit (.int 0)) .nil))))
    (.cons (.whl w__law_board_2 l__law_board_2)
    (.cons (.ret (.var 3))
    .nil)))
def m__law_board : List Mode := [.rf, .vl]
theorem c__law_board : chkSs i__law_board (defScope (top 27)) b__law_board (defBody (top 27)) = true := by decide +kernel
/-! _law_list -/
def i__law_list : Info := ⟨(["_law_source_here", "_law_board_here", "_law_found", "_law_many", "_law_turn", "_law_word"] : List Str), order.take 19, gls, xcs⟩
def l__law_list_1 : MSs := (.cons (.asg (.nm 5 false) (.callm 16 (.cons (.var 0) (.cons (.lst (.cons (.tup (.cons (.lit (.str "always")) .nil)) (.cons (.tup (.cons (.lit (.str "always")) .nil)) (.cons (.tup (.cons (.lit (.str "runs")) (.cons (.lit (.int 0)) .nil))) (.cons (.tup (.cons (.lit (.str "rests")) (.cons (.lit (.int 0)) .nil))) (.cons (.tup (.cons (.lit (.str "energy")) (.cons (.lit (.int 1)) .nil))) (.cons (.tup (.cons (.lit (.str "runs")) (.cons (.lit (.int 1)) .nil))) .nil))))))) .nil))))
    (.cons (.ife (.and (.val (.cmp .eq (.bi .len (.cons (.var 5) .nil)) (.lit (.int 2)))) (.val (.cmp .ne (.idx (.var 5) (.lit (.int 0))) (.lit (.str "energy"))))) (.cons (.asg (.nm 5 false) (.tup (.cons (.idx (.var 5) (.lit (.int 0))) (.cons (.callm 15 (.cons (.var 0) (.cons (.var 3) .nil))) .nil))))
    .nil) .nil)
    (.cons (.ife (.val (.cmp .eq (.idx (.var 5) (.lit (.int 0))) (.lit (.str "energy")))) (.cons (.asg (.nm 5 false) (.tup (.cons (.lit (.str "energy")) (.cons (.bin .add (.lit (.int 1)) (.callm 15 (.cons (.var 0) (.cons (.lit (.int 4)) .nil)))) .nil))))
    .nil) .nil)
    (.cons (.asg (.nm 2 false) (.bin .add (.var 2) (.tup (.cons (.tup (.cons (.callm 15 (.cons (.var 0) (.cons (.var 3) .nil))) (.cons (.var 5) .nil))) .nil))))
    .nil))))
def b__law_list : MSs := (.cons (.par [(2, false), (3, false)] (.cons (.tup .nil) (.cons (.bi .len (.cons (.idx (.var 1) (.lit (.int 0))) .nil)) .nil)))
    (.cons (.fr (.nm 4 false) (.rng (.cons (.callm 16 (.cons (.var 0) (.cons (.lst (.cons (.lit (.int 1)) (.cons (.lit (.int 2)) (.cons (.lit (.int 2)) (.cons (.lit (.int 3)) (.cons (.lit (.int 3)) (.cons (.lit (.int 4)) .nil))))))) .nil))) .nil)) l__law_list_1)
    (.cons (.ret (.var 2))
    .nil)))
def m__law_list : List Mode := [.rf, .vl]
theorem c__law_list : chkSs i__law_list (defScope (top 28)) b__law_list (defBody (top 28)) = true := by decide +kernel
/-! _law_written -/
def i__law_written : Info := ⟨(["_law_lines", "_law_rows", "_law_button", "_law_word", "_law_words"] : List Str), order.take 20, gls, xcs⟩
def l__law_written_1 : MSs := (.cons (.asg (.nm 4 false) (.lst (.cons (.lit (.str "press")) (.cons (.bi .str (.cons (.var 2) .nil)) .nil))))
    (.cons (.ife (.val (.cmp .ne (.idx (.var 3) (.lit (.int 0))) (.lit (.str "always")))) (.cons (.asg (.nm 4 false) (.bin .add (.var 4) (.lst (.cons (.lit (.str "if")) (.cons (.idx (.var 3) (.lit (.int 0))) (.cons (.bi .str (.cons (.idx (.var 3) (.lit (.int 1))) .nil)) .nil))))))
    .nil) .nil)
    (.cons (.app 1 .nil (.mth .join (.lit (.str " ")) (.cons (.var 4) .nil)))
    .nil)))
def b__law_written : MSs := (.cons (.asg (.nm 1 true) (.lst .nil))
    (.cons (.fr (.tp (.nm 2 false) (.one (.nm 3 false))) (.seq (.var 0)) l__law_written_1)
    (.cons (.ret (.mth .join (.lit (.str "\n")) (.cons (.var 1) .nil)))
    .nil)))
def m__law_written : List Mode := [.vl]
theorem c__law_written : chkSs i__law_written (defScope (top 29)) b__law_written (defBody (top 29)) = true := by decide +kernel
/-! _law_bent -/
def i__law_bent : Info := ⟨(["_law_source_here", "_law_text", "_law_signs", "_law_at", "_law_rows", "_law_here", "_law_some"] : List Str), order.take 21, gls, xcs⟩
def b__law_bent : MSs := (.cons (.asg (.nm 2 false) (.lst (.cons (.lit (.str " ")) (.cons (.lit (.str "\n")) (.cons (.lit (.str "0")) (.cons (.lit (.str "1")) (.cons (.lit (.str "4")) (.cons (.lit (.str "if")) (.cons (.lit (.str "")) (.cons (.lit (.str "runs")) (.cons (.lit (.str "press 0\n")) (.cons (.lit (.str " if energy 2")) (.cons (.lit (.str "x")) (.cons (.lit (.str "always")) .nil))))))))))))))
    (.cons (.asg (.nm 3 false) (.callm 15 (.cons (.var 0) (.cons (.bin .add (.bi .len (.cons (.var 1) .nil)) (.lit (.int 1))) .nil))))
    (.cons (.asg (.nm 1 false) (.bin .add (.bin .add (.slc (.var 1) false (.lit .non) true (.var 3)) (.callm 16 (.cons (.var 0) (.cons (.var 2) .nil)))) (.slc (.var 1) true (.bin .add (.var 3) (.callm 15 (.cons (.var 0) (.cons (.lit (.int 3)) .nil)))) false (.lit .non))))
    (.cons (.asg (.nm 4 false) (.mth .split (.var 1) (.cons (.lit (.str "\n")) .nil)))
    (.cons (.asg (.nm 5 false) (.callm 15 (.cons (.var 0) (.cons (.bi .len (.cons (.var 4) .nil)) .nil))))
    (.cons (.asg (.nm 6 false) (.lst (.cons (.var 1) (.cons (.var 1) (.cons (.mth .join (.lit (.str "\n")) (.cons (.bin .add (.slc (.var 4) false (.lit .non) true (.var 5)) (.slc (.var 4) true (.bin .add (.var 5) (.lit (.int 1))) false (.lit .non))) .nil)) (.cons (.mth .join (.lit (.str "\n")) (.cons (.bin .add (.slc (.var 4) false (.lit .non) true (.bin .add (.var 5) (.lit (.int 1)))) (.slc (.var 4) true (.var 5) false (.lit .non))) .nil)) .nil))))))
    (.cons (.ret (.callm 16 (.cons (.var 0) (.cons (.bin .add (.var 6) (.lst (.cons (.mth .join (.lit (.str "\n")) (.cons (.bin .add (.slc (.var 4) true (.var 5) false (.lit .non)) (.slc (.var 4) false (.lit .non) true (.var 5))) .nil)) .nil))) .nil))))
    .nil)))))))
def m__law_bent : List Mode := [.rf, .vl]
theorem c__law_bent : chkSs i__law_bent (defScope (top 30)) b__law_bent (defBody (top 30)) = true := by decide +kernel
/-! _law_tried -/
def i__law_tried : Info := ⟨(["_law_board_here", "_law_value", "_law_found"] : List Str), order.take 22, gls, xcs⟩
def b__law_tried : MSs := (.cons (.asg (.nm 2 false) (.lit (.str "")))
    (.cons (.tri (.cons (.asg (.nm 2 false) (.call 13 (.cons (.var 0) (.cons (.var 1) .nil))))
    .nil) (.cons 1 (.asg (.nm 2 false) (.lit (.str "line"))) .nil))
    (.cons (.ret (.var 2))
    .nil)))
def m__law_tried : List Mode := [.vl, .vl]
theorem c__law_tried : chkSs i__law_tried (defScope (top 31)) b__law_tried (defBody (top 31)) = true := by decide +kernel
/-! law -/
def i_law : Info := ⟨(["_law_script", "_law_k", "_law_board_here", "_law_good", "_law_rows", "_law_source_here", "_law_lines", "_law_text", "_law_turn", "_law_odd", "_law_found", "_law_row"] : List Str), order.take 23, gls, xcs⟩
def l_law_1 : MSs := (.cons (.asg (.nm 7 false) (.slc (.callm 21 (.cons (.var 5) (.cons (.ite (.val (.cmp .eq (.bin .mod (.var 8) (.lit (.int 3))) (.lit (.int 0)))) (.call 20 (.cons (.var 6) .nil)) (.var 7)) .nil))) false (.lit .non) true (.lit (.int 900))))
    (.cons (.asg (.nm 10 false) (.call 22 (.cons (.var 2) (.cons (.var 7) .nil))))
    (.cons (.ife (.and (.val (.cmp .eq (.var 10) (.lit (.str "line")))) (.val (.cmp .eq (.var 7) (.call 20 (.cons (.var 6) .nil))))) (.cons (.ret (.lit (.bl false)))
    .nil) .nil)
    (.cons (.ife (.val (.cmp .ne (.var 10) (.lit (.str "line")))) (.cons (.ife (.or (.not (.val (.call 10 (.cons (.var 2) (.cons (.var 10) .nil))))) (.val (.cmp .ne (.call 20 (.cons (.var 10) .nil)) (.var 7)))) (.cons (.ret (.lit (.bl false)))
    .nil) .nil)
    .nil) .nil)
    .nil))))
def l_law_2 : MSs := (.cons (.ife (.val (.cmp .ne (.call 22 (.cons (.var 2) (.cons (.var 9) .nil))) (.lit (.str "line")))) (.cons (.ret (.lit (.bl false)))
    .nil) .nil)
    .nil)
def l_law_3 : MSs := (.cons (.asg (.nm 5 true) (.call 14 (.cons (.var 0) (.cons (.var 1) .nil))))
    (.cons (.asg (.nm 2 false) (.callm 18 (.cons (.var 5) (.cons (.lit (.int 400)) .nil))))
    (.cons (.asg (.nm 6 false) (.callm 19 (.cons (.var 5) (.cons (.var 2) .nil))))
    (.cons (.asg (.nm 7 false) (.call 20 (.cons (.var 6) .nil)))
    (.cons (.fr (.nm 8 false) (.rng (.cons (.lit (.int 20)) .nil)) l_law_1)
    (.cons (.fr (.nm 9 false) (.seq (.lst (.cons (.lit .non) (.cons (.lit (.int 5)) (.cons (.tup (.cons (.var 7) .nil)) (.cons (.lst (.cons (.var 7) .nil)) (.cons (.lit (.bl true)) (.cons (.lit (.str "")) (.cons (.lit (.str " ")) (.cons (.lit (.str "\n")) .nil)))))))))) l_law_2)
    .nil))))))
def b_law : MSs := (.cons (.fr (.nm 1 false) (.rng (.cons (.bin .add (.lit (.int 1)) (.bi .min2 (.cons (.bi .len (.cons (.var 0) .nil)) (.cons (.lit (.int 8)) .nil)))) .nil)) l_law_3)
    (.cons (.asg (.nm 2 false) (.tup (.cons (.bin .mul (.tup (.cons (.tup (.cons (.lit (.int 1)) (.cons (.lit (.int 0)) (.cons (.lit (.int 0)) (.cons (.lit (.int 0)) (.cons (.lit .non) .nil)))))) .nil)) (.lit (.int 2))) (.cons (.lit (.int 0)) (.cons (.lit (.int 0)) .nil)))))
    (.cons (.asg (.nm 3 false) (.lit (.str "press 0 if runs 1\npress 1")))
    (.cons (.asg (.nm 4 true) (.lst (.cons (.bin .add (.var 3) (.lit (.str "\n"))) (.cons (.bin .add (.var 3) (.lit (.str " "))) (.cons (.bin .add (.lit (.str " ")) (.var 3)) (.cons (.bin .add (.var 3) (.lit (.str "\npress 2"))) (.cons (.lit (.str "press  0")) .nil)))))))
    (.cons (.app 4 .nil (.mth .replace (.var 3) (.cons (.lit (.str "runs")) (.cons (.lit (.str "Runs")) .nil))))
    (.cons (.asg (.nm 4 true) (.bin .add (.mv 4) (.lst (.cons (.mth .replace (.var 3) (.cons (.lit (.str "runs 1")) (.cons (.lit (.str "runs 2")) .nil))) (.cons (.mth .replace (.var 3) (.cons (.lit (.str "if ")) (.cons (.lit (.str "")) .nil))) .nil)))))
    (.cons (.asg (.nm 4 true) (.bin .add (.mv 4) (.lst (.cons (.lit (.str "press 1 if always")) (.cons (.lit (.str "press 1 if always 0")) .nil)))))
    (.cons (.asg (.nm 4 true) (.bin .add (.mv 4) (.lst (.cons (.lit (.str "press 1 if energy 0")) (.cons (.lit (.str "press 1 if energy 5")) (.cons (.lit (.str "press 01")) .nil))))))
    (.cons (.asg (.nm 4 true) (.bin .add (.mv 4) (.lst (.cons (.lit (.str "push 1")) (.cons (.lit (.str "press")) (.cons (.lit (.str "press 1 1")) (.cons (.lit (.str "press if 1")) .nil)))))))
    (.cons (.app 4 .nil (.mth .join (.lit (.str "\n")) (.cons (.bin .mul (.lst (.cons (.lit (.str "press 1")) .nil)) (.lit (.int 5))) .nil)))
    (.cons (.ife (.val (.cmp .ne (.call 22 (.cons (.var 2) (.cons (.var 3) .nil))) (.tup (.cons (.tup (.cons (.lit (.int 0)) (.cons (.tup (.cons (.lit (.str "runs")) (.cons (.lit (.int 1)) .nil))) .nil))) (.cons (.tup (.cons (.lit (.int 1)) (.cons (.tup (.cons (.lit (.str "always")) .nil)) .nil))) .nil))))) (.cons (.ret (.lit (.bl false)))
    .nil) .nil)
    (.cons (.ret (.cmp .eq (.lc (.var 11) (.nm 11 false) [11] (.seq (.var 4)) (.val (.cmp .ne (.call 22 (.cons (.var 2) (.cons (.var 11) .nil))) (.lit (.str "line"))))) (.lst .nil)))
    .nil))))))))))))
def m_law : List Mode := [.vl]
theorem c_law : chkSs i_law (defScope (top 32)) b_law (defBody (top 32)) = true := by decide +kernel
def d_is_from : Desc := ⟨"is_from", defArgs (top 6), defBody (top 6), defScope (top 6), (["value", "low", "high"] : List Str), (["value", "low", "high"] : List Str), m_is_from, b_is_from⟩
theorem s_is_from : FnScope d_is_from.N d_is_from.ps d_is_from.scope := ⟨by kernel_rfl, by kernel_rfl, by kernel_rfl, by decide +kernel, by kernel_rfl, by decide +kernel, by decide +kernel⟩
def d_is_tuple : Desc := ⟨"is_tuple", defArgs (top 7), defBody (top 7), defScope (top 7), (["value", "low", "high"] : List Str), (["value", "low", "high"] : List Str), m_is_tuple, b_is_tuple⟩
theorem s_is_tuple : FnScope d_is_tuple.N d_is_tuple.ps d_is_tuple.scope := ⟨by kernel_rfl, by kernel_rfl, by kernel_rfl, by decide +kernel, by kernel_rfl, by decide +kernel, by decide +kernel⟩
def d_is_button : Desc := ⟨"is_button", defArgs (top 8), defBody (top 8), defScope (top 8), (["value", "number", "many"] : List Str), (["value", "number", "many"] : List Str), m_is_button, b_is_button⟩
theorem s_is_button : FnScope d_is_button.N d_is_button.ps d_is_button.scope := ⟨by kernel_rfl, by kernel_rfl, by kernel_rfl, by decide +kernel, by kernel_rfl, by decide +kernel, by decide +kernel⟩
def d_longest : Desc := ⟨"longest", defArgs (top 9), defBody (top 9), defScope (top 9), (["button"] : List Str), (["button"] : List Str), m_longest, b_longest⟩
theorem s_longest : FnScope d_longest.N d_longest.ps d_longest.scope := ⟨by kernel_rfl, by kernel_rfl, by kernel_rfl, by decide +kernel, by kernel_rfl, by decide +kernel, by decide +kernel⟩
def d_size_of : Desc := ⟨"size_of", defArgs (top 10), defBody (top 10), defScope (top 10), (["board"] : List Str), (["board", "size", "button"] : List Str), m_size_of, b_size_of⟩
theorem s_size_of : FnScope d_size_of.N d_size_of.ps d_size_of.scope := ⟨by kernel_rfl, by kernel_rfl, by kernel_rfl, by decide +kernel, by kernel_rfl, by decide +kernel, by decide +kernel⟩
def d_is_board : Desc := ⟨"is_board", defArgs (top 11), defBody (top 11), defScope (top 11), (["value"] : List Str), (["value", "number", "button"] : List Str), m_is_board, b_is_board⟩
theorem s_is_board : FnScope d_is_board.N d_is_board.ps d_is_board.scope := ⟨by kernel_rfl, by kernel_rfl, by kernel_rfl, by decide +kernel, by kernel_rfl, by decide +kernel, by decide +kernel⟩
def d_is_word : Desc := ⟨"is_word", defArgs (top 12), defBody (top 12), defScope (top 12), (["value", "many"] : List Str), (["value", "many"] : List Str), m_is_word, b_is_word⟩
theorem s_is_word : FnScope d_is_word.N d_is_word.ps d_is_word.scope := ⟨by kernel_rfl, by kernel_rfl, by kernel_rfl, by decide +kernel, by kernel_rfl, by decide +kernel, by decide +kernel⟩
def d_is_line : Desc := ⟨"is_line", defArgs (top 13), defBody (top 13), defScope (top 13), (["value", "many"] : List Str), (["value", "many"] : List Str), m_is_line, b_is_line⟩
theorem s_is_line : FnScope d_is_line.N d_is_line.ps d_is_line.scope := ⟨by kernel_rfl, by kernel_rfl, by kernel_rfl, by decide +kernel, by kernel_rfl, by decide +kernel, by decide +kernel⟩
def d_has_list : Desc := ⟨"has_list", defArgs (top 14), defBody (top 14), defScope (top 14), (["board", "value"] : List Str), (["board", "value", "line"] : List Str), m_has_list, b_has_list⟩
theorem s_has_list : FnScope d_has_list.N d_has_list.ps d_has_list.scope := ⟨by kernel_rfl, by kernel_rfl, by kernel_rfl, by decide +kernel, by kernel_rfl, by decide +kernel, by decide +kernel⟩
def d_need_board : Desc := ⟨"need_board", defArgs (top 15), defBody (top 15), defScope (top 15), (["value"] : List Str), (["value"] : List Str), m_need_board, b_need_board⟩
theorem s_need_board : FnScope d_need_board.N d_need_board.ps d_need_board.scope := ⟨by kernel_rfl, by kernel_rfl, by kernel_rfl, by decide +kernel, by kernel_rfl, by decide +kernel, by decide +kernel⟩
def d_is_list : Desc := ⟨"is_list", defArgs (top 16), defBody (top 16), defScope (top 16), (["board", "value"] : List Str), (["board", "value"] : List Str), m_is_list, b_is_list⟩
theorem s_is_list : FnScope d_is_list.N d_is_list.ps d_is_list.scope := ⟨by kernel_rfl, by kernel_rfl, by kernel_rfl, by decide +kernel, by kernel_rfl, by decide +kernel, by decide +kernel⟩
def d_text_of : Desc := ⟨"text_of", defArgs (top 19), defBody (top 19), defScope (top 19), (["lines"] : List Str), (["lines", "rows", "number", "word", "words"] : List Str), m_text_of, b_text_of⟩
theorem s_text_of : FnScope d_text_of.N d_text_of.ps d_text_of.scope := ⟨by kernel_rfl, by kernel_rfl, by kernel_rfl, by decide +kernel, by kernel_rfl, by decide +kernel, by decide +kernel⟩
def d_line_from : Desc := ⟨"line_from", defArgs (top 20), defBody (top 20), defScope (top 20), (["row"] : List Str), (["row", "words", "numbers", "word"] : List Str), m_line_from, b_line_from⟩
theorem s_line_from : FnScope d_line_from.N d_line_from.ps d_line_from.scope := ⟨by kernel_rfl, by kernel_rfl, by kernel_rfl, by decide +kernel, by kernel_rfl, by decide +kernel, by decide +kernel⟩
def d_read_list : Desc := ⟨"read_list", defArgs (top 21), defBody (top 21), defScope (top 21), (["board", "value"] : List Str), (["board", "value", "lines", "row"] : List Str), m_read_list, b_read_list⟩
theorem s_read_list : FnScope d_read_list.N d_read_list.ps d_read_list.scope := ⟨by kernel_rfl, by kernel_rfl, by kernel_rfl, by decide +kernel, by kernel_rfl, by decide +kernel, by decide +kernel⟩
def d__law_source : Desc := ⟨"_law_source", defArgs (top 23), defBody (top 23), defScope (top 23), (["_law_script", "_law_k"] : List Str), (["_law_script", "_law_k", "_law_cell"] : List Str), m__law_source, b__law_source⟩
theorem s__law_source : FnScope d__law_source.N d__law_source.ps d__law_source.scope := ⟨by kernel_rfl, by kernel_rfl, by kernel_rfl, by decide +kernel, by kernel_rfl, by decide +kernel, by decide +kernel⟩
def d__law_draw : Desc := ⟨"_law_draw", defArgs (top 24), defBody (top 24), defScope (top 24), (["_law_source_here", "_law_many"] : List Str), (["_law_source_here", "_law_many", "_law_wide", "_law_rest"] : List Str), m__law_draw, b__law_draw⟩
theorem s__law_draw : FnScope d__law_draw.N d__law_draw.ps d__law_draw.scope := ⟨by kernel_rfl, by kernel_rfl, by kernel_rfl, by decide +kernel, by kernel_rfl, by decide +kernel, by decide +kernel⟩
def d__law_choice : Desc := ⟨"_law_choice", defArgs (top 25), defBody (top 25), defScope (top 25), (["_law_source_here", "_law_some"] : List Str), (["_law_source_here", "_law_some"] : List Str), m__law_choice, b__law_choice⟩
theorem s__law_choice : FnScope d__law_choice.N d__law_choice.ps d__law_choice.scope := ⟨by kernel_rfl, by kernel_rfl, by kernel_rfl, by decide +kernel, by kernel_rfl, by decide +kernel, by decide +kernel⟩
def d__law_size : Desc := ⟨"_law_size", defArgs (top 26), defBody (top 26), defScope (top 26), (["_law_board_here"] : List Str), (["_law_board_here", "_law_found", "_law_wait", "_law_worth", "_law_lasts", "_law_cost", "_law_partner"] : List Str), m__law_size, b__law_size⟩
theorem s__law_size : FnScope d__law_size.N d__law_size.ps d__law_size.scope := ⟨by kernel_rfl, by kernel_rfl, by kernel_rfl, by decide +kernel, by kernel_rfl, by decide +kernel, by decide +kernel⟩
def d__law_board : Desc := ⟨"_law_board", defArgs (top 27), defBody (top 27), defScope (top 27), (["_law_source_here", "_law_most"] : List Str), (["_law_source_here", "_law_most", "_law_many", "_law_found", "_law_tries", "_law_buttons", "_law_at", "_law_others", "_law_partner", "_law_row", "_law_other"] : List Str), m__law_board, b__law_board⟩
theorem s__law_board : FnScope d__law_board.N d__law_board.ps d__law_board.scope := ⟨by kernel_rfl, by kernel_rfl, by kernel_rfl, by decide +kernel, by kernel_rfl, by decide +kernel, by decide +kernel⟩
def d__law_list : Desc := ⟨"_law_list", defArgs (top 28), defBody (top 28), defScope (top 28), (["_law_source_here", "_law_board_here"] : List Str), (["_law_source_here", "_law_board_here", "_law_found", "_law_many", "_law_turn", "_law_word"] : List Str), m__law_list, b__law_list⟩
theorem s__law_list : FnScope d__law_list.N d__law_list.ps d__law_list.scope := ⟨by kernel_rfl, by kernel_rfl, by kernel_rfl, by decide +kernel, by kernel_rfl, by decide +kernel, by decide +kernel⟩
def d__law_written : Desc := ⟨"_law_written", defArgs (top 29), defBody (top 29), defScope (top 29), (["_law_lines"] : List Str), (["_law_lines", "_law_rows", "_law_button", "_law_word", "_law_words"] : List Str), m__law_written, b__law_written⟩
theorem s__law_written : FnScope d__law_written.N d__law_written.ps d__law_written.scope := ⟨by kernel_rfl, by kernel_rfl, by kernel_rfl, by decide +kernel, by kernel_rfl, by decide +kernel, by decide +kernel⟩
def d__law_bent : Desc := ⟨"_law_bent", defArgs (top 30), defBody (top 30), defScope (top 30), (["_law_source_here", "_law_text"] : List Str), (["_law_source_here", "_law_text", "_law_signs", "_law_at", "_law_rows", "_law_here", "_law_some"] : List Str), m__law_bent, b__law_bent⟩
theorem s__law_bent : FnScope d__law_bent.N d__law_bent.ps d__law_bent.scope := ⟨by kernel_rfl, by kernel_rfl, by kernel_rfl, by decide +kernel, by kernel_rfl, by decide +kernel, by decide +kernel⟩
def d__law_tried : Desc := ⟨"_law_tried", defArgs (top 31), defBody (top 31), defScope (top 31), (["_law_board_here", "_law_value"] : List Str), (["_law_board_here", "_law_value", "_law_found"] : List Str), m__law_tried, b__law_tried⟩
theorem s__law_tried : FnScope d__law_tried.N d__law_tried.ps d__law_tried.scope := ⟨by kernel_rfl, by kernel_rfl, by kernel_rfl, by decide +kernel, by kernel_rfl, by decide +kernel, by decide +kernel⟩
def d_law : Desc := ⟨"law", defArgs (top 32), defBody (top 32), defScope (top 32), (["_law_script"] : List Str), (["_law_script", "_law_k", "_law_board_here", "_law_good", "_law_rows", "_law_source_here", "_law_lines", "_law_text", "_law_turn", "_law_odd", "_law_found", "_law_row"] : List Str), m_law, b_law⟩
theorem s_law : FnScope d_law.N d_law.ps d_law.scope := ⟨by kernel_rfl, by kernel_rfl, by kernel_rfl, by decide +kernel, by kernel_rfl, by decide +kernel, by decide +kernel⟩
def ds : List Desc := [d_is_from, d_is_tuple, d_is_button, d_longest, d_size_of, d_is_board, d_is_word, d_is_line, d_has_list, d_need_board, d_is_list, d_text_of, d_line_from, d_read_list, d__law_source, d__law_draw, d__law_choice, d__law_size, d__law_board, d__law_list, d__law_written, d__law_bent, d__law_tried, d_law]
theorem okds : okAll gls xcs ds [] := ⟨⟨s_is_from, rfl, c_is_from⟩, ⟨⟨s_is_tuple, rfl, c_is_tuple⟩, ⟨⟨s_is_button, rfl, c_is_button⟩, ⟨⟨s_longest, rfl, c_longest⟩, ⟨⟨s_size_of, rfl, c_size_of⟩, ⟨⟨s_is_board, rfl, c_is_board⟩, ⟨⟨s_is_word, rfl, c_is_word⟩, ⟨⟨s_is_line, rfl, c_is_line⟩, ⟨⟨s_has_list, rfl, c_has_list⟩, ⟨⟨s_need_board, rfl, c_need_board⟩, ⟨⟨s_is_list, rfl, c_is_list⟩, ⟨⟨s_text_of, rfl, c_text_of⟩, ⟨⟨s_line_from, rfl, c_line_from⟩, ⟨⟨s_read_list, rfl, c_read_list⟩, ⟨⟨s__law_source, rfl, c__law_source⟩, ⟨⟨s__law_draw, rfl, c__law_draw⟩, ⟨⟨s__law_choice, rfl, c__law_choice⟩, ⟨⟨s__law_size, rfl, c__law_size⟩, ⟨⟨s__law_board, rfl, c__law_board⟩, ⟨⟨s__law_list, rfl, c__law_list⟩, ⟨⟨s__law_written, rfl, c__law_written⟩, ⟨⟨s__law_bent, rfl, c__law_bent⟩, ⟨⟨s__law_tried, rfl, c__law_tried⟩, ⟨⟨s_law, rfl, c_law⟩, trivial⟩⟩⟩⟩⟩⟩⟩⟩⟩⟩⟩⟩⟩⟩⟩⟩⟩⟩⟩⟩⟩⟩⟩⟩
theorem bd_is_from : BindOk d_is_from := fun _ _ _ _ _ _ us hl => match us, hl with | [_, _, _], _ => rfl
theorem bd_is_tuple : BindOk d_is_tuple := fun _ _ _ _ _ _ us hl => match us, hl with | [_, _, _], _ => rfl
theorem bd_is_button : BindOk d_is_button := fun _ _ _ _ _ _ us hl => match us, hl with | [_, _, _], _ => rfl
theorem bd_longest : BindOk d_longest := fun _ _ _ _ _ _ us hl => match us, hl with | [_], _ => rfl
theorem bd_size_of : BindOk d_size_of := fun _ _ _ _ _ _ us hl => match us, hl with | [_], _ => rfl
theorem bd_is_board : BindOk d_is_board := fun _ _ _ _ _ _ us hl => match us, hl with | [_], _ => rfl
theorem bd_is_word : BindOk d_is_word := fun _ _ _ _ _ _ us hl => match us, hl with | [_, _], _ => rfl
theorem bd_is_line : BindOk d_is_line := fun _ _ _ _ _ _ us hl => match us, hl with | [_, _], _ => rfl
theorem bd_has_list : BindOk d_has_list := fun _ _ _ _ _ _ us hl => match us, hl with | [_, _], _ => rfl
theorem bd_need_board : BindOk d_need_board := fun _ _ _ _ _ _ us hl => match us, hl with | [_], _ => rfl
theorem bd_is_list : BindOk d_is_list := fun _ _ _ _ _ _ us hl => match us, hl with | [_, _], _ => rfl
theorem bd_text_of : BindOk d_text_of := fun _ _ _ _ _ _ us hl => match us, hl with | [_], _ => rfl
theorem bd_line_from : BindOk d_line_from := fun _ _ _ _ _ _ us hl => match us, hl with | [_], _ => rfl
theorem bd_read_list : BindOk d_read_list := fun _ _ _ _ _ _ us hl => match us, hl with | [_, _], _ => rfl
theorem bd__law_source : BindOk d__law_source := fun _ _ _ _ _ _ us hl => match us, hl with | [_, _], _ => rfl
theorem bd__law_draw : BindOk d__law_draw := fun _ _ _ _ _ _ us hl => match us, hl with | [_, _], _ => rfl
theorem bd__law_choice : BindOk d__law_choice := fun _ _ _ _ _ _ us hl => match us, hl with | [_, _], _ => rfl
theorem bd__law_size : BindOk d__law_size := fun _ _ _ _ _ _ us hl => match us, hl with | [_], _ => rfl
theorem bd__law_board : BindOk d__law_board := fun _ _ _ _ _ _ us hl => match us, hl with | [_, _], _ => rfl
theorem bd__law_list : BindOk d__law_list := fun _ _ _ _ _ _ us hl => match us, hl with | [_, _], _ => rfl
theorem bd__law_written : BindOk d__law_written := fun _ _ _ _ _ _ us hl => match us, hl with | [_], _ => rfl
theorem bd__law_bent : BindOk d__law_bent := fun _ _ _ _ _ _ us hl => match us, hl with | [_, _], _ => rfl
theorem bd__law_tried : BindOk d__law_tried := fun _ _ _ _ _ _ us hl => match us, hl with | [_, _], _ => rfl
theorem bd_law : BindOk d_law := fun _ _ _ _ _ _ us hl => match us, hl with | [_], _ => rfl
theorem bdds : BindAll ds := ⟨bd_is_from, ⟨bd_is_tuple, ⟨bd_is_button, ⟨bd_longest, ⟨bd_size_of, ⟨bd_is_board, ⟨bd_is_word, ⟨bd_is_line, ⟨bd_has_list, ⟨bd_need_board, ⟨bd_is_list, ⟨bd_text_of, ⟨bd_line_from, ⟨bd_read_list, ⟨bd__law_source, ⟨bd__law_draw, ⟨bd__law_choice, ⟨bd__law_size, ⟨bd__law_board, ⟨bd__law_list, ⟨bd__law_written, ⟨bd__law_bent, ⟨bd__law_tried, ⟨bd_law, trivial⟩⟩⟩⟩⟩⟩⟩⟩⟩⟩⟩⟩⟩⟩⟩⟩⟩⟩⟩⟩⟩⟩⟩⟩
end Tx
end

section
set_option Elab.async false
set_option linter.all false
set_option maxRecDepth 100000
/-! Boards, stands, lists as typed data. -/
namespace Pl
open PySem L2 Ev
def optD : Option Int → D
  | none => .non
  | some i => .int i
@[simp] theorem optD_none : optD none = .non := rfl
@[simp] theorem optD_some (i : Int) : optD (some i) = .int i := rfl
@[simp] theorem optD_imm (o : Option Int) : (optD o).imm = true := by cases o <;> rfl
structure Btn where
  wait : Int
  worth : Int
  lasts : Int
  cost : Int
  partner : Option Int
  deriving DecidableEq
def Btn.d (b : Btn) : D := .tup [.int b.wait, .int b.worth, .int b.lasts, .int b.cost, optD b.partner]
structure Brd where
  btns : List Btn
  pause : Int
  energy : Int
  deriving DecidableEq
def Brd.bs (b : Brd) : D := .tup (b.btns.map Btn.d)
def Brd.d (b : Brd) : D := .tup [b.bs, .int b.pause, .int b.energy]
structure Stand where
  sinces : List Int
  left : Int
  energy : Int
  held : Int
  deriving DecidableEq
def Stand.ss (s : Stand) : D := .tup (s.sinces.map D.int)
def Stand.d (s : Stand) : D := .tup [s.ss, .int s.left, .int s.energy, .int s.held]
@[simp] theorem Btn.imm (b : Btn) : b.d.imm = true := by simp [Btn.d]
@[simp] theorem Brd.bs_imm (b : Brd) : b.bs.imm = true := by
  unfold Brd.bs
  rw [imm_tup]
  exact immAll_map _ _ fun x _ => Btn.imm x
@[simp] theorem Brd.imm (b : Brd) : b.d.imm = true := by simp [Brd.d]
@[simp] theorem Stand.ss_imm (b : Stand) : b.ss.imm = true := by
  unfold Stand.ss
  rw [imm_tup]
  exact immAll_map _ _ fun x _ => rfl
@[simp] theorem Stand.imm (b : Stand) : b.d.imm = true := by simp [Stand.d]
@[simp] theorem nrm_brd (t : RT) (b : Brd) : RV.nrm ⟨t, b.d⟩ = ⟨.im, b.d⟩ := nrm_of b.imm
@[simp] theorem nrm_bs (t : RT) (b : Brd) : RV.nrm ⟨t, b.bs⟩ = ⟨.im, b.bs⟩ := nrm_of b.bs_imm
@[simp] theorem nrm_btn (t : RT) (b : Btn) : RV.nrm ⟨t, b.d⟩ = ⟨.im, b.d⟩ := nrm_of b.imm
@[simp] theorem nrm_stand (t : RT) (b : Stand) : RV.nrm ⟨t, b.d⟩ = ⟨.im, b.d⟩ := nrm_of b.imm
@[simp] theorem nrm_ss (t : RT) (b : Stand) : RV.nrm ⟨t, b.ss⟩ = ⟨.im, b.ss⟩ := nrm_of b.ss_imm
@[simp] theorem nrm_opt (t : RT) (b : Option Int) : RV.nrm ⟨t, optD b⟩ = ⟨.im, optD b⟩ := nrm_of (optD_imm b)
@[simp] theorem brd_0 (t : RT) (b : Brd) : idxD ⟨t, b.d⟩ (.int 0) = some ⟨t, b.bs⟩ := by simp [Brd.d]
@[simp] theorem brd_1 (t : RT) (b : Brd) : idxD ⟨t, b.d⟩ (.int 1) = some ⟨t, .int b.pause⟩ := by simp [Brd.d]
@[simp] theorem brd_2 (t : RT) (b : Brd) : idxD ⟨t, b.d⟩ (.int 2) = some ⟨t, .int b.energy⟩ := by simp [Brd.d]
@[simp] theorem btn_0 (t : RT) (b : Btn) : idxD ⟨t, b.d⟩ (.int 0) = some ⟨t, .int b.wait⟩ := by simp [Btn.d]
@[simp] theorem btn_1 (t : RT) (b : Btn) : idxD ⟨t, b.d⟩ (.int 1) = some ⟨t, .int b.worth⟩ := by simp [Btn.d]
@[simp] theorem btn_2 (t : RT) (b : Btn) : idxD ⟨t, b.d⟩ (.int 2) = some ⟨t, .int b.lasts⟩ := by simp [Btn.d]
@[simp] theorem btn_3 (t : RT) (b : Btn) : idxD ⟨t, b.d⟩ (.int 3) = some ⟨t, .int b.cost⟩ := by simp [Btn.d]
@[simp] theorem btn_4 (t : RT) (b : Btn) : idxD ⟨t, b.d⟩ (.int 4) = some ⟨t, optD b.partner⟩ := by simp [Btn.d]
@[simp] theorem stand_0 (t : RT) (b : Stand) : idxD ⟨t, b.d⟩ (.int 0) = some ⟨t, b.ss⟩ := by simp [Stand.d]
@[simp] theorem stand_1 (t : RT) (b : Stand) : idxD ⟨t, b.d⟩ (.int 1) = some ⟨t, .int b.left⟩ := by simp [Stand.d]
@[simp] theorem stand_2 (t : RT) (b : Stand) : idxD ⟨t, b.d⟩ (.int 2) = some ⟨t, .int b.energy⟩ := by simp [Stand.d]
@[simp] theorem stand_3 (t : RT) (b : Stand) : idxD ⟨t, b.d⟩ (.int 3) = some ⟨t, .int b.held⟩ := by simp [Stand.d]
@[simp] theorem isNon_opt (o : Option Int) : isNonD (optD o) = some o.isNone := by cases o <;> rfl
@[simp] theorem seq_bs (b : Brd) : seqD ⟨.im, b.bs⟩ = some ⟨.im, .im, b.btns.map Btn.d⟩ := rfl
@[simp] theorem len_bs (b : Brd) : lenD b.bs = some ⟨.im, .int b.btns.length⟩ := by simp [Brd.bs]
@[simp] theorem bs_dic (b : Brd) : b.bs.isDic = false := rfl
/-- an item by a number -/
theorem bs_at (t : RT) (b : Brd) (n : Nat) (x : Btn) (h : b.btns[n]? = some x) : idxD ⟨t, b.bs⟩ (.int n) = some ⟨t, x.d⟩ := by
  unfold Brd.bs
  rw [idxT_int, Ev.atI_nat, List.getElem?_map, h]
  rfl
theorem ss_at (t : RT) (b : Stand) (n : Nat) (x : Int) (h : b.sinces[n]? = some x) : idxD ⟨t, b.ss⟩ (.int n) = some ⟨t, .int x⟩ := by
  unfold Stand.ss
  rw [idxT_int, Ev.atI_nat, List.getElem?_map, h]
  rfl
def longest (b : Btn) : Int := if b.lasts + 1 > b.wait then b.lasts + 1 else b.wait
def sizeB (b : Brd) : Int := b.btns.foldl (fun s x => s * longest x) ((b.pause + 1) * (b.energy + 1))
/-- what a slot holds behind a loop -/
def lastV (j : Option SV) : List SV → Option SV
  | [] => j
  | v :: vs => lastV (some v) vs
end Pl
end

section
set_option Elab.async false
set_option linter.all false
set_option maxRecDepth 100000
set_option maxHeartbeats 0
namespace Tx
open PySem L2 Ev
noncomputable abbrev G_is_from : Tab := fun n => ([] : List Fn)[n]?
noncomputable def F_is_from : Fn := ⟨m_is_from, runF G_is_from (intC ics) m_is_from 0 b_is_from⟩
noncomputable abbrev G_is_tuple : Tab := fun n => ([F_is_from] : List Fn)[n]?
noncomputable def F_is_tuple : Fn := ⟨m_is_tuple, runF G_is_tuple (intC ics) m_is_tuple 0 b_is_tuple⟩
noncomputable abbrev G_is_button : Tab := fun n => ([F_is_from, F_is_tuple] : List Fn)[n]?
noncomputable def F_is_button : Fn := ⟨m_is_button, runF G_is_button (intC ics) m_is_button 0 b_is_button⟩
noncomputable abbrev G_longest : Tab := fun n => ([F_is_from, F_is_tuple, F_is_button] : List Fn)[n]?
noncomputable def F_longest : Fn := ⟨m_longest, runF G_longest (intC ics) m_longest 0 b_longest⟩
noncomputable abbrev G_size_of : Tab := fun n => ([F_is_from, F_is_tuple, F_is_button, F_longest] : List Fn)[n]?
noncomputable def F_size_of : Fn := ⟨m_size_of, runF G_size_of (intC ics) m_size_of 2 b_size_of⟩
noncomputable abbrev G_is_board : Tab := fun n => ([F_is_from, F_is_tuple, F_is_button, F_longest, F_size_of] : List Fn)[n]?
noncomputable def F_is_board : Fn := ⟨m_is_board, runF G_is_board (intC ics) m_is_board 2 b_is_board⟩
noncomputable abbrev G_is_word : Tab := fun n => ([F_is_from, F_is_tuple, F_is_button, F_longest, F_size_of, F_is_board] : List Fn)[n]?
noncomputable def F_is_word : Fn := ⟨m_is_word, runF G_is_word (intC ics) m_is_word 0 b_is_word⟩
noncomputable abbrev G_is_line : Tab := fun n => ([F_is_from, F_is_tuple, F_is_button, F_longest, F_size_of, F_is_board, F_is_word] : List Fn)[n]?
noncomputable def F_is_line : Fn := ⟨m_is_line, runF G_is_line (intC ics) m_is_line 0 b_is_line⟩
noncomputable abbrev G_has_list : Tab := fun n => ([F_is_from, F_is_tuple, F_is_button, F_longest, F_size_of, F_is_board, F_is_word, F_is_line] : List Fn)[n]?
noncomputable def F_has_list : Fn := ⟨m_has_list, runF G_has_list (intC ics) m_has_list 1 b_has_list⟩
noncomputable abbrev G_need_board : Tab := fun n => ([F_is_from, F_is_tuple, F_is_button, F_longest, F_size_of, F_is_board, F_is_word, F_is_line, F_has_list] : List Fn)[n]?
noncomputable def F_need_board : Fn := ⟨m_need_board, runF G_need_board (intC ics) m_need_board 0 b_need_board⟩
noncomputable abbrev G_is_list : Tab := fun n => ([F_is_from, F_is_tuple, F_is_button, F_longest, F_size_of, F_is_board, F_is_word, F_is_line, F_has_list, F_need_board] : List Fn)[n]?
noncomputable def F_is_list : Fn := ⟨m_is_list, runF G_is_list (intC ics) m_is_list 0 b_is_list⟩
noncomputable abbrev G_text_of : Tab := fun n => ([F_is_from, F_is_tuple, F_is_button, F_longest, F_size_of, F_is_board, F_is_word, F_is_line, F_has_list, F_need_board, F_is_list] : List Fn)[n]?
noncomputable def F_text_of : Fn := ⟨m_text_of, runF G_text_of (intC ics) m_text_of 4 b_text_of⟩
noncomputable abbrev G_line_from : Tab := fun n => ([F_is_from, F_is_tuple, F_is_button, F_longest, F_size_of, F_is_board, F_is_word, F_is_line, F_has_list, F_need_board, F_is_list, F_text_of] : List Fn)[n]?
noncomputable def F_line_from : Fn := ⟨m_line_from, runF G_line_from (intC ics) m_line_from 3 b_line_from⟩
noncomputable abbrev G_read_list : Tab := fun n => ([F_is_from, F_is_tuple, F_is_button, F_longest, F_size_of, F_is_board, F_is_word, F_is_line, F_has_list, F_need_board, F_is_list, F_text_of, F_line_from] : List Fn)[n]?
noncomputable def F_read_list : Fn := ⟨m_read_list, runF G_read_list (intC ics) m_read_list 2 b_read_list⟩
noncomputable abbrev G__law_source : Tab := fun n => ([F_is_from, F_is_tuple, F_is_button, F_longest, F_size_of, F_is_board, F_is_word, F_is_line, F_has_list, F_need_board, F_is_list, F_text_of, F_line_from, F_read_list] : List Fn)[n]?
noncomputable def F__law_source : Fn := ⟨m__law_source, runF G__law_source (intC ics) m__law_source 1 b__law_source⟩
noncomputable abbrev G__law_draw : Tab := fun n => ([F_is_from, F_is_tuple, F_is_button, F_longest, F_size_of, F_is_board, F_is_word, F_is_line, F_has_list, F_need_board, F_is_list, F_text_of, F_line_from, F_read_list, F__law_source] : List Fn)[n]?
noncomputable def F__law_draw : Fn := ⟨m__law_draw, runF G__law_draw (intC ics) m__law_draw 2 b__law_draw⟩
noncomputable abbrev G__law_choice : Tab := fun n => ([F_is_from, F_is_tuple, F_is_button, F_longest, F_size_of, F_is_board, F_is_word, F_is_line, F_has_list, F_need_board, F_is_list, F_text_of, F_line_from, F_read_list, F__law_source, F__law_draw] : List Fn)[n]?
noncomputable def F__law_choice : Fn := ⟨m__law_choice, runF G__law_choice (intC ics) m__law_choice 0 b__law_choice⟩
noncomputable abbrev G__law_size : Tab := fun n => ([F_is_from, F_is_tuple, F_is_button, F_longest, F_size_of, F_is_board, F_is_word, F_is_line, F_has_list, F_need_board, F_is_list, F_text_of, F_line_from, F_read_list, F__law_source, F__law_draw, F__law_choice] : List Fn)[n]?
noncomputable def F__law_size : Fn := ⟨m__law_size, runF G__law_size (intC ics) m__law_size 6 b__law_size⟩
noncomputable abbrev G__law_board : Tab := fun n => ([F_is_from, F_is_tuple, F_is_button, F_longest, F_size_of, F_is_board, F_is_word, F_is_line, F_has_list, F_need_board, F_is_list, F_text_of, F_line_from, F_read_list, F__law_source, F__law_draw, F__law_choice, F__law_size] : List Fn)[n]?
noncomputable def F__law_board : Fn := ⟨m__law_board, runF G__law_board (intC ics) m__law_board 9 b__law_board⟩
noncomputable abbrev G__law_list : Tab := fun n => ([F_is_from, F_is_tuple, F_is_button, F_longest, F_size_of, F_is_board, F_is_word, F_is_line, F_has_list, F_need_board, F_is_list, F_text_of, F_line_from, F_read_list, F__law_source, F__law_draw, F__law_choice, F__law_size, F__law_board] : List Fn)[n]?
noncomputable def F__law_list : Fn := ⟨m__law_list, runF G__law_list (intC ics) m__law_list 4 b__law_list⟩
noncomputable abbrev G__law_written : Tab := fun n => ([F_is_from, F_is_tuple, F_is_button, F_longest, F_size_of, F_is_board, F_is_word, F_is_line, F_has_list, F_need_board, F_is_list, F_text_of, F_line_from, F_read_list, F__law_source, F__law_draw, F__law_choice, F__law_size, F__law_board, F__law_list] : List Fn)[n]?
noncomputable def F__law_written : Fn := ⟨m__law_written, runF G__law_written (intC ics) m__law_written 4 b__law_written⟩
noncomputable abbrev G__law_bent : Tab := fun n => ([F_is_from, F_is_tuple, F_is_button, F_longest, F_size_of, F_is_board, F_is_word, F_is_line, F_has_list, F_need_board, F_is_list, F_text_of, F_line_from, F_read_list, F__law_source, F__law_draw, F__law_choice, F__law_size, F__law_board, F__law_list, F__law_written] : List Fn)[n]?
noncomputable def F__law_bent : Fn := ⟨m__law_bent, runF G__law_bent (intC ics) m__law_bent 5 b__law_bent⟩
noncomputable abbrev G__law_tried : Tab := fun n => ([F_is_from, F_is_tuple, F_is_button, F_longest, F_size_of, F_is_board, F_is_word, F_is_line, F_has_list, F_need_board, F_is_list, F_text_of, F_line_from, F_read_list, F__law_source, F__law_draw, F__law_choice, F__law_size, F__law_board, F__law_list, F__law_written, F__law_bent] : List Fn)[n]?
noncomputable def F__law_tried : Fn := ⟨m__law_tried, runF G__law_tried (intC ics) m__law_tried 1 b__law_tried⟩
noncomputable abbrev G_law : Tab := fun n => ([F_is_from, F_is_tuple, F_is_button, F_longest, F_size_of, F_is_board, F_is_word, F_is_line, F_has_list, F_need_board, F_is_list, F_text_of, F_line_from, F_read_list, F__law_source, F__law_draw, F__law_choice, F__law_size, F__law_board, F__law_list, F__law_written, F__law_bent, F__law_tried] : List Fn)[n]?
noncomputable def F_law : Fn := ⟨m_law, runF G_law (intC ics) m_law 11 b_law⟩
theorem sm_is_from (l : List D) : F_is_from.sem l = startK G_is_from (intC ics) [.vl, .vl, .vl] b_is_from (startE [.vl, .vl, .vl] l 0) := runF_st _ _ _ _ _ _
@[simp] theorem md_is_from : F_is_from.modes = [.vl, .vl, .vl] := rfl
theorem sm_is_tuple (l : List D) : F_is_tuple.sem l = startK G_is_tuple (intC ics) [.vl, .vl, .vl] b_is_tuple (startE [.vl, .vl, .vl] l 0) := runF_st _ _ _ _ _ _
@[simp] theorem md_is_tuple : F_is_tuple.modes = [.vl, .vl, .vl] := rfl
theorem sm_is_button (l : List D) : F_is_button.sem l = startK G_is_button (intC ics) [.vl, .vl, .vl] b_is_button (startE [.vl, .vl, .vl] l 0) := runF_st _ _ _ _ _ _
@[simp] theorem md_is_button : F_is_button.modes = [.vl, .vl, .vl] := rfl
@[simp] theorem g_is_button_0 : G_is_button 0 = some F_is_from := rfl
@[simp] theorem g_is_button_1 : G_is_button 1 = some F_is_tuple := rfl
theorem sm_longest (l : List D) : F_longest.sem l = startK G_longest (intC ics) [.vl] b_longest (startE [.vl] l 0) := runF_st _ _ _ _ _ _
@[simp] theorem md_longest : F_longest.modes = [.vl] := rfl
theorem sm_size_of (l : List D) : F_size_of.sem l = startK G_size_of (intC ics) [.vl] b_size_of (startE [.vl] l 2) := runF_st _ _ _ _ _ _
@[simp] theorem md_size_of : F_size_of.modes = [.vl] := rfl
@[simp] theorem g_size_of_3 : G_size_of 3 = some F_longest := rfl
theorem sm_is_board (l : List D) : F_is_board.sem l = startK G_is_board (intC ics) [.vl] b_is_board (startE [.vl] l 2) := runF_st _ _ _ _ _ _
@[simp] theorem md_is_board : F_is_board.modes = [.vl] := rfl
@[simp] theorem g_is_board_0 : G_is_board 0 = some F_is_from := rfl
@[simp] theorem g_is_board_1 : G_is_board 1 = some F_is_tuple := rfl
@[simp] theorem g_is_board_2 : G_is_board 2 = some F_is_button := rfl
@[simp] theorem g_is_board_4 : G_is_board 4 = some F_size_of := rfl
theorem sm_is_word (l : List D) : F_is_word.sem l = startK G_is_word (intC ics) [.vl, .vl] b_is_word (startE [.vl, .vl] l 0) := runF_st _ _ _ _ _ _
@[simp] theorem md_is_word : F_is_word.modes = [.vl, .vl] := rfl
@[simp] theorem g_is_word_0 : G_is_word 0 = some F_is_from := rfl
@[simp] theorem g_is_word_1 : G_is_word 1 = some F_is_tuple := rfl
theorem sm_is_line (l : List D) : F_is_line.sem l = startK G_is_line (intC ics) [.vl, .vl] b_is_line (startE [.vl, .vl] l 0) := runF_st _ _ _ _ _ _
@[simp] theorem md_is_line : F_is_line.modes = [.vl, .vl] := rfl
@[simp] theorem g_is_line_0 : G_is_line 0 = some F_is_from := rfl
@[simp] theorem g_is_line_1 : G_is_line 1 = some F_is_tuple := rfl
@[simp] theorem g_is_line_6 : G_is_line 6 = some F_is_word := rfl
theorem sm_has_list (l : List D) : F_has_list.sem l = startK G_has_list (intC ics) [.vl, .vl] b_has_list (startE [.vl, .vl] l 1) := runF_st _ _ _ _ _ _
@[simp] theorem md_has_list : F_has_list.modes = [.vl, .vl] := rfl
@[simp] theorem g_has_list_1 : G_has_list 1 = some F_is_tuple := rfl
@[simp] theorem g_has_list_7 : G_has_list 7 = some F_is_line := rfl
theorem sm_need_board (l : List D) : F_need_board.sem l = startK G_need_board (intC ics) [.vl] b_need_board (startE [.vl] l 0) := runF_st _ _ _ _ _ _
@[simp] theorem md_need_board : F_need_board.modes = [.vl] := rfl
@[simp] theorem g_need_board_5 : G_need_board 5 = some F_is_board := rfl
theorem sm_is_list (l : List D) : F_is_list.sem l = startK G_is_list (intC ics) [.vl, .vl] b_is_list (startE [.vl, .vl] l 0) := runF_st _ _ _ _ _ _
@[simp] theorem md_is_list : F_is_list.modes = [.vl, .vl] := rfl
@[simp] theorem g_is_list_8 : G_is_list 8 = some F_has_list := rfl
@[simp] theorem g_is_list_9 : G_is_list 9 = some F_need_board := rfl
theorem sm_text_of (l : List D) : F_text_of.sem l = startK G_text_of (intC ics) [.vl] b_text_of (startE [.vl] l 4) := runF_st _ _ _ _ _ _
@[simp] theorem md_text_of : F_text_of.modes = [.vl] := rfl
theorem sm_line_from (l : List D) : F_line_from.sem l = startK G_line_from (intC ics) [.vl] b_line_from (startE [.vl] l 3) := runF_st _ _ _ _ _ _
@[simp] theorem md_line_from : F_line_from.modes = [.vl] := rfl
theorem sm_read_list (l : List D) : F_read_list.sem l = startK G_read_list (intC ics) [.vl, .vl] b_read_list (startE [.vl, .vl] l 2) := runF_st _ _ _ _ _ _
@[simp] theorem md_read_list : F_read_list.modes = [.vl, .vl] := rfl
@[simp] theorem g_read_list_8 : G_read_list 8 = some F_has_list := rfl
@[simp] theorem g_read_list_9 : G_read_list 9 = some F_need_board := rfl
@[simp] theorem g_read_list_11 : G_read_list 11 = some F_text_of := rfl
@[simp] theorem g_read_list_12 : G_read_list 12 = some F_line_from := rfl
theorem sm__law_source (l : List D) : F__law_source.sem l = startK G__law_source (intC ics) [.vl, .vl] b__law_source (startE [.vl, .vl] l 1) := runF_st _ _ _ _ _ _
@[simp] theorem md__law_source : F__law_source.modes = [.vl, .vl] := rfl
theorem sm__law_draw (l : List D) : F__law_draw.sem l = startK G__law_draw (intC ics) [.rf, .vl] b__law_draw (startE [.rf, .vl] l 2) := runF_st _ _ _ _ _ _
@[simp] theorem md__law_draw : F__law_draw.modes = [.rf, .vl] := rfl
theorem sm__law_choice (l : List D) : F__law_choice.sem l = startK G__law_choice (intC ics) [.rf, .vl] b__law_choice (startE [.rf, .vl] l 0) := runF_st _ _ _ _ _ _
@[simp] theorem md__law_choice : F__law_choice.modes = [.rf, .vl] := rfl
@[simp] theorem g__law_choice_15 : G__law_choice 15 = some F__law_draw := rfl
theorem sm__law_size (l : List D) : F__law_size.sem l = startK G__law_size (intC ics) [.vl] b__law_size (startE [.vl] l 6) := runF_st _ _ _ _ _ _
@[simp] theorem md__law_size : F__law_size.modes = [.vl] := rfl
theorem sm__law_board (l : List D) : F__law_board.sem l = startK G__law_board (intC ics) [.rf, .vl] b__law_board (startE [.rf, .vl] l 9) := runF_st _ _ _ _ _ _
@[simp] theorem md__law_board : F__law_board.modes = [.rf, .vl] := rfl
@[simp] theorem g__law_board_15 : G__law_board 15 = some F__law_draw := rfl
@[simp] theorem g__law_board_16 : G__law_board 16 = some F__law_choice := rfl
@[simp] theorem g__law_board_17 : G__law_board 17 = some F__law_size := rfl
theorem sm__law_list (l : List D) : F__law_list.sem l = startK G__law_list (intC ics) [.rf, .vl] b__law_list (startE [.rf, .vl] l 4) := runF_st _ _ _ _ _ _
@[simp] theorem md__law_list : F__law_list.modes = [.rf, .vl] := rfl
@[simp] theorem g__law_list_15 : G__law_list 15 = some F__law_draw := rfl
@[simp] theorem g__law_list_16 : G__law_list 16 = some F__law_choice := rfl
theorem sm__law_written (l : List D) : F__law_written.sem l = startK G__law_written (intC ics) [.vl] b__law_written (startE [.vl] l 4) := runF_st _ _ _ _ _ _
@[simp] theorem md__law_written : F__law_written.modes = [.vl] := rfl
theorem sm__law_bent (l : List D) : F__law_bent.sem l = startK G__law_bent (intC ics) [.rf, .vl] b__law_bent (startE [.rf, .vl] l 5) := runF_st _ _ _ _ _ _
@[simp] theorem md__law_bent : F__law_bent.modes = [.rf, .vl] := rfl
@[simp] theorem g__law_bent_15 : G__law_bent 15 = some F__law_draw := rfl
@[simp] theorem g__law_bent_16 : G__law_bent 16 = some F__law_choice := rfl
theorem sm__law_tried (l : List D) : F__law_tried.sem l = startK G__law_tried (intC ics) [.vl, .vl] b__law_tried (startE [.vl, .vl] l 1) := runF_st _ _ _ _ _ _
@[simp] theorem md__law_tried : F__law_tried.modes = [.vl, .vl] := rfl
@[simp] theorem g__law_tried_13 : G__law_tried 13 = some F_read_list := rfl
theorem sm_law (l : List D) : F_law.sem l = startK G_law (intC ics) [.vl] b_law (startE [.vl] l 11) := runF_st _ _ _ _ _ _
@[simp] theorem md_law : F_law.modes = [.vl] := rfl
@[simp] theorem g_law_10 : G_law 10 = some F_is_list := rfl
@[simp] theorem g_law_14 : G_law 14 = some F__law_source := rfl
@[simp] theorem g_law_18 : G_law 18 = some F__law_board := rfl
@[simp] theorem g_law_19 : G_law 19 = some F__law_list := rfl
@[simp] theorem g_law_20 : G_law 20 = some F__law_written := rfl
@[simp] theorem g_law_21 : G_law 21 = some F__law_bent := rfl
@[simp] theorem g_law_22 : G_law 22 = some F__law_tried := rfl
@[simp] theorem ic_0 : intC ics 0 = some (.int 400) := rfl
@[simp] theorem ic_1 : intC ics 1 = some (.tup [.str "0", .str "1", .str "2", .str "3", .str "4"]) := rfl
theorem tabs_step {C : Nat → Option D} {d : Desc} {ds : List Desc} {tb tb2 : List Fn} (h : tb ++ [mkF C tb d] = tb2) : tabs C (d :: ds) tb = tabs C ds tb2 := by rw [← h]; rfl
theorem tabs_all : tabs (intC ics) [d_is_from, d_is_tuple, d_is_button, d_longest, d_size_of, d_is_board, d_is_word, d_is_line, d_has_list, d_need_board, d_is_list, d_text_of, d_line_from, d_read_list, d__law_source, d__law_draw, d__law_choice, d__law_size, d__law_board, d__law_list, d__law_written, d__law_bent, d__law_tried] [] = [F_is_from, F_is_tuple, F_is_button, F_longest, F_size_of, F_is_board, F_is_word, F_is_line, F_has_list, F_need_board, F_is_list, F_text_of, F_line_from, F_read_list, F__law_source, F__law_draw, F__law_choice, F__law_size, F__law_board, F__law_list, F__law_written, F__law_bent, F__law_tried] :=
  (tabs_step (tb2 := [F_is_from]) rfl).trans <|
  (tabs_step (tb2 := [F_is_from, F_is_tuple]) rfl).trans <|
  (tabs_step (tb2 := [F_is_from, F_is_tuple, F_is_button]) rfl).trans <|
  (tabs_step (tb2 := [F_is_from, F_is_tuple, F_is_button, F_longest]) rfl).trans <|
  (tabs_step (tb2 := [F_is_from, F_is_tuple, F_is_button, F_longest, F_size_of]) rfl).trans <|
  (tabs_step (tb2 := [F_is_from, F_is_tuple, F_is_button, F_longest, F_size_of, F_is_board]) rfl).trans <|
  (tabs_step (tb2 := [F_is_from, F_is_tuple, F_is_button, F_longest, F_size_of, F_is_board, F_is_word]) rfl).trans <|
  (tabs_step (tb2 := [F_is_from, F_is_tuple, F_is_button, F_longest, F_size_of, F_is_board, F_is_word, F_is_line]) rfl).trans <|
  (tabs_step (tb2 := [F_is_from, F_is_tuple, F_is_button, F_longest, F_size_of, F_is_board, F_is_word, F_is_line, F_has_list]) rfl).trans <|
  (tabs_step (tb2 := [F_is_from, F_is_tuple, F_is_button, F_longest, F_size_of, F_is_board, F_is_word, F_is_line, F_has_list, F_need_board]) rfl).trans <|
  (tabs_step (tb2 := [F_is_from, F_is_tuple, F_is_button, F_longest, F_size_of, F_is_board, F_is_word, F_is_line, F_has_list, F_need_board, F_is_list]) rfl).trans <|
  (tabs_step (tb2 := [F_is_from, F_is_tuple, F_is_button, F_longest, F_size_of, F_is_board, F_is_word, F_is_line, F_has_list, F_need_board, F_is_list, F_text_of]) rfl).trans <|
  (tabs_step (tb2 := [F_is_from, F_is_tuple, F_is_button, F_longest, F_size_of, F_is_board, F_is_word, F_is_line, F_has_list, F_need_board, F_is_list, F_text_of, F_line_from]) rfl).trans <|
  (tabs_step (tb2 := [F_is_from, F_is_tuple, F_is_button, F_longest, F_size_of, F_is_board, F_is_word, F_is_line, F_has_list, F_need_board, F_is_list, F_text_of, F_line_from, F_read_list]) rfl).trans <|
  (tabs_step (tb2 := [F_is_from, F_is_tuple, F_is_button, F_longest, F_size_of, F_is_board, F_is_word, F_is_line, F_has_list, F_need_board, F_is_list, F_text_of, F_line_from, F_read_list, F__law_source]) rfl).trans <|
  (tabs_step (tb2 := [F_is_from, F_is_tuple, F_is_button, F_longest, F_size_of, F_is_board, F_is_word, F_is_line, F_has_list, F_need_board, F_is_list, F_text_of, F_line_from, F_read_list, F__law_source, F__law_draw]) rfl).trans <|
  (tabs_step (tb2 := [F_is_from, F_is_tuple, F_is_button, F_longest, F_size_of, F_is_board, F_is_word, F_is_line, F_has_list, F_need_board, F_is_list, F_text_of, F_line_from, F_read_list, F__law_source, F__law_draw, F__law_choice]) rfl).trans <|
  (tabs_step (tb2 := [F_is_from, F_is_tuple, F_is_button, F_longest, F_size_of, F_is_board, F_is_word, F_is_line, F_has_list, F_need_board, F_is_list, F_text_of, F_line_from, F_read_list, F__law_source, F__law_draw, F__law_choice, F__law_size]) rfl).trans <|
  (tabs_step (tb2 := [F_is_from, F_is_tuple, F_is_button, F_longest, F_size_of, F_is_board, F_is_word, F_is_line, F_has_list, F_need_board, F_is_list, F_text_of, F_line_from, F_read_list, F__law_source, F__law_draw, F__law_choice, F__law_size, F__law_board]) rfl).trans <|
  (tabs_step (tb2 := [F_is_from, F_is_tuple, F_is_button, F_longest, F_size_of, F_is_board, F_is_word, F_is_line, F_has_list, F_need_board, F_is_list, F_text_of, F_line_from, F_read_list, F__law_source, F__law_draw, F__law_choice, F__law_size, F__law_board, F__law_list]) rfl).trans <|
  (tabs_step (tb2 := [F_is_from, F_is_tuple, F_is_button, F_longest, F_size_of, F_is_board, F_is_word, F_is_line, F_has_list, F_need_board, F_is_list, F_text_of, F_line_from, F_read_list, F__law_source, F__law_draw, F__law_choice, F__law_size, F__law_board, F__law_list, F__law_written]) rfl).trans <|
  (tabs_step (tb2 := [F_is_from, F_is_tuple, F_is_button, F_longest, F_size_of, F_is_board, F_is_word, F_is_line, F_has_list, F_need_board, F_is_list, F_text_of, F_line_from, F_read_list, F__law_source, F__law_draw, F__law_choice, F__law_size, F__law_board, F__law_list, F__law_written, F__law_bent]) rfl).trans <|
  (tabs_step (tb2 := [F_is_from, F_is_tuple, F_is_button, F_longest, F_size_of, F_is_board, F_is_word, F_is_line, F_has_list, F_need_board, F_is_list, F_text_of, F_line_from, F_read_list, F__law_source, F__law_draw, F__law_choice, F__law_size, F__law_board, F__law_list, F__law_written, F__law_bent, F__law_tried]) rfl).trans <|
  rfl
theorem law_F : mkF (intC ics) (tabs (intC ics) [d_is_from, d_is_tuple, d_is_button, d_longest, d_size_of, d_is_board, d_is_word, d_is_line, d_has_list, d_need_board, d_is_list, d_text_of, d_line_from, d_read_list, d__law_source, d__law_draw, d__law_choice, d__law_size, d__law_board, d__law_list, d__law_written, d__law_bent, d__law_tried] []) d_law = F_law := by rw [tabs_all]; rfl
end Tx
end

section
set_option Elab.async false
set_option linter.all false
set_option maxRecDepth 100000
set_option maxHeartbeats 2000000
/-! The plain law: the small defs. -/
namespace Tx
open PySem L2 Ev Pl
def isFrom (d : D) (lo hi : Int) : Bool := match d with
  | .int i => decide (lo ≤ i) && decide (i ≤ hi)
  | _ => false
@[simp] theorem isFrom_int (i lo hi : Int) : isFrom (.int i) lo hi = (decide (lo ≤ i) && decide (i ≤ hi)) := rfl
theorem ret_if (c : Bool) (b : Bool) (o : List D) : (if c = true then SR.ret ⟨.im, .bl b⟩ o else SR.ret ⟨.im, .bl false⟩ o) = SR.ret ⟨.im, .bl (c && b)⟩ o := by cases c <;> rfl
theorem sem_is_from (d : D) (lo hi : Int) (h : d.known = true) : F_is_from.sem [d, .int lo, .int hi] = .ret ⟨.im, .bl (isFrom d lo hi)⟩ [] := by
  rw [sm_is_from]
  cases d <;> first | (exact absurd h Bool.false_ne_true) | skip
  all_goals simp [b_is_from, D.known, D.isT, ME.pure, MEs.pure, isFrom]
  by_cases q : lo ≤ ‹Int› <;> simp [q]
def isTup (d : D) (lo hi : Int) : Bool := match d with
  | .tup ds => decide (lo ≤ (ds.length : Int)) && decide ((ds.length : Int) ≤ hi)
  | _ => false
theorem sem_is_tuple (d : D) (lo hi : Int) (h : d.known = true) : F_is_tuple.sem [d, .int lo, .int hi] = .ret ⟨.im, .bl (isTup d lo hi)⟩ [] := by
  rw [sm_is_tuple]
  cases d <;> first | (exact absurd h Bool.false_ne_true) | skip
  all_goals simp [b_is_tuple, D.known, D.isT, ME.pure, MEs.pure, isTup]
  rename_i ds
  by_cases q : lo ≤ (ds.length : Int) <;> simp [q]
theorem sem_longest (b : Btn) : F_longest.sem [b.d] = .ret ⟨.im, .int (longest b)⟩ [] := by
  rw [sm_longest]
  simp [b_longest, longest]
theorem loop_size (bd : Brd) : ∀ (bs : List Btn) (s : Int) (j : Option SV), (∀ x ∈ bs, smallI (longest x) = true) → freeO j = true → ∃ j', forR (bindT (.nm 2 false) .im) (exs G_size_of (intC ics) l_size_of_1) (bs.map Btn.d) [some ⟨.vl, bd.d⟩, some ⟨.im, .int s⟩, j] = .ok .nx [some ⟨.vl, bd.d⟩, some ⟨.im, .int (bs.foldl (fun s x => s * longest x) s)⟩, j']
  | [], s, j, _, _ => ⟨j, rfl⟩
  | b :: bs, s, j, h, hj => by
    obtain ⟨j', e⟩ := loop_size bd bs (s * longest b) (some ⟨.im, b.d⟩) (fun x hx => h x (by simp [hx])) rfl
    refine ⟨j', ?_⟩
    rw [List.map_cons, forR_cons]
    have hb := h b (by simp)
    simp [l_size_of_1, sem_longest, hb, hj]
    exact e
def longOk (b : Btn) : Prop := -100 ≤ longest b ∧ longest b ≤ 1000
theorem small_of {i : Int} (h1 : -1000000 ≤ i) (h2 : i ≤ 1000000) : smallI i = true := by
  unfold smallI
  simp
  omega
theorem sem_size_of (bd : Brd) (hl : ∀ x ∈ bd.btns, smallI (longest x) = true) (hp : smallI (bd.pause + 1) = true) : F_size_of.sem [bd.d] = .ret ⟨.im, .int (sizeB bd)⟩ [] := by
  rw [sm_size_of]
  obtain ⟨j', e⟩ := loop_size bd bd.btns ((bd.pause + 1) * (bd.energy + 1)) none hl rfl
  simp [b_size_of, hp, e, sizeB]
end Tx
end

section
set_option Elab.async false
set_option linter.all false
set_option maxRecDepth 100000
set_option maxHeartbeats 2000000
/-! The plain law: boards, plays. -/
namespace Tx
open PySem L2 Ev Pl
def BtnOk (b : Btn) (n m : Nat) : Prop := (1 ≤ b.wait ∧ b.wait ≤ 6) ∧ (0 ≤ b.worth ∧ b.worth ≤ 9) ∧ (0 ≤ b.lasts ∧ b.lasts ≤ 4) ∧ (0 ≤ b.cost ∧ b.cost ≤ 4) ∧ (∀ p, b.partner = some p → 0 ≤ p ∧ p ≤ (m : Int) - 1 ∧ p ≠ n)
@[simp] theorem btn_known (b : Btn) : b.d.known = true := rfl
@[simp] theorem int_known (i : Int) : (D.int i).known = true := rfl
@[simp] theorem opt_known (o : Option Int) : (optD o).known = true := by cases o <;> rfl
theorem sem_is_button (b : Btn) (n m : Nat) (h : BtnOk b n m) : F_is_button.sem [b.d, .int n, .int m] = .ret ⟨.im, .bl true⟩ [] := by
  obtain ⟨h0, h1, h2, h3, h4⟩ := h
  rw [sm_is_button]
  have t : isTup b.d 5 5 = true := rfl
  have k : b.d.known = true := rfl
  have k0 : ∀ i, (D.int i).known = true := fun _ => rfl
  have k2 : (optD b.partner).known = true := opt_known _
  simp [b_is_button, k, k0, k2, sem_is_tuple, sem_is_from, t, h0, h1, h2, h3, ME.pure, MEs.pure]
  cases q : b.partner with
  | none => simp
  | some p =>
    obtain ⟨a1, a2, a3⟩ := h4 p q
    simp [sem_is_from, k0, a1, a2, a3]
structure BrdOk (bd : Brd) : Prop where
  lo : 1 ≤ bd.btns.length
  hi : bd.btns.length ≤ 3
  bt : ∀ (n : Nat) (b : Btn), bd.btns[n]? = some b → BtnOk b n bd.btns.length
  pa : 0 ≤ bd.pause ∧ bd.pause ≤ 3
  en : 0 ≤ bd.energy ∧ bd.energy ≤ 4
  sz : sizeB bd ≤ 400
theorem long_small {b : Btn} {n m : Nat} (h : BtnOk b n m) : smallI (longest b) = true := by
  obtain ⟨h0, h1, h2, h3, h4⟩ := h
  apply small_of <;> unfold longest <;> split <;> omega
theorem BrdOk.small {bd : Brd} (h : BrdOk bd) : ∀ x ∈ bd.btns, smallI (longest x) = true := by
  intro x hx
  obtain ⟨n, hn, e⟩ := List.mem_iff_getElem.1 hx
  exact long_small (h.bt n x (by rw [List.getElem?_eq_getElem hn, e]))
theorem turns_enu (f : D → Option (Option RV)) : ∀ (bs : List Btn) (k : Nat), (∀ i b, bs[i]? = some b → f (.tup [.int (k + i : Nat), b.d]) = some (some ⟨.im, .bl true⟩)) → turns f (enuF k (bs.map Btn.d)) = some (bs.map fun _ => ⟨.im, .bl true⟩)
  | [], k, _ => rfl
  | b :: bs, k, h => by
    have ih := turns_enu f bs (k + 1) fun i b' hb => by
      have := h (i + 1) b' (by simpa using hb)
      rw [show k + 1 + i = k + (i + 1) by omega]
      exact this
    rw [List.map_cons, enuF_cons]
    unfold turns
    have h0 := h 0 b rfl
    rw [Nat.add_zero] at h0
    rw [h0, ih]
    rfl
theorem sem_is_board (bd : Brd) (h : BrdOk bd) : F_is_board.sem [bd.d] = .ret ⟨.im, .bl true⟩ [] := by
  rw [sm_is_board]
  have t : isTup bd.d 3 3 = true := rfl
  have t2 : isTup bd.bs 1 3 = true := by
    have := h.lo
    have := h.hi
    simp [Brd.bs, isTup]
    omega
  have k1 : bd.d.known = true := rfl
  have k2 : bd.bs.known = true := rfl
  have sp : smallI (bd.pause + 1) = true := small_of (by have := h.pa; omega) (by have := h.pa; omega)
  have tu := turns_enu (lczF G_is_board (intC ics) (.call 2 (.cons (.var 2) (.cons (.var 1) (.cons (.bi .len (.cons (.idx (.var 0) (.lit (.int 0))) .nil)) .nil)))) (.tp (.nm 1 false) (.one (.nm 2 false))) .tt .im [some ⟨.vl, bd.d⟩, none, none]) bd.btns 0 fun i b hb => by
    simp [ME.pure, MEs.pure, sem_is_button b i _ (h.bt i b hb)]
  have le := lczE_ims (fun _ : Btn => D.bl true) bd.btns (Nat.le_trans h.hi (by decide))
  have ab : biD .all [⟨.fr, .lst (bd.btns.map fun _ => D.bl true)⟩] = some ⟨.im, .bl true⟩ := by
    have := all_bls (bd.btns.map fun _ => true)
    rw [show (bd.btns.map fun _ => true).all id = true by simp, List.map_map] at this
    exact this
  simp [b_is_board, sem_is_tuple, sem_is_from, t, t2, k1, k2, h.pa, h.en, ME.pure, MEs.pure, MT.pure, sem_size_of bd h.small sp, h.sz]
  rw [tu]
  have k0 : ∀ i, (D.int i).known = true := fun _ => rfl
  have gz : intC ics 0 = some (.int 400) := rfl
  simp [le, ab, sem_is_from, k0, h.pa, h.en, ME.pure, MEs.pure, sem_size_of bd h.small sp, gz, h.sz]
theorem sem_need_board (bd : Brd) (h : BrdOk bd) : F_need_board.sem [bd.d] = .ret ⟨.im, .non⟩ [] := by
  rw [sm_need_board]
  simp [b_need_board, sem_is_board bd h]
theorem nrm_tups {α : Type} (t : RT) (h : α → D) (xs : List α) (hi : ∀ x, (h x).imm = true) : RV.nrm ⟨t, .tup (xs.map h)⟩ = ⟨.im, .tup (xs.map h)⟩ := nrm_of (by rw [imm_tup]; exact immAll_map _ _ fun x _ => hi x)
def begunS (bd : Brd) : Stand := ⟨bd.btns.map longest, 0, bd.energy, 0⟩
/-- a number of a button, or None -/
def knd : Option Nat → D
  | none => .non
  | some k => .int k
@[simp] theorem knd_none : knd none = .non := rfl
@[simp] theorem knd_some (k : Nat) : knd (some k) = .int k := rfl
@[simp] theorem knd_imm (k : Option Nat) : (knd k).imm = true := by cases k <;> rfl
@[simp] theorem nrm_knd (t : RT) (b : Option Nat) : RV.nrm ⟨t, knd b⟩ = ⟨.im, knd b⟩ := nrm_of (knd_imm b)
@[simp] theorem eq_non (i : Int) : eqD (.int i) .non = some false := rfl
def behindL : Nat → Option Nat → List Btn → List Int → List Int
  | i, k, b :: bs, s :: ss => (if k = some i then 1 else if s + 1 < longest b then s + 1 else longest b) :: behindL (i + 1) k bs ss
  | _, _, _, _ => []
end Tx
end

section
set_option Elab.async false
set_option linter.all false
set_option maxRecDepth 100000
set_option maxHeartbeats 2000000
/-! The plain law: draws. -/
namespace Tx
open PySem L2 Ev Pl
def srcD (a b : Int) : D := .lst [.int a, .int b]
def SrcOk (a b : Int) : Prop := 0 ≤ a ∧ 0 ≤ b ∧ b < 2147483587
theorem sem_draw (a b m : Int) (h : SrcOk a b) (hm : 0 < m) (hm2 : m < 1000000) : ∃ r a' b', F__law_draw.sem [srcD a b, .int m] = .ret ⟨.im, .int r⟩ [srcD a' b'] ∧ 0 ≤ r ∧ r < m ∧ SrcOk a' b' := by
  obtain ⟨h1, h2, h3⟩ := h
  have hm3 : m < 1073741824 := by omega
  rw [sm__law_draw]
  by_cases q : 0 < a
  · refine ⟨a % m, a / m, b, ?_, Int.emod_nonneg _ (by omega), Int.emod_lt_of_pos _ hm, Int.ediv_nonneg h1 (by omega), h2, h3⟩
    simp [b__law_draw, srcD, q, hm, hm3, ME.pure, MEs.pure, MT.pure]
  · have hb := Int.emod_nonneg (b * 69621 + 13) (show (2147483587 : Int) ≠ 0 by decide)
    have hb2 := Int.emod_lt_of_pos (b * 69621 + 13) (show (0 : Int) < 2147483587 by decide)
    have s1 : smallI 69621 = true := rfl
    have s2 : smallI ((b * 69621 + 13) % 2147483587) = true := by unfold smallI; simp; omega
    refine ⟨(((b * 69621 + 13) % 2147483587) * (((b * 69621 + 13) % 2147483587) / 9 + 2)) % 2147483563 / 16 % m, a, (b * 69621 + 13) % 2147483587, ?_, Int.emod_nonneg _ (by omega), Int.emod_lt_of_pos _ hm, h1, hb, hb2⟩
    simp [b__law_draw, srcD, q, hm, hm3, s1, s2, ME.pure, MEs.pure, MT.pure]
/-- a source with a bound -/
def SrcB (c a b : Int) : Prop := SrcOk a b ∧ a ≤ c
def dn (c : Int) : Int := if 0 < c then c - 1 else c
theorem SrcB.up {c a b : Int} (h : SrcB (dn c) a b) : SrcB c a b := ⟨h.1, by have := h.2; unfold dn at this; split at this <;> omega⟩
theorem sem_drawB {c : Int} (a b m : Int) (h : SrcB c a b) (hm : 0 < m) (hm2 : m < 1000000) : ∃ r a' b', F__law_draw.sem [srcD a b, .int m] = .ret ⟨.im, .int r⟩ [srcD a' b'] ∧ 0 ≤ r ∧ r < m ∧ SrcB c a' b' ∧ (2 ≤ m → SrcB (dn c) a' b') := by
  obtain ⟨⟨h1, h2, h3⟩, hc⟩ := h
  have hm3 : m < 1073741824 := by omega
  rw [sm__law_draw]
  by_cases q : 0 < a
  · have le : a / m ≤ a := Int.ediv_le_self m h1
    have s0 : 0 ≤ a / m := Int.ediv_nonneg h1 (by omega)
    refine ⟨a % m, a / m, b, ?_, Int.emod_nonneg _ (by omega), Int.emod_lt_of_pos _ hm, ⟨⟨s0, h2, h3⟩, by omega⟩, fun m2 => ⟨⟨s0, h2, h3⟩, ?_⟩⟩
    · simp [b__law_draw, srcD, q, hm, hm3, ME.pure, MEs.pure, MT.pure]
    · have : a / m < a := Int.ediv_lt_self_of_pos_of_ne_one q (by omega)
      unfold dn
      split <;> omega
  · have hb := Int.emod_nonneg (b * 69621 + 13) (show (2147483587 : Int) ≠ 0 by decide)
    have hb2 := Int.emod_lt_of_pos (b * 69621 + 13) (show (0 : Int) < 2147483587 by decide)
    have s1 : smallI 69621 = true := rfl
    have s2 : smallI ((b * 69621 + 13) % 2147483587) = true := by unfold smallI; simp; omega
    refine ⟨(((b * 69621 + 13) % 2147483587) * (((b * 69621 + 13) % 2147483587) / 9 + 2)) % 2147483563 / 16 % m, a, (b * 69621 + 13) % 2147483587, ?_, Int.emod_nonneg _ (by omega), Int.emod_lt_of_pos _ hm, ⟨⟨h1, hb, hb2⟩, hc⟩, fun _ => ⟨⟨h1, hb, hb2⟩, by unfold dn; split <;> omega⟩⟩
    simp [b__law_draw, srcD, q, hm, hm3, s1, s2, ME.pure, MEs.pure, MT.pure]
@[simp] theorem lenD_src (a b : Int) : lenD (srcD a b) = some ⟨.im, .int 2⟩ := rfl
@[simp] theorem nrm_src (t : RT) (a b : Int) : RV.nrm ⟨t, srcD a b⟩ = ⟨t, srcD a b⟩ := by simp [srcD]
theorem sem_choice (a b : Int) (xs : List D) (h : SrcOk a b) (hx : xs ≠ []) (hl : xs.length < 1000000) (hi : ∀ x ∈ xs, x.imm = true) : ∃ x a' b', F__law_choice.sem [srcD a b, .lst xs] = .ret ⟨.im, x⟩ [srcD a' b'] ∧ x ∈ xs ∧ SrcOk a' b' := by
  have l0 : 0 < xs.length := List.length_pos_iff.2 hx
  obtain ⟨r, a', b', e, r0, r1, ok⟩ := sem_draw a b xs.length h (by omega) (by omega)
  obtain ⟨n, rfl⟩ : ∃ n : Nat, r = n := ⟨r.toNat, by omega⟩
  have hn : n < xs.length := by omega
  have hm : xs[n] ∈ xs := List.getElem_mem hn
  refine ⟨xs[n], a', b', ?_, hm, ok⟩
  rw [sm__law_choice]
  have g : atI xs (n : Int) = some xs[n] := by rw [Ev.atI_nat, List.getElem?_eq_getElem hn]
  simp [b__law_choice, e, g, nrm_of (hi _ hm), ME.pure, MEs.pure, MT.pure]
theorem sem_choiceB {c : Int} (a b : Int) (xs : List D) (h : SrcB c a b) (hx : xs ≠ []) (hl : xs.length < 1000000) (hi : ∀ x ∈ xs, x.imm = true) : ∃ x a' b', F__law_choice.sem [srcD a b, .lst xs] = .ret ⟨.im, x⟩ [srcD a' b'] ∧ x ∈ xs ∧ SrcB c a' b' := by
  have l0 : 0 < xs.length := List.length_pos_iff.2 hx
  obtain ⟨r, a', b', e, r0, r1, ok, _⟩ := sem_drawB a b xs.length h (by omega) (by omega)
  obtain ⟨n, rfl⟩ : ∃ n : Nat, r = n := ⟨r.toNat, by omega⟩
  have hn : n < xs.length := by omega
  have hm : xs[n] ∈ xs := List.getElem_mem hn
  refine ⟨xs[n], a', b', ?_, hm, ok⟩
  rw [sm__law_choice]
  have g : atI xs (n : Int) = some xs[n] := by rw [Ev.atI_nat, List.getElem?_eq_getElem hn]
  simp [b__law_choice, e, g, nrm_of (hi _ hm), ME.pure, MEs.pure, MT.pure]
theorem pow17 (t u : RT) : opD .pow ⟨t, .int 10⟩ ⟨u, .int 17⟩ = some ⟨.im, .int 100000000000000000⟩ := by
  have : smallI 10 = true := rfl
  unfold opD
  simp [this]
@[simp] theorem nrm_scr (t : RT) (ns : List Int) : RV.nrm ⟨t, .scr ns⟩ = ⟨.im, .scr ns⟩ := nrm_of (by simp [D.imm])
theorem src_ok (f : List D → SR) (l : List D) (d e : Int) (h : f l = .ret ⟨.fr, srcD d (e % 2147483587)⟩ []) (hd : 0 ≤ d) : ∃ a b, f l = .ret ⟨.fr, srcD a b⟩ [] ∧ SrcOk a b := ⟨d, _, h, hd, Int.emod_nonneg _ (by decide), Int.emod_lt_of_pos _ (by decide)⟩
theorem source1 (ns : List Int) (k : Nat) (c : Int) (g : atI ns k = some c) (d : Int) (q' : (k : Int) < ns.length) (hc : (if c < 0 then -c else c) = d) (r : 100000000000000000 < d) : F__law_source.sem [.scr ns, .int k] = .ret ⟨.fr, srcD d ((d * 48271 + 5003 * k + 7) % 2147483587)⟩ [] := by
  have s1 : smallI 48271 = true := rfl
  have s2 : smallI 5003 = true := rfl
  rw [sm__law_source]
  simp [b__law_source, g, q', s1, s2, pow17, srcD, hc, r, ME.pure, MEs.pure, MT.pure]
theorem source2 (ns : List Int) (k : Nat) (c : Int) (g : atI ns k = some c) (d : Int) (q' : (k : Int) < ns.length) (hc : (if c < 0 then -c else c) = d) (r : ¬ 100000000000000000 < d) : F__law_source.sem [.scr ns, .int k] = .ret ⟨.fr, srcD 0 ((d * 48271 + 5003 * k + 7) % 2147483587)⟩ [] := by
  have s1 : smallI 48271 = true := rfl
  have s2 : smallI 5003 = true := rfl
  rw [sm__law_source]
  simp [b__law_source, g, q', s1, s2, pow17, srcD, hc, r, ME.pure, MEs.pure, MT.pure]
theorem source3 (ns : List Int) (k : Nat) (d : Int) (q' : ¬ (k : Int) < ns.length) (hc : (37 * k + 11 : Int) = d) (r : 100000000000000000 < d) : F__law_source.sem [.scr ns, .int k] = .ret ⟨.fr, srcD d ((d * 48271 + 5003 * k + 7) % 2147483587)⟩ [] := by
  have s1 : smallI 48271 = true := rfl
  have s2 : smallI 5003 = true := rfl
  have s3 : smallI 37 = true := rfl
  rw [sm__law_source]
  simp [b__law_source, q', s1, s2, s3, pow17, srcD, hc, r, ME.pure, MEs.pure, MT.pure]
theorem source4 (ns : List Int) (k : Nat) (d : Int) (q' : ¬ (k : Int) < ns.length) (hc : (37 * k + 11 : Int) = d) (r : ¬ 100000000000000000 < d) : F__law_source.sem [.scr ns, .int k] = .ret ⟨.fr, srcD 0 ((d * 48271 + 5003 * k + 7) % 2147483587)⟩ [] := by
  have s1 : smallI 48271 = true := rfl
  have s2 : smallI 5003 = true := rfl
  have s3 : smallI 37 = true := rfl
  rw [sm__law_source]
  simp [b__law_source, q', s1, s2, s3, pow17, srcD, hc, r, ME.pure, MEs.pure, MT.pure]
theorem sem_source (ns : List Int) (k : Nat) : ∃ a b, F__law_source.sem [.scr ns, .int k] = .ret ⟨.fr, srcD a b⟩ [] ∧ SrcOk a b := by
  rcases Nat.lt_or_ge k ns.length with q | q
  · have g : atI ns (k : Int) = some ns[k] := by rw [Ev.atI_nat, List.getElem?_eq_getElem q]
    have q' : (k : Int) < ns.length := Int.ofNat_lt.2 q
    rcases Decidable.em (100000000000000000 < (if ns[k] < 0 then -ns[k] else ns[k])) with r | r
    · exact src_ok _ _ _ _ (source1 ns k _ g _ q' rfl r) (Int.le_of_lt (Int.lt_trans (by decide) r))
    · exact src_ok _ _ _ _ (source2 ns k _ g _ q' rfl r) (Int.le_refl 0)
  · have q' : ¬ ((k : Int) < ns.length) := fun h => absurd (Int.ofNat_lt.1 h) (Nat.not_lt.2 q)
    rcases Decidable.em ((100000000000000000 : Int) < 37 * k + 11) with r | r
    · exact src_ok _ _ _ _ (source3 ns k _ q' rfl r) (Int.le_of_lt (Int.lt_trans (by decide) r))
    · exact src_ok _ _ _ _ (source4 ns k _ q' rfl r) (Int.le_refl 0)
theorem loop__size (bd : Brd) : ∀ (bs : List Btn) (s : Int) (j2 j3 j4 j5 j6 : Option SV), (∀ x ∈ bs, smallI (longest x) = true) → freeO j2 = true → freeO j3 = true → freeO j4 = true → freeO j5 = true → freeO j6 = true → ∃ j2' j3' j4' j5' j6', forR (bindT (.tp (.nm 2 false) (.tp (.nm 3 false) (.tp (.nm 4 false) (.tp (.nm 5 false) (.one (.nm 6 false)))))) .im) (exs G__law_size (intC ics) l__law_size_1) (bs.map Btn.d) [some ⟨.vl, bd.d⟩, some ⟨.im, .int s⟩, j2, j3, j4, j5, j6] = .ok .nx [some ⟨.vl, bd.d⟩, some ⟨.im, .int (bs.foldl (fun s x => s * longest x) s)⟩, j2', j3', j4', j5', j6']
  | [], s, j2, j3, j4, j5, j6, _, _, _, _, _, _ => ⟨j2, j3, j4, j5, j6, rfl⟩
  | b :: bs, s, j2, j3, j4, j5, j6, h, h2, h3, h4, h5, h6 => by
    obtain ⟨j2', j3', j4', j5', j6', e⟩ := loop__size bd bs (s * longest b) (some ⟨.im, .int b.wait⟩) (some ⟨.im, .int b.worth⟩) (some ⟨.im, .int b.lasts⟩) (some ⟨.im, .int b.cost⟩) (some ⟨.im, optD b.partner⟩) (fun x hx => h x (by simp [hx])) rfl rfl rfl rfl rfl
    refine ⟨j2', j3', j4', j5', j6', ?_⟩
    rw [List.map_cons, forR_cons]
    have hb := h b (by simp)
    have d0 : b.d = .tup [.int b.wait, .int b.worth, .int b.lasts, .int b.cost, optD b.partner] := rfl
    rw [d0]
    unfold longest at hb
    simp [l__law_size_1, hb, h2, h3, h4, h5, h6, ME.pure, MEs.pure, MT.pure]
    simp [l__law_size_1, longest] at e
    exact e
theorem sem__size (bd : Brd) (hl : ∀ x ∈ bd.btns, smallI (longest x) = true) (hp : smallI (bd.pause + 1) = true) : F__law_size.sem [bd.d] = .ret ⟨.im, .int (sizeB bd)⟩ [] := by
  rw [sm__law_size]
  obtain ⟨j2, j3, j4, j5, j6, e⟩ := loop__size bd bd.btns ((bd.pause + 1) * (bd.energy + 1)) none none none none none hl rfl rfl rfl rfl rfl
  simp [b__law_size, hp, e, sizeB]
end Tx
end

section
set_option Elab.async false
set_option linter.all false
set_option maxRecDepth 100000
set_option maxHeartbeats 2000000
/-! The plain law: board. -/
namespace Tx
open PySem L2 Ev Pl
/-- a drawn button -/
def BtnDr (b : Btn) (n m : Nat) : Prop := (1 ≤ b.wait ∧ b.wait ≤ 5) ∧ (0 ≤ b.worth ∧ b.worth ≤ 9) ∧ (0 ≤ b.lasts ∧ b.lasts ≤ 3) ∧ (0 ≤ b.cost ∧ b.cost ≤ 2) ∧ (∀ p, b.partner = some p → 0 ≤ p ∧ p ≤ (m : Int) - 1 ∧ p ≠ n)
theorem filt_len (m k : Nat) : ((List.range m).filter fun i : Nat => !(decide ((i : Int) = k))).length ≤ m := by
  have := List.length_filter_le (fun i : Nat => !(decide ((i : Int) = k))) (List.range m)
  rw [List.length_range] at this
  exact this
def others (m k : Nat) : List D := ((List.range m).filter fun i : Nat => !(decide ((i : Int) = k))).map (fun i : Nat => D.int i)
theorem pick_partner {c : Int} (a b : Int) (m k : Nat) (hm : m ≤ 3) (ok : SrcB c a b) : ∃ p a' b', F__law_choice.sem [srcD a b, .lst (others m k ++ [.non])] = .ret ⟨.im, optD p⟩ [srcD a' b'] ∧ (∀ i, p = some i → 0 ≤ i ∧ i ≤ (m : Int) - 1 ∧ i ≠ k) ∧ SrcB c a' b' := by
  have l := filt_len m k
  obtain ⟨xp, a1, b1, e1, m1, ok1⟩ := sem_choiceB a b (others m k ++ [.non]) ok (by simp) (by
      rw [List.length_append]
      unfold others
      rw [List.length_map, List.length_singleton]
      omega) (fun x hx => by
      rcases List.mem_append.1 hx with h | h
      · obtain ⟨i, _, rfl⟩ := List.mem_map.1 h
        rfl
      · rw [List.mem_singleton] at h
        subst h
        rfl)
  rcases List.mem_append.1 m1 with h | h
  · obtain ⟨i, hi, rfl⟩ := List.mem_map.1 h
    simp at hi
    exact ⟨some i, a1, b1, e1, fun j hj => (by cases hj; omega), ok1⟩
  · rw [List.mem_singleton] at h
    subst h
    exact ⟨none, a1, b1, e1, fun j hj => (nomatch hj), ok1⟩
theorem pick_ints (a b : Int) (is : List Int) (lo hi : Int) (ok : SrcOk a b) (h0 : is ≠ []) (hl : is.length < 100) (hb : ∀ i ∈ is, lo ≤ i ∧ i ≤ hi) : ∃ i a' b', F__law_choice.sem [srcD a b, .lst (is.map D.int)] = .ret ⟨.im, .int i⟩ [srcD a' b'] ∧ (lo ≤ i ∧ i ≤ hi) ∧ SrcOk a' b' := by
  obtain ⟨xp, a1, b1, e1, m1, ok1⟩ := sem_choice a b (is.map D.int) ok (by simpa using h0) (by rw [List.length_map]; omega) (fun x hx => by
      obtain ⟨i, _, rfl⟩ := List.mem_map.1 hx
      rfl)
  obtain ⟨i, hi, rfl⟩ := List.mem_map.1 m1
  exact ⟨i, a1, b1, e1, hb i hi, ok1⟩
theorem pick_intsB {c : Int} (a b : Int) (is : List Int) (lo hi : Int) (ok : SrcB c a b) (h0 : is ≠ []) (hl : is.length < 100) (hb : ∀ i ∈ is, lo ≤ i ∧ i ≤ hi) : ∃ i a' b', F__law_choice.sem [srcD a b, .lst (is.map D.int)] = .ret ⟨.im, .int i⟩ [srcD a' b'] ∧ (lo ≤ i ∧ i ≤ hi) ∧ SrcB c a' b' := by
  obtain ⟨xp, a1, b1, e1, m1, ok1⟩ := sem_choiceB a b (is.map D.int) ok (by simpa using h0) (by rw [List.length_map]; omega) (fun x hx => by
      obtain ⟨i, _, rfl⟩ := List.mem_map.1 hx
      rfl)
  obtain ⟨i, hi, rfl⟩ := List.mem_map.1 m1
  exact ⟨i, a1, b1, e1, hb i hi, ok1⟩
theorem board1_step {c : Int} (m k : Nat) (hk : k < m) (hm : m ≤ 3) (M F T : Option SV) (a b : Int) (bs : List Btn) (j7 j8 j9 : Option SV) (ok : SrcB c a b) (hn : bs.length = k) (h7 : freeO j7 = true) (h8 : freeO j8 = true) (h9 : freeO j9 = true) : ∃ a' b' x j7' j8' j9', exs G__law_board (intC ics) l__law_board_1 [some ⟨.rf, srcD a b⟩, M, some ⟨.im, .int m⟩, F, T, some ⟨.mu, .lst (bs.map Btn.d)⟩, some ⟨.im, .int k⟩, j7, j8, j9, none] = .ok .nx [some ⟨.rf, srcD a' b'⟩, M, some ⟨.im, .int m⟩, F, T, some ⟨.mu, .lst ((bs ++ [x]).map Btn.d)⟩, some ⟨.im, .int k⟩, j7', j8', j9', none] ∧ SrcB (dn c) a' b' ∧ BtnDr x k m ∧ freeO j7' = true ∧ freeO j8' = true ∧ freeO j9' = true := by
  have tu := turns_filter (lczF G__law_board (intC ics) (.var 10) (.nm 10 false) (.val (.cmp .ne (.var 10) (.var 6))) .im [some ⟨.rf, srcD a b⟩, M, some ⟨.im, .int m⟩, F, T, some ⟨.mu, .lst (bs.map Btn.d)⟩, some ⟨.im, .int k⟩, j7, j8, j9, none]) (fun i : Nat => D.int i) (fun i : Nat => D.int i) (fun i : Nat => !(decide ((i : Int) = k))) (List.range m) fun i hi => by
      simp [ME.pure, MEs.pure]
      split <;> rfl
  have le := lczE_ims (fun i : Nat => D.int i) ((List.range m).filter fun i : Nat => !(decide ((i : Int) = k))) (Nat.le_trans (filt_len m k) (Nat.le_trans hm (by decide)))
  change lczE _ = some ⟨.fr, .lst (others m k)⟩ at le
  obtain ⟨p, a1, b1, e1, hp, ok1⟩ := pick_partner a b m k hm ok
  obtain ⟨r1, a2, b2, e2, r10, r11, _, ok2'⟩ := sem_drawB a1 b1 5 ok1 (by decide) (by decide)
  have ok2 := ok2' (by decide)
  obtain ⟨r2, a3, b3, e3, r20, r21, ok3, _⟩ := sem_drawB a2 b2 10 ok2 (by decide) (by decide)
  obtain ⟨r4, a4, b4, e4, q4, ok4⟩ := pick_intsB a3 b3 [0, 0, 1, 2, 3] 0 3 ok3 (by simp) (by decide) (by decide)
  obtain ⟨r5, a5, b5, e5, q5, ok5⟩ := pick_intsB a4 b4 [0, 0, 0, 1, 2] 0 2 ok4 (by simp) (by decide) (by decide)
  have nb : BtnDr ⟨1 + r1, r2, r4, r5, p⟩ k m := ⟨⟨by show 1 ≤ 1 + r1; omega, by show 1 + r1 ≤ 5; omega⟩, ⟨r20, by show r2 ≤ 9; omega⟩, q4, q5, hp⟩
  refine ⟨a5, b5, ⟨1 + r1, r2, r4, r5, p⟩, some ⟨.vl, .lst (others m k)⟩, some ⟨.im, optD p⟩, some ⟨.im, .tup [.int (1 + r1), .int r2, .int r4]⟩, ?_, ok5, nb, rfl, rfl, rfl⟩
  have hm2 : (m : Int) ≤ 3 := by omega
  have r2' : (m : Int) < 1000000000 := by omega
  have lb : bs.length < big := Nat.lt_of_lt_of_le (show bs.length < 4 by omega) (by decide)
  simp at e4 e5
  have ol : (others m k).length + 1 ≤ big := Nat.le_trans (Nat.succ_le_succ (show (others m k).length ≤ 3 by
    unfold others
    rw [List.length_map]
    exact Nat.le_trans (filt_len m k) hm)) (by decide)
  have o5 : 5 ≤ big := by decide
  simp -implicitDefEqProofs [l__law_board_1, h7, h8, h9, r2', ME.pure, MEs.pure, MT.pure]
  rw [tu]
  simp -implicitDefEqProofs [le, e1, e2, e3, e4, e5, h7, h8, h9, lb, ol, o5, ME.pure, MEs.pure, MT.pure, Btn.d]
end Tx
end

section
set_option Elab.async false
set_option linter.all false
set_option maxRecDepth 100000
set_option maxHeartbeats 2000000
/-! The plain law: board. -/
namespace Tx
open PySem L2 Ev Pl
theorem loop_board1 (m : Nat) (hm : m ≤ 3) (M F T : Option SV) : ∀ (l : List Nat) (n : Nat) (c a b : Int) (bs : List Btn) (j6 j7 j8 j9 : Option SV), SrcB c a b → l = (List.range' n (m - n)) → bs.length = n → n ≤ m → (∀ i x, bs[i]? = some x → BtnDr x i m) → freeO j6 = true → freeO j7 = true → freeO j8 = true → freeO j9 = true → ∃ (a' b' : Int) (bs' : List Btn) (j6' j7' j8' j9' : Option SV), forR (bindT (.nm 6 false) .im) (exs G__law_board (intC ics) l__law_board_1) (l.map fun (i : Nat) => D.int i) [some ⟨.rf, srcD a b⟩, M, some ⟨.im, .int m⟩, F, T, some ⟨.mu, .lst (bs.map Btn.d)⟩, j6, j7, j8, j9, none] = .ok .nx [some ⟨.rf, srcD a' b'⟩, M, some ⟨.im, .int m⟩, F, T, some ⟨.mu, .lst (bs'.map Btn.d)⟩, j6', j7', j8', j9', none] ∧ SrcB c a' b' ∧ (l ≠ [] → SrcB (dn c) a' b') ∧ bs'.length = m ∧ (∀ i x, bs'[i]? = some x → BtnDr x i m) ∧ freeO j6' = true ∧ freeO j7' = true ∧ freeO j8' = true ∧ freeO j9' = true
  | [], n, c, a, b, bs, j6, j7, j8, j9, ok, hl, hn, hnm, hb, h6, h7, h8, h9 => by
    refine ⟨a, b, bs, j6, j7, j8, j9, rfl, ok, fun h => absurd rfl h, ?_, hb, h6, h7, h8, h9⟩
    have := congrArg List.length hl
    rw [List.length_range'] at this
    simp at this
    omega
  | k :: l, n, c, a, b, bs, j6, j7, j8, j9, ok, hl, hn, hnm, hb, h6, h7, h8, h9 => by
    have hlen := congrArg List.length hl
    rw [List.length_range'] at hlen
    simp at hlen
    have hnm : n < m := by omega
    rw [show m - n = (m - (n + 1)) + 1 by omega, List.range'_succ] at hl
    obtain ⟨rfl, hl⟩ := List.cons.inj hl
    obtain ⟨a1, b1, x, j7a, j8a, j9a, e, ok1, nb, f7, f8, f9⟩ := board1_step m k hnm hm M F T a b bs j7 j8 j9 ok hn h7 h8 h9
    obtain ⟨a', b', bs', j6', j7', j8', j9', e', ok', _, R⟩ := loop_board1 m hm M F T l (k + 1) (dn c) a1 b1 (bs ++ [x]) (some ⟨.im, .int k⟩) j7a j8a j9a ok1 hl (by rw [List.length_append, hn]; rfl) hnm (fun i y hy => by
      rw [List.getElem?_append] at hy
      split at hy
      · exact hb i y hy
      · rename_i hi
        rcases Nat.lt_or_ge i (bs.length + 1) with h | h
        · have hi2 : i = k := by omega
          subst hi2
          rw [hn, Nat.sub_self] at hy
          cases hy
          exact nb
        · rw [List.getElem?_eq_none (by show 1 ≤ i - bs.length; omega)] at hy
          cases hy) rfl f7 f8 f9
    refine ⟨a', b', bs', j6', j7', j8', j9', ?_, ok'.up, fun _ => ok', R⟩
    rw [List.map_cons, forR_cons]
    simp -implicitDefEqProofs [h6, e]
    simp -implicitDefEqProofs at e'
    exact e'
/-- a drawn board -/
structure BrdDr (bd : Brd) (m : Nat) : Prop where
  le : bd.btns.length = m
  bt : ∀ (n : Nat) (b : Btn), bd.btns[n]? = some b → BtnDr b n m
  pa : 0 ≤ bd.pause ∧ bd.pause ≤ 2
  en : 0 ≤ bd.energy ∧ bd.energy ≤ 3
theorem bd_snoc (bd : Brd) : bd.d = .tup [.tup (bd.btns.map Btn.d), .int bd.pause, .int bd.energy] := rfl
theorem nrm_bts (t : RT) (bs : List Btn) : RV.nrm ⟨t, .tup (bs.map Btn.d)⟩ = ⟨.im, .tup (bs.map Btn.d)⟩ := nrm_tups t Btn.d bs fun _ => Btn.imm _
def grow (a most : Int) : Int := if a = 0 then (if most + 5 < 400 then most + 5 else 400) else most
theorem board2_step {c : Int} (m n : Nat) (h1 : 1 ≤ m) (hm : m ≤ 3) (most : Int) (t : ST) (ht : ∀ d, freeO (some ⟨t, d⟩) = true) (a b : Int) (F B j6 j7 j8 j9 : Option SV) (ok : SrcB c a b) (hF : freeO F = true) (hB : freeO B = true) (h6 : freeO j6 = true) (h7 : freeO j7 = true) (h8 : freeO j8 = true) (h9 : freeO j9 = true) : ∃ (a' b' : Int) (bd : Brd) (t' : ST) (B' j6' j7' j8' j9' : Option SV), exs G__law_board (intC ics) l__law_board_2 [some ⟨.rf, srcD a b⟩, some ⟨t, .int most⟩, some ⟨.im, .int m⟩, F, some ⟨.im, .int n⟩, B, j6, j7, j8, j9, none] = .ok .nx [some ⟨.rf, srcD a' b'⟩, some ⟨t', .int (grow a' most)⟩, some ⟨.im, .int ((if n + 1 < 40 then m else 1 : Nat))⟩, some ⟨.im, bd.d⟩, some ⟨.im, .int ((n + 1 : Nat))⟩, B', j6', j7', j8', j9', none] ∧ SrcB (dn c) a' b' ∧ BrdDr bd m ∧ (∀ d, freeO (some ⟨t', d⟩) = true) ∧ freeO B' = true ∧ freeO j6' = true ∧ freeO j7' = true ∧ freeO j8' = true ∧ freeO j9' = true := by
  obtain ⟨a1, b1, bs, k6, k7, k8, k9, e, _, ok1', hl, hb, f6, f7, f8, f9⟩ := loop_board1 m hm (some ⟨t, .int most⟩) F (some ⟨.im, .int n⟩) (List.range m) 0 c a b [] j6 j7 j8 j9 ok (by rw [List.range_eq_range']; rfl) rfl (by omega) (fun i x h => by cases h) h6 h7 h8 h9
  have ok1 := ok1' (by
    intro h
    have := congrArg List.length h
    rw [List.length_range] at this
    simp at this
    omega)
  obtain ⟨r4, a4, b4, e4, q4, ok4⟩ := pick_intsB a1 b1 [0, 0, 1, 2] 0 2 ok1 (by simp) (by decide) (by decide)
  obtain ⟨r5, a5, b5, e5, q5, ok5⟩ := pick_intsB a4 b4 [0, 0, 1, 2, 3] 0 3 ok4 (by simp) (by decide) (by decide)
  have r2' : (m : Int) < 1000000000 := by omega
  have o5 : 5 ≤ big := by decide
  simp at e4 e5
  rw [List.map_nil] at e
  have i0 : ∀ (t : RT) (x y : Int), idxD ⟨t, srcD x y⟩ (.int 0) = some ⟨t, .int x⟩ := fun _ _ _ => rfl
  by_cases q2 : n + 1 < 40
  · have q3 : (n : Int) + 1 < 40 := by omega
    rw [if_pos q2]
    by_cases q : a5 = 0
    · refine ⟨a5, b5, ⟨bs, r4, r5⟩, .im, some ⟨.mu, .lst (bs.map Btn.d)⟩, k6, k7, k8, k9, ?_, ok5, ⟨hl, hb, q4, q5⟩, fun _ => rfl, rfl, f6, f7, f8, f9⟩
      simp -implicitDefEqProofs [l__law_board_2, hB, hF, r2', e, e4, e5, ME.pure, MEs.pure, MT.pure, i0, q, q3, ht, bd_snoc, nrm_bts, grow]
    · refine ⟨a5, b5, ⟨bs, r4, r5⟩, t, some ⟨.mu, .lst (bs.map Btn.d)⟩, k6, k7, k8, k9, ?_, ok5, ⟨hl, hb, q4, q5⟩, ht, rfl, f6, f7, f8, f9⟩
      simp -implicitDefEqProofs [l__law_board_2, hB, hF, r2', e, e4, e5, ME.pure, MEs.pure, MT.pure, i0, q, q3, ht, bd_snoc, nrm_bts, grow]
  · have q3 : ¬ (n : Int) + 1 < 40 := by omega
    rw [if_neg q2]
    by_cases q : a5 = 0
    · refine ⟨a5, b5, ⟨bs, r4, r5⟩, .im, some ⟨.mu, .lst (bs.map Btn.d)⟩, k6, k7, k8, k9, ?_, ok5, ⟨hl, hb, q4, q5⟩, fun _ => rfl, rfl, f6, f7, f8, f9⟩
      simp -implicitDefEqProofs [l__law_board_2, hB, hF, r2', e, e4, e5, ME.pure, MEs.pure, MT.pure, i0, q, q3, ht, bd_snoc, nrm_bts, grow]
    · refine ⟨a5, b5, ⟨bs, r4, r5⟩, t, some ⟨.mu, .lst (bs.map Btn.d)⟩, k6, k7, k8, k9, ?_, ok5, ⟨hl, hb, q4, q5⟩, ht, rfl, f6, f7, f8, f9⟩
      simp -implicitDefEqProofs [l__law_board_2, hB, hF, r2', e, e4, e5, ME.pure, MEs.pure, MT.pure, i0, q, q3, ht, bd_snoc, nrm_bts, grow]
theorem whl_false {c : En → R Bool} {b : En → R Ev.Flow} {ρ ρ1 : En} (h : c ρ = .ok false ρ1) : loopR (whlS c b) ρ = .ok .nx ρ1 := by
  rw [loopR_eq]
  unfold whlS
  rw [h]
theorem whl_true {c : En → R Bool} {b : En → R Ev.Flow} {ρ ρ1 ρ2 : En} (h : c ρ = .ok true ρ1) (h2 : b ρ1 = .ok .nx ρ2) : loopR (whlS c b) ρ = loopR (whlS c b) ρ2 := by
  rw [loopR_eq]
  have : whlS c b ρ = .inr ρ2 := by
    unfold whlS
    rw [h]
    dsimp only
    rw [h2]
  rw [this]
theorem dr_long {b : Btn} {n m : Nat} (h : BtnDr b n m) : 1 ≤ longest b ∧ longest b ≤ 5 := by
  obtain ⟨h0, h1, h2, h3, h4⟩ := h
  unfold longest
  split <;> omega
theorem dr_small {bd : Brd} {m : Nat} (h : BrdDr bd m) : ∀ x ∈ bd.btns, smallI (longest x) = true := by
  intro x hx
  obtain ⟨n, hn, e⟩ := List.mem_iff_getElem.1 hx
  obtain ⟨l1, l2⟩ := dr_long (h.bt n x (by rw [List.getElem?_eq_getElem hn, e]))
  exact small_of (by omega) (by omega)
theorem dr_ok {bd : Brd} {m : Nat} (h : BrdDr bd m) (h1 : 1 ≤ m) (h3 : m ≤ 3) (hs : sizeB bd ≤ 400) : BrdOk bd where
  lo := by rw [h.le]; exact h1
  hi := by rw [h.le]; exact h3
  bt := fun n b hb => by
    obtain ⟨q0, q1, q2, q3, q4⟩ := h.bt n b hb
    refine ⟨⟨q0.1, by omega⟩, q1, ⟨q2.1, by omega⟩, ⟨q3.1, by omega⟩, ?_⟩
    rw [h.le]
    exact q4
  pa := ⟨h.pa.1, by have := h.pa.2; omega⟩
  en := ⟨h.en.1, by have := h.en.2; omega⟩
  sz := hs
theorem size_one {bd : Brd} (h : BrdDr bd 1) : sizeB bd ≤ 400 := by
  have hl := h.le
  match hb : bd.btns, hl with
  | [x], _ =>
    obtain ⟨l1, l2⟩ := dr_long (h.bt 0 x (by rw [hb]; rfl))
    unfold sizeB
    rw [hb]
    show (bd.pause + 1) * (bd.energy + 1) * longest x ≤ 400
    have hp := h.pa
    have he := h.en
    have p3 : bd.pause = 0 ∨ bd.pause = 1 ∨ bd.pause = 2 := by omega
    have e4 : bd.energy = 0 ∨ bd.energy = 1 ∨ bd.energy = 2 ∨ bd.energy = 3 := by omega
    rcases p3 with p | p | p <;> rcases e4 with e | e | e | e <;> rw [p, e] <;> omega
theorem isNon_brd (bd : Brd) : isNonD bd.d = some false := rfl
theorem loop_while : ∀ (f n m : Nat) (a b most : Int) (t : ST) (F : D) (B j6 j7 j8 j9 : Option SV), a.toNat + (400 - most).toNat + (41 - n) ≤ f → 0 ≤ most → most ≤ 400 → 1 ≤ m → m ≤ 3 → (40 ≤ n → m = 1) → (F = .non ∨ ∃ bd m', F = bd.d ∧ BrdDr bd m' ∧ 1 ≤ m' ∧ m' ≤ 3 ∧ (41 ≤ n → sizeB bd ≤ 400)) → (F = .non → n = 0) → SrcOk a b → (∀ d, freeO (some ⟨t, d⟩) = true) → freeO B = true → freeO j6 = true → freeO j7 = true → freeO j8 = true → freeO j9 = true → ∃ (a' b' : Int) (bd : Brd) (x1 x2 x4 x5 x6 x7 x8 x9 : Option SV), loopR (whlS (evt G__law_board (intC ics) w__law_board_2) (exs G__law_board (intC ics) l__law_board_2)) [some ⟨.rf, srcD a b⟩, some ⟨t, .int most⟩, some ⟨.im, .int m⟩, some ⟨.im, F⟩, some ⟨.im, .int n⟩, B, j6, j7, j8, j9, none] = .ok .nx [some ⟨.rf, srcD a' b'⟩, x1, x2, some ⟨.im, bd.d⟩, x4, x5, x6, x7, x8, x9, none] ∧ SrcOk a' b' ∧ BrdOk bd := by
  intro f
  induction f using Nat.strongRecOn with
  | _ f ih =>
    intro n m a b most t F B j6 j7 j8 j9 hf hm0 hm4 h1 h3 h40 hF hF0 ok ht hB h6 h7 h8 h9
    have go : (41 ≤ n → a = 0 → most < 400) → (evt G__law_board (intC ics) w__law_board_2 [some ⟨.rf, srcD a b⟩, some ⟨t, .int most⟩, some ⟨.im, .int m⟩, some ⟨.im, F⟩, some ⟨.im, .int n⟩, B, j6, j7, j8, j9, none] = .ok true [some ⟨.rf, srcD a b⟩, some ⟨t, .int most⟩, some ⟨.im, .int m⟩, some ⟨.im, F⟩, some ⟨.im, .int n⟩, B, j6, j7, j8, j9, none]) → ∃ (a' b' : Int) (bd : Brd) (x1 x2 x4 x5 x6 x7 x8 x9 : Option SV), loopR (whlS (evt G__law_board (intC ics) w__law_board_2) (exs G__law_board (intC ics) l__law_board_2)) [some ⟨.rf, srcD a b⟩, some ⟨t, .int most⟩, some ⟨.im, .int m⟩, some ⟨.im, F⟩, some ⟨.im, .int n⟩, B, j6, j7, j8, j9, none] = .ok .nx [some ⟨.rf, srcD a' b'⟩, x1, x2, some ⟨.im, bd.d⟩, x4, x5, x6, x7, x8, x9, none] ∧ SrcOk a' b' ∧ BrdOk bd := fun hlt et => by
      obtain ⟨a1, b1, bd, t', B', k6, k7, k8, k9, e, ok1, dr, ht', hB', f6, f7, f8, f9⟩ := board2_step (c := a) m n h1 h3 most t ht a b (some ⟨.im, F⟩) B j6 j7 j8 j9 ⟨ok, Int.le_refl a⟩ rfl hB h6 h7 h8 h9
      have a0 := ok.1
      have a10 := ok1.1.1
      have a1d := ok1.2
      have g0 : most ≤ grow a1 most := by unfold grow; split <;> (try split) <;> omega
      have g4 : grow a1 most ≤ 400 := by unfold grow; split <;> (try split) <;> omega
      have gl : a1 = 0 → most < 400 → most < grow a1 most := by intro h h'; unfold grow; rw [if_pos h]; split <;> omega
      have dc : a1.toNat + (400 - grow a1 most).toNat + (41 - (n + 1)) < f := by
        unfold dn at a1d
        by_cases q : 41 ≤ n
        · split at a1d
          · omega
          · have z : a = 0 := by omega
            have z1 : a1 = 0 := by omega
            have := gl z1 (hlt q z)
            omega
        · split at a1d <;> omega
      obtain ⟨a', b', bd', x1, x2, x4, x5, x6, x7, x8, x9, e', R⟩ := ih _ dc (n + 1) (if n + 1 < 40 then m else 1) a1 b1 (grow a1 most) t' bd.d B' k6 k7 k8 k9 (Nat.le_refl _) (by omega) g4 (by split <;> omega) (by split <;> omega) (fun h => if_neg (by omega)) (.inr ⟨bd, m, rfl, dr, h1, h3, fun h => by
        have := h40 (by omega)
        subst this
        exact size_one dr⟩) (fun h => by cases h) ok1.1 ht' hB' f6 f7 f8 f9
      exact ⟨a', b', bd', x1, x2, x4, x5, x6, x7, x8, x9, (whl_true et e).trans e', R⟩
    rcases hF with rfl | ⟨bd, m', rfl, dr, m1, m3, hs⟩
    · have n0 := hF0 rfl
      refine go (fun h => by omega) ?_
      simp -implicitDefEqProofs [w__law_board_2, ME.pure, MEs.pure, MT.pure]
    · have sp : smallI (bd.pause + 1) = true := small_of (by have := dr.pa; omega) (by have := dr.pa; omega)
      rcases Decidable.em (most < sizeB bd) with sz | sz
      · refine go (fun h _ => by have := hs h; omega) ?_
        simp -implicitDefEqProofs [w__law_board_2, isNon_brd, sem__size bd (dr_small dr) sp, sz, ME.pure, MEs.pure, MT.pure]
      · refine ⟨a, b, bd, some ⟨t, .int most⟩, some ⟨.im, .int m⟩, some ⟨.im, .int n⟩, B, j6, j7, j8, j9, whl_false ?_, ok, dr_ok dr m1 m3 (by omega)⟩
        have sz' : ¬ most < sizeB bd := sz
        simp -implicitDefEqProofs [w__law_board_2, isNon_brd, sem__size bd (dr_small dr) sp, sz', sz, ME.pure, MEs.pure, MT.pure]
theorem sem_boardM (most : Int) (m0 : 0 ≤ most) (m4 : most ≤ 400) (a b : Int) (ok : SrcOk a b) : ∃ (bd : Brd) (a' b' : Int), F__law_board.sem [srcD a b, .int most] = .ret ⟨.im, bd.d⟩ [srcD a' b'] ∧ SrcOk a' b' ∧ BrdOk bd := by
  have fin : ∀ (xs : List Int), xs ≠ [] → xs.length < 100 → (∀ i ∈ xs, 1 ≤ i ∧ i ≤ 3) → ∃ (n : Nat) (a1 b1 : Int) (bd : Brd) (a' b' : Int) (x1 x2 x4 x5 x6 x7 x8 x9 : Option SV), F__law_choice.sem [srcD a b, .lst (xs.map D.int)] = .ret ⟨.im, .int n⟩ [srcD a1 b1] ∧ loopR (whlS (evt G__law_board (intC ics) w__law_board_2) (exs G__law_board (intC ics) l__law_board_2)) [some ⟨.rf, srcD a1 b1⟩, some ⟨.vl, .int most⟩, some ⟨.im, .int n⟩, some ⟨.im, .non⟩, some ⟨.im, .int 0⟩, none, none, none, none, none, none] = .ok .nx [some ⟨.rf, srcD a' b'⟩, x1, x2, some ⟨.im, bd.d⟩, x4, x5, x6, x7, x8, x9, none] ∧ SrcOk a' b' ∧ BrdOk bd := fun xs hx hl hi => by
    obtain ⟨m, a1, b1, e1, hm, ok1⟩ := pick_ints a b xs 1 3 ok hx hl hi
    obtain ⟨n, rfl⟩ : ∃ n : Nat, m = n := ⟨m.toNat, by omega⟩
    obtain ⟨a', b', bd, x1, x2, x4, x5, x6, x7, x8, x9, e, R⟩ := loop_while _ 0 n a1 b1 most .vl .non none none none none none (Nat.le_refl _) m0 m4 (by omega) (by omega) (by omega) (.inl rfl) (fun _ => rfl) ok1 (fun _ => rfl) rfl rfl rfl rfl rfl
    exact ⟨n, a1, b1, bd, a', b', x1, x2, x4, x5, x6, x7, x8, x9, e1, e, R⟩
  rw [sm__law_board]
  by_cases q : 45 < most
  · obtain ⟨n, a1, b1, bd, a', b', x1, x2, x4, x5, x6, x7, x8, x9, e1, e, R⟩ := fin [1, 2, 2, 2, 3] (by simp) (by decide) (by decide)
    refine ⟨bd, a', b', ?_, R⟩
    simp at e1
    simp -implicitDefEqProofs [b__law_board, e1, e, q, parOk, parT_imm, ME.pure, MEs.pure, MT.pure]
  · obtain ⟨n, a1, b1, bd, a', b', x1, x2, x4, x5, x6, x7, x8, x9, e1, e, R⟩ := fin [1, 2, 2, 2] (by simp) (by decide) (by decide)
    refine ⟨bd, a', b', ?_, R⟩
    simp at e1
    simp -implicitDefEqProofs [b__law_board, e1, e, q, parOk, parT_imm, ME.pure, MEs.pure, MT.pure]
theorem sem_board (a b : Int) (ok : SrcOk a b) : ∃ (bd : Brd) (a' b' : Int), F__law_board.sem [srcD a b, .int 400] = .ret ⟨.im, bd.d⟩ [srcD a' b'] ∧ SrcOk a' b' ∧ BrdOk bd := sem_boardM 400 (by decide) (by decide) a b ok
end Tx
end

section
set_option Elab.async false
set_option linter.all false
set_option maxRecDepth 100000
set_option maxHeartbeats 4000000
/-! The plain law: tuples, texts. -/
namespace Tx
open PySem L2 Ev Pl
theorem eqvAll_ints : ∀ ws : List Int, eqvAll (ws.map D.int) (ws.map D.int) = true
  | [] => by simp [eqvAll]
  | w :: ws => by simp [eqvAll, D.eqv, eqvAll_ints ws]
theorem fineAll_ints (n : Nat) : ∀ ws : List Int, fineAll (n + 1) (ws.map D.int) = true
  | [] => by simp [fineAll]
  | w :: ws => by simp [fineAll, D.fine, fineAll_ints n ws]
theorem eqL (ws : List Int) : eqD (.lst (ws.map D.int)) (.lst (ws.map D.int)) = some true := by
  have h : (D.lst (ws.map D.int)).fine 60 = true := by
    unfold D.fine
    exact fineAll_ints 59 ws
  have h2 : (D.lst (ws.map D.int)).eqv (D.lst (ws.map D.int)) = true := by
    unfold D.eqv
    exact eqvAll_ints ws
  show (if (D.lst (ws.map D.int)).fine 60 && (D.lst (ws.map D.int)).fine 60 then some ((D.lst (ws.map D.int)).eqv (D.lst (ws.map D.int))) else none) = some true
  rw [h, h2]
  rfl
@[simp] theorem partD_f (d : D) : partD false d = some none := rfl
@[simp] theorem partD_t (i : Int) : partD true (.int i) = some (some i) := rfl
theorem stand_fine (n : Nat) (s : Stand) : s.d.fine (n + 2) = true := by
  simp [Stand.d, Stand.ss, D.fine, fineAll, fineAll_ints]
end Tx
end

section
set_option Elab.async false
set_option linter.all false
set_option maxRecDepth 100000
set_option maxHeartbeats 4000000
/-! The plain law: words, lines, lists. -/
namespace Tx
open PySem L2 Ev Pl
inductive Wrd
  | always
  | energy (n : Int)
  | runs (i : Nat)
  | rests (i : Nat)
def Wrd.d : Wrd → D
  | .always => .tup [.str "always"]
  | .energy n => .tup [.str "energy", .int n]
  | .runs i => .tup [.str "runs", .int i]
  | .rests i => .tup [.str "rests", .int i]
structure Lin where
  btn : Nat
  word : Wrd
def Lin.d (l : Lin) : D := .tup [.int l.btn, l.word.d]
def lns (ls : List Lin) : D := .tup (ls.map Lin.d)
@[simp] theorem Wrd.imm (w : Wrd) : w.d.imm = true := by cases w <;> rfl
@[simp] theorem Lin.imm (l : Lin) : l.d.imm = true := by simp [Lin.d]
@[simp] theorem lns_imm (ls : List Lin) : (lns ls).imm = true := by
  unfold lns
  rw [imm_tup]
  exact immAll_map _ _ fun x _ => Lin.imm x
@[simp] theorem nrm_wrd (t : RT) (w : Wrd) : RV.nrm ⟨t, w.d⟩ = ⟨.im, w.d⟩ := nrm_of w.imm
@[simp] theorem nrm_lin (t : RT) (l : Lin) : RV.nrm ⟨t, l.d⟩ = ⟨.im, l.d⟩ := nrm_of l.imm
@[simp] theorem nrm_lns (t : RT) (ls : List Lin) : RV.nrm ⟨t, lns ls⟩ = ⟨.im, lns ls⟩ := nrm_of (lns_imm ls)
@[simp] theorem lin_0 (t : RT) (l : Lin) : idxD ⟨t, l.d⟩ (.int 0) = some ⟨t, .int l.btn⟩ := by simp [Lin.d]
@[simp] theorem lin_1 (t : RT) (l : Lin) : idxD ⟨t, l.d⟩ (.int 1) = some ⟨t, l.word.d⟩ := by simp [Lin.d]
@[simp] theorem seq_lns (ls : List Lin) : seqD ⟨.im, lns ls⟩ = some ⟨.im, .im, ls.map Lin.d⟩ := rfl
@[simp] theorem lns_dic (ls : List Lin) : (lns ls).isDic = false := rfl
theorem lns_at (t : RT) (ls : List Lin) (n : Nat) (x : Lin) (h : ls[n]? = some x) : idxD ⟨t, lns ls⟩ (.int n) = some ⟨t, x.d⟩ := by
  unfold lns
  rw [idxT_int, Ev.atI_nat, List.getElem?_map, h]
  rfl
def WrdOk (m : Nat) : Wrd → Prop
  | .always => True
  | .energy n => 1 ≤ n ∧ n ≤ 4
  | .runs i => i < m
  | .rests i => i < m
def LinOk (m : Nat) (l : Lin) : Prop := l.btn < m ∧ WrdOk m l.word
structure LnsOk (m : Nat) (ls : List Lin) : Prop where
  lo : 1 ≤ ls.length
  hi : ls.length ≤ 4
  ok : ∀ l ∈ ls, LinOk m l
theorem eqT1 : eqD Wrd.always.d (.tup [.str "always"]) = some true := by kernel_rfl
theorem eqT2 (n : Int) : eqD (Wrd.energy n).d (.tup [.str "always"]) = some false := by kernel_rfl
theorem eqT3 (n : Nat) : eqD (Wrd.runs n).d (.tup [.str "always"]) = some false := by kernel_rfl
theorem eqT4 (n : Nat) : eqD (Wrd.rests n).d (.tup [.str "always"]) = some false := by kernel_rfl
theorem inT1 : inD (.str "runs") (.tup [.str "rests", .str "runs"]) = some true := by kernel_rfl
theorem inT2 : inD (.str "rests") (.tup [.str "rests", .str "runs"]) = some true := by kernel_rfl
@[simp] theorem w0a (t : RT) : idxD ⟨t, Wrd.always.d⟩ (.int 0) = some ⟨t, .str "always"⟩ := by simp [Wrd.d]
@[simp] theorem w0e (t : RT) (n : Int) : idxD ⟨t, (Wrd.energy n).d⟩ (.int 0) = some ⟨t, .str "energy"⟩ := by simp [Wrd.d]
@[simp] theorem w0r (t : RT) (n : Nat) : idxD ⟨t, (Wrd.runs n).d⟩ (.int 0) = some ⟨t, .str "runs"⟩ := by simp [Wrd.d]
@[simp] theorem w0t (t : RT) (n : Nat) : idxD ⟨t, (Wrd.rests n).d⟩ (.int 0) = some ⟨t, .str "rests"⟩ := by simp [Wrd.d]
@[simp] theorem w1e (t : RT) (n : Int) : idxD ⟨t, (Wrd.energy n).d⟩ (.int 1) = some ⟨t, .int n⟩ := by simp [Wrd.d]
@[simp] theorem w1r (t : RT) (n : Nat) : idxD ⟨t, (Wrd.runs n).d⟩ (.int 1) = some ⟨t, .int n⟩ := by simp [Wrd.d]
@[simp] theorem w1t (t : RT) (n : Nat) : idxD ⟨t, (Wrd.rests n).d⟩ (.int 1) = some ⟨t, .int n⟩ := by simp [Wrd.d]
theorem wrd_known (w : Wrd) : w.d.known = true := by cases w <;> rfl
theorem lin_known (w : Lin) : w.d.known = true := rfl
theorem lns_known (w : List Lin) : (lns w).known = true := rfl
theorem sEE : (decide (("energy" : Str) = "energy")) = true := rfl
theorem sRE : (decide (("runs" : Str) = "energy")) = false := rfl
theorem sTE : (decide (("rests" : Str) = "energy")) = false := rfl
theorem sAA : (decide (("always" : Str) = "always")) = true := rfl
theorem sEA : (decide (("energy" : Str) = "always")) = false := rfl
theorem sRA : (decide (("runs" : Str) = "always")) = false := rfl
theorem sTA : (decide (("rests" : Str) = "always")) = false := rfl
theorem sRR : (decide (("runs" : Str) = "runs")) = true := rfl
theorem sTR : (decide (("rests" : Str) = "runs")) = false := rfl
theorem sTT : (decide (("rests" : Str) = "rests")) = true := rfl
theorem sRT : (decide (("runs" : Str) = "rests")) = false := rfl
theorem sem_is_word (w : Wrd) (m : Nat) (h : WrdOk m w) : F_is_word.sem [w.d, .int m] = .ret ⟨.im, .bl true⟩ [] := by
  rw [sm_is_word]
  have kd : ∀ ds, (D.tup ds).known = true := fun _ => rfl
  have ks : ∀ s, (D.str s).known = true := fun _ => rfl
  have ki : ∀ i, (D.int i).known = true := fun _ => rfl
  have is : ∀ s, (D.str s).isT .str = true := fun _ => rfl
  cases w with
  | always =>
    have t : isTup Wrd.always.d 1 1 = true := rfl
    simp -implicitDefEqProofs [b_is_word, eqT1, sem_is_tuple, t, wrd_known, ME.pure, MEs.pure, MT.pure]
  | energy n =>
    have t : isTup (Wrd.energy n).d 2 2 = true := rfl
    obtain ⟨h1, h2⟩ := h
    simp -implicitDefEqProofs [b_is_word, eqT2, sem_is_tuple, sem_is_from, t, wrd_known, ks, ki, is, sEE, h1, h2, ME.pure, MEs.pure, MT.pure]
  | runs i =>
    have t : isTup (Wrd.runs i).d 2 2 = true := rfl
    have h : i < m := h
    have h1 : (0 : Int) ≤ i := by omega
    have h2 : (i : Int) ≤ (m : Int) - 1 := by omega
    simp -implicitDefEqProofs [b_is_word, eqT3, inT1, sem_is_tuple, sem_is_from, t, wrd_known, ks, ki, is, sRE, h1, h2, ME.pure, MEs.pure, MT.pure]
  | rests i =>
    have t : isTup (Wrd.rests i).d 2 2 = true := rfl
    have h : i < m := h
    have h1 : (0 : Int) ≤ i := by omega
    have h2 : (i : Int) ≤ (m : Int) - 1 := by omega
    simp -implicitDefEqProofs [b_is_word, eqT4, inT2, sem_is_tuple, sem_is_from, t, wrd_known, ks, ki, is, sTE, h1, h2, ME.pure, MEs.pure, MT.pure]
theorem sem_is_line (l : Lin) (m : Nat) (h : LinOk m l) : F_is_line.sem [l.d, .int m] = .ret ⟨.im, .bl true⟩ [] := by
  rw [sm_is_line]
  have t : isTup l.d 2 2 = true := rfl
  have ki : ∀ i, (D.int i).known = true := fun _ => rfl
  obtain ⟨h0, hw⟩ := h
  have h1 : (0 : Int) ≤ l.btn := by omega
  have h2 : (l.btn : Int) ≤ (m : Int) - 1 := by omega
  simp -implicitDefEqProofs [b_is_line, sem_is_tuple, sem_is_from, t, lin_known, ki, h1, h2, sem_is_word l.word m hw, ME.pure, MEs.pure, MT.pure]
theorem turns_all {α : Type} (f : D → Option (Option RV)) (g : α → D) : ∀ (xs : List α), (∀ x ∈ xs, f (g x) = some (some ⟨.im, .bl true⟩)) → turns f (xs.map g) = some (xs.map fun _ => ⟨.im, .bl true⟩) := fun xs h => turns_map f g (fun _ => .bl true) xs h
theorem sem_has_list (bd : Brd) (ls : List Lin) (h : LnsOk bd.btns.length ls) : F_has_list.sem [bd.d, lns ls] = .ret ⟨.im, .bl true⟩ [] := by
  rw [sm_has_list]
  have t : isTup (lns ls) 1 4 = true := by
    have := h.lo
    have := h.hi
    simp [lns, isTup]
    omega
  have tu := turns_all (lczF G_has_list (intC ics) (.call 7 (.cons (.var 2) (.cons (.bi .len (.cons (.idx (.var 0) (.lit (.int 0))) .nil)) .nil))) (.nm 2 false) .tt .im [some ⟨.vl, bd.d⟩, some ⟨.vl, lns ls⟩, none]) Lin.d ls fun l hl => by
    simp -implicitDefEqProofs [ME.pure, MEs.pure, sem_is_line l _ (h.ok l hl)]
  have le := lczE_ims (fun _ : Lin => D.bl true) ls (Nat.le_trans h.hi (by decide))
  have ab : biD .all [⟨.fr, .lst (ls.map fun _ => D.bl true)⟩] = some ⟨.im, .bl true⟩ := by
    have := all_bls (ls.map fun _ => true)
    rw [show (ls.map fun _ => true).all id = true by simp, List.map_map] at this
    exact this
  simp -implicitDefEqProofs [b_has_list, sem_is_tuple, t, lns_known, ME.pure, MEs.pure, MT.pure]
  rw [tu]
  simp -implicitDefEqProofs [le, ab]
end Tx
end

section
set_option Elab.async false
set_option linter.all false
set_option maxRecDepth 100000
set_option maxHeartbeats 4000000
/-! The plain law: lists as texts. -/
namespace Tx
open PySem L2 Ev Pl TL
def digT (n : Nat) : Str := ⟨#[48 + n]⟩
theorem str_dig (n : Nat) (h : n < 10) : ((toString (n : Int) : String) : Str) = digT n := by
  have e := tl_num n
  rw [numL_lt h] at e
  have := congrArg (fun l : List Nat => (⟨l.toArray⟩ : Str)) e
  rw [mk_tl] at this
  exact this
def wordsW : Wrd → List Str
  | .always => []
  | .energy n => [("if" : Str), "energy", digT n.toNat]
  | .runs k => [("if" : Str), "runs", digT k]
  | .rests k => [("if" : Str), "rests", digT k]
def wordsT (l : Lin) : List Str := ("press" : Str) :: digT l.btn :: wordsW l.word
def rowT (l : Lin) : Str := Str.join " " (wordsT l)
def textT (ls : List Lin) : Str := Str.join "\n" (ls.map rowT)
def wrdSet : List Wrd := [.always, .runs 0, .runs 1, .runs 2, .rests 0, .rests 1, .rests 2, .energy 1, .energy 2, .energy 3, .energy 4]
def linSet : List Lin := [0, 1, 2].flatMap fun b => wrdSet.map fun w => ⟨b, w⟩
theorem in_set {n : Nat} (hn : n ≤ 3) {l : Lin} (h : LinOk n l) : l ∈ linSet := by
  obtain ⟨b, w⟩ := l
  obtain ⟨h1, h2⟩ := h
  have h1 : b < n := h1
  refine List.mem_flatMap.2 ⟨b, ?_, List.mem_map.2 ⟨w, ?_, rfl⟩⟩
  · have : b = 0 ∨ b = 1 ∨ b = 2 := by omega
    rcases this with rfl | rfl | rfl <;> simp
  · cases w with
    | always => simp [wrdSet]
    | energy x =>
      have h2 : 1 ≤ x ∧ x ≤ 4 := h2
      have : x = 1 ∨ x = 2 ∨ x = 3 ∨ x = 4 := by omega
      rcases this with rfl | rfl | rfl | rfl <;> simp [wrdSet]
    | runs k =>
      have h2 : k < n := h2
      have : k = 0 ∨ k = 1 ∨ k = 2 := by omega
      rcases this with rfl | rfl | rfl <;> simp [wrdSet]
    | rests k =>
      have h2 : k < n := h2
      have : k = 0 ∨ k = 1 ∨ k = 2 := by omega
      rcases this with rfl | rfl | rfl <;> simp [wrdSet]
theorem row_facts : ∀ l ∈ linSet, (rowT l).length ≤ 25 ∧ 10 ∉ tl (rowT l) ∧ ((wordsT l).map (·.length)).sum + (wordsT l).length * 1 ≤ 100 := by decide +kernel
/-- the law's own way to write a row -/
def rowU (l : Lin) : Str := match l.word with
  | .always => ("press " : Str) ++ digT l.btn
  | .energy n => ("press " : Str) ++ digT l.btn ++ (" if " : Str) ++ ("energy" : Str) ++ (" " : Str) ++ digT n.toNat
  | .runs k => ("press " : Str) ++ digT l.btn ++ (" if " : Str) ++ ("runs" : Str) ++ (" " : Str) ++ digT k
  | .rests k => ("press " : Str) ++ digT l.btn ++ (" if " : Str) ++ ("rests" : Str) ++ (" " : Str) ++ digT k
theorem row_eq : ∀ l ∈ linSet, rowU l = rowT l := by decide +kernel
theorem text_split (ls : List Lin) (h : ∀ l ∈ ls, l ∈ linSet) (ne : ls ≠ []) : Txt.split (textT ls) "\n" = ls.map rowT := by
  unfold textT
  rw [← join_eq]
  refine split_join (y := "\n") (s := 10) (S := []) (by decide +kernel) (by decide +kernel) (fun e => ne (List.map_eq_nil_iff.1 e)) fun p hp => ?_
  obtain ⟨l, hl, rfl⟩ := List.mem_map.1 hp
  exact (row_facts l (h l hl)).2.1
theorem rows_sum : ∀ (ls : List Lin), (∀ l ∈ ls, l ∈ linSet) → ((ls.map rowT).map (·.length)).sum ≤ 25 * ls.length
  | [], _ => by simp
  | l :: ls, h => by
    have h1 := (row_facts l (h l (by simp))).1
    have h2 := rows_sum ls fun x hx => h x (by simp [hx])
    rw [List.map_cons, List.map_cons, List.sum_cons, List.length_cons]
    omega
theorem text_len (ls : List Lin) (h : ∀ l ∈ ls, l ∈ linSet) (h4 : ls.length ≤ 4) : (textT ls).length ≤ 200 := by
  have h1 := StrLaws.join_length_le "\n" (ls.map rowT)
  have h2 := rows_sum ls h
  have h3 : (Str.length "\n") = 1 := by decide +kernel
  unfold textT
  rw [h3, List.length_map] at h1
  omega
end Tx
end

section
set_option Elab.async false
set_option linter.all false
set_option maxRecDepth 100000
set_option maxHeartbeats 4000000
/-! More rules: loops that keep something, sources that are locked, equal things. -/
namespace Tx
open PySem L2 Ev Pl
/-- a loop that keeps something -/
theorem forR_inv {α : Type} {g : α → D} {f : D → En → Option En} {body : En → R Ev.Flow} (I : List α → En → Prop) (h : ∀ x xs ρ, I (x :: xs) ρ → ∃ ρ1, forB body (f (g x) ρ) = .ok .nx ρ1 ∧ I xs ρ1) : ∀ xs ρ, I xs ρ → ∃ ρ', forR f body (xs.map g) ρ = .ok .nx ρ' ∧ I [] ρ'
  | [], ρ, i => ⟨ρ, rfl, i⟩
  | x :: xs, ρ, i => by
    obtain ⟨ρ1, e, i1⟩ := h x xs ρ i
    obtain ⟨ρ', e', i'⟩ := forR_inv I h xs ρ1 i1
    refine ⟨ρ', ?_, i'⟩
    rw [List.map_cons, forR_cons, e]
    exact e'
def lockO (i : Nat) (o : Option SV) (ρ : En) : Option En := match o with
  | some ⟨.mu, d⟩ => some (ρ.put i (some ⟨.lk, d⟩))
  | some ⟨.lk, _⟩ => some ρ
  | _ => none
@[simp] theorem lock_tm (i : Nat) (ρ : En) : lockE (.tm i) ρ = lockO i (ρ.at i) ρ := rfl
@[simp] theorem lockO_mu (i : Nat) (d : D) (ρ : En) : lockO i (some ⟨.mu, d⟩) ρ = some (ρ.put i (some ⟨.lk, d⟩)) := rfl
@[simp] theorem lockO_lk (i : Nat) (d : D) (ρ : En) : lockO i (some ⟨.lk, d⟩) ρ = some ρ := rfl
def openO (i : Nat) (o o' : Option SV) (ρ : En) : En := match o with
  | some ⟨.mu, _⟩ => (match o' with
    | some ⟨.lk, d⟩ => ρ.put i (some ⟨.mu, d⟩)
    | _ => ρ)
  | _ => ρ
@[simp] theorem open_tm (i : Nat) (ρ0 ρ : En) : openE (.tm i) ρ0 ρ = openO i (ρ0.at i) (ρ.at i) ρ := rfl
@[simp] theorem openO_mu (i : Nat) (d d' : D) (ρ : En) : openO i (some ⟨.mu, d⟩) (some ⟨.lk, d'⟩) ρ = ρ.put i (some ⟨.mu, d'⟩) := rfl
@[simp] theorem openO_lk (i : Nat) (d : D) (o : Option SV) (ρ : En) : openO i (some ⟨.lk, d⟩) o ρ = ρ := rfl
@[simp] theorem item_tm (i : Nat) : RT.item (.tm i) = .tm i := rfl
@[simp] theorem anyTm_nil : anyTm [] [] = false := rfl
@[simp] theorem anyTm_rf (ms : List Mode) (v : RV) (vs : List RV) : anyTm (.rf :: ms) (v :: vs) = anyTm ms vs := rfl
@[simp] theorem anyTm_im (ms : List Mode) (d : D) (vs : List RV) : anyTm (.vl :: ms) (⟨.im, d⟩ :: vs) = anyTm ms vs := rfl
@[simp] theorem anyTm_fr (ms : List Mode) (d : D) (vs : List RV) : anyTm (.vl :: ms) (⟨.fr, d⟩ :: vs) = anyTm ms vs := rfl
@[simp] theorem anyTm_vl (ms : List Mode) (d : D) (vs : List RV) : anyTm (.vl :: ms) (⟨.vl, d⟩ :: vs) = anyTm ms vs := rfl
@[simp] theorem anyTm_tm (ms : List Mode) (i : Nat) (d : D) (vs : List RV) : anyTm (.vl :: ms) (⟨.tm i, d⟩ :: vs) = true := rfl
@[simp] theorem parT_tim (o : Bool) (d : D) : parT o ⟨.im, d⟩ = .im := by unfold parT; split <;> (try rfl) <;> (split <;> rfl)
mutual
theorem eqv_refl : ∀ (n : Nat) (d : D), d.fine n = true → d.eqv d = true
  | n, .non, h => by simp [D.eqv]
  | n, .bl b, h => by simp [D.eqv]
  | n, .int i, h => by simp [D.eqv]
  | n, .str x, h => by simp [D.eqv]
  | n, .tup ds, h => by
    unfold D.fine at h
    unfold D.eqv
    exact eqvAll_refl n ds h
  | n, .lst ds, h => by
    unfold D.fine at h
    unfold D.eqv
    exact eqvAll_refl n ds h
  | n, .dic ks vs, h => by simp [D.fine] at h
  | n, .ins C ns ds, h => by simp [D.fine] at h
  | n, .scr ns, h => by simp [D.fine] at h
  | n, .opq v, h => by simp [D.fine] at h
theorem eqvAll_refl : ∀ (n : Nat) (ds : List D), fineAll n ds = true → eqvAll ds ds = true
  | n, [], h => by simp [eqvAll]
  | 0, d :: ds, h => by simp [fineAll] at h
  | n + 1, d :: ds, h => by
    unfold fineAll at h
    rw [Bool.and_eq_true] at h
    unfold eqvAll
    rw [eqv_refl n d h.1, eqvAll_refl (n + 1) ds h.2]
    rfl
end
/-- a thing is equal to itself -/
theorem eqD_refl (d : D) (h : d.fine 60 = true) : eqD d d = some true := by
  have e := eqv_refl 60 d h
  unfold eqD
  cases d <;> first | (simp; done) | (simp [h, e])
theorem sem_choice_any (a b : Int) (xs : List D) (h : SrcOk a b) (hx : xs ≠ []) (hl : xs.length < 1000000) : ∃ x a' b', F__law_choice.sem [srcD a b, .lst xs] = .ret (RV.nrm ⟨.vl, x⟩) [srcD a' b'] ∧ x ∈ xs ∧ SrcOk a' b' := by
  have l0 : 0 < xs.length := List.length_pos_iff.2 hx
  obtain ⟨r, a', b', e, r0, r1, ok⟩ := sem_draw a b xs.length h (by omega) (by omega)
  obtain ⟨n, rfl⟩ : ∃ n : Nat, r = n := ⟨r.toNat, by omega⟩
  have hn : n < xs.length := by omega
  have hm : xs[n] ∈ xs := List.getElem_mem hn
  refine ⟨xs[n], a', b', ?_, hm, ok⟩
  rw [sm__law_choice]
  have g : atI xs (n : Int) = some xs[n] := by rw [Ev.atI_nat, List.getElem?_eq_getElem hn]
  simp [b__law_choice, e, g, ME.pure, MEs.pure, MT.pure]
end Tx
end

section
set_option Elab.async false
set_option linter.all false
set_option maxRecDepth 100000
set_option maxHeartbeats 4000000
/-! The plain law: lists written. -/
namespace Tx
open PySem L2 Ev Pl
theorem bi_strN (t : RT) (n : Nat) (h : n < 10) : biD .str [⟨t, .int n⟩] = some ⟨.im, .str (digT n)⟩ := by
  show (if (n : Int).natAbs.log2 < 1920 then some (⟨.im, .str (toString (n : Int))⟩ : RV) else none) = _
  rw [if_pos (by
    rw [Int.natAbs_natCast]
    refine Nat.lt_of_le_of_lt (Nat.log2_le_self n) (by omega)), str_dig n h]
theorem bi_strI (t : RT) (x : Int) (h0 : 0 ≤ x) (h : x < 10) : biD .str [⟨t, .int x⟩] = some ⟨.im, .str (digT x.toNat)⟩ := by
  have : x = (x.toNat : Int) := by omega
  rw [this, bi_strN t _ (by omega), ← this]
theorem strs_of (ys : List Str) : strsOf (ys.map D.str) = some ys := by
  induction ys with
  | nil => rfl
  | cons y ys ih => show (strsOf (ys.map D.str)).map _ = _; rw [ih]; rfl
theorem join_of (a : Str) (t u : RT) (ys : List Str) (h : (ys.map (·.length)).sum + ys.length * a.length ≤ 1000) : mtD .join ⟨t, .str a⟩ [⟨u, .lst (ys.map D.str)⟩] = some ⟨.im, .str (Str.join a ys)⟩ := by
  show (strsOf (ys.map D.str)).bind _ = _
  rw [strs_of, Option.bind_some, if_pos (by rw [big_eq, sizeLine_eq]; omega)]
  congr 3
  exact TL.join_eq a ys
theorem len_sp : Str.length " " = 1 := by decide +kernel
theorem len_nl : Str.length "\n" = 1 := by decide +kernel
def strL (ys : List Str) : D := .lst (ys.map D.str)
theorem join_row (l : Lin) (h : l ∈ linSet) (t u : RT) : mtD .join ⟨t, .str " "⟩ [⟨u, strL (wordsT l)⟩] = some ⟨.im, .str (rowT l)⟩ := by
  have := (row_facts l h).2.2
  exact join_of " " t u (wordsT l) (by rw [len_sp]; omega)
theorem join_text (ls : List Lin) (h : ∀ l ∈ ls, l ∈ linSet) (h4 : ls.length ≤ 4) (t u : RT) : mtD .join ⟨t, .str "\n"⟩ [⟨u, strL (ls.map rowT)⟩] = some ⟨.im, .str (textT ls)⟩ := by
  have := rows_sum ls h
  exact join_of "\n" t u (ls.map rowT) (by rw [len_nl, List.length_map]; omega)
@[simp] theorem strL_nrm (t : RT) (ys : List Str) : RV.nrm ⟨t, strL ys⟩ = ⟨t, strL ys⟩ := by simp [strL]
theorem strL_add (a b : List Str) (h : a.length + b.length ≤ 1000) : opD .add ⟨.vl, strL a⟩ ⟨.fr, strL b⟩ = some ⟨.vl, strL (a ++ b)⟩ := by
  show opD .add ⟨.vl, .lst _⟩ ⟨.fr, .lst _⟩ = _
  rw [addL_eq, if_pos (by rw [List.length_map, List.length_map, big_eq, sizeLine_eq]; omega)]
  simp [strL]
theorem strL_app (a : List Str) (x : Str) (h : a.length ≤ 1000) : appPath (.str x) [] (strL a) = some (strL (a ++ [x])) := by
  show appPath _ [] (.lst _) = _
  unfold appPath
  rw [if_pos (by rw [List.length_map, big_eq, sizeLine_eq]; omega)]
  simp [strL]
theorem btn_lt_set : ∀ l ∈ linSet, l.btn < 10 ∧ (match l.word with
    | .always => True
    | .energy x => 0 ≤ x ∧ x < 10
    | .runs k => k < 10
    | .rests k => k < 10) := by
  intro l hl
  obtain ⟨b, hb, hl⟩ := List.mem_flatMap.1 hl
  obtain ⟨w, hw, rfl⟩ := List.mem_map.1 hl
  have hb : b < 10 := by
    simp only [List.mem_cons, List.not_mem_nil, or_false] at hb
    omega
  refine ⟨hb, ?_⟩
  simp only [wrdSet, List.mem_cons, List.not_mem_nil, or_false] at hw
  rcases hw with rfl | rfl | rfl | rfl | rfl | rfl | rfl | rfl | rfl | rfl | rfl <;> simp
@[simp] theorem isStr_str (x : Str) : (D.str x).isStr = true := rfl
theorem text_row (X0 : Option SV) (l : Lin) (hl : l ∈ linSet) (acc : List Str) (ha : acc.length ≤ 100) (j2 j3 j4 : Option SV) (f2 : freeO j2 = true) (f3 : freeO j3 = true) (f4 : freeO j4 = true) :
    ∃ j4', freeO j4' = true ∧ forB (exs G_text_of (intC ics) l_text_of_1) (bindT (.tp (.nm 2 false) (.one (.nm 3 false))) .im l.d [X0, some ⟨.mu, strL acc⟩, j2, j3, j4]) = .ok .nx [X0, some ⟨.mu, strL (acc ++ [rowT l])⟩, some ⟨.im, .int l.btn⟩, some ⟨.im, l.word.d⟩, j4'] := by
  obtain ⟨hb, hw⟩ := btn_lt_set l hl
  have jr := join_row l hl
  have ap := strL_app acc (rowT l) (by omega)
  obtain ⟨b, w⟩ := l
  have bp : bindT (.tp (.nm 2 false) (.one (.nm 3 false))) .im (Lin.mk b w).d [X0, some ⟨.mu, strL acc⟩, j2, j3, j4] = some [X0, some ⟨.mu, strL acc⟩, some ⟨.im, .int b⟩, some ⟨.im, w.d⟩, j4] := by
    unfold Lin.d
    generalize w.d = W
    simp -implicitDefEqProofs [f2, f3]
  have bs := fun t => bi_strN t b hb
  have w0 : D.lst [.str "press", .str (digT b)] = strL [("press" : Str), digT b] := rfl
  have wi := w.imm
  have la : ∀ a b c, lstAt [X0, some ⟨.mu, strL acc⟩, a, b, c] 1 = true := fun _ _ _ => rfl
  rw [bp]
  generalize rowT ⟨b, w⟩ = R at *
  cases w with
  | always =>
    have we : wordsT ⟨b, .always⟩ = [("press" : Str), digT b] := rfl
    rw [we] at jr
    have q := eqT1
    have nA := fun t => strL_nrm t [("press" : Str), digT b]
    generalize Wrd.always.d = W at *
    generalize strL [("press" : Str), digT b] = WL at *
    refine ⟨some ⟨.vl, WL⟩, rfl, ?_⟩
    simp -implicitDefEqProofs [-lstAt_eq, la, l_text_of_1, f4, bs, w0, nA, nrm_of wi, q, jr, ap, ME.pure, MEs.pure, MT.pure]
  | energy x =>
    have we : wordsT ⟨b, .energy x⟩ = [("press" : Str), digT b] ++ [("if" : Str), "energy", digT x.toNat] := rfl
    have w1 : D.lst [.str "if", .str "energy", .str (digT x.toNat)] = strL [("if" : Str), "energy", digT x.toNat] := rfl
    have ad := strL_add [("press" : Str), digT b] [("if" : Str), "energy", digT x.toNat] (by simp)
    rw [← we] at ad
    have nA := fun t => strL_nrm t [("press" : Str), digT b]
    have nL := fun t => strL_nrm t (wordsT ⟨b, .energy x⟩)
    have q := eqT2 x
    have i0 : ∀ t, idxD ⟨t, (Wrd.energy x).d⟩ (.int 0) = some ⟨t, .str "energy"⟩ := fun t => by simp [Wrd.d]
    have i1 : ∀ t, idxD ⟨t, (Wrd.energy x).d⟩ (.int 1) = some ⟨t, .int x⟩ := fun t => by simp [Wrd.d]
    have bs2 := fun t => bi_strI t x hw.1 hw.2
    generalize (Wrd.energy x).d = W at *
    generalize strL (wordsT ⟨b, .energy x⟩) = WL at *
    generalize strL [("press" : Str), digT b] = WA at *
    generalize strL [("if" : Str), "energy", digT x.toNat] = WB at *
    refine ⟨some ⟨.vl, WL⟩, rfl, ?_⟩
    simp -implicitDefEqProofs [-lstAt_eq, la, l_text_of_1, f4, bs, bs2, w0, w1, nA, nL, ad, i0, i1, nrm_of wi, q, jr, ap, ME.pure, MEs.pure, MT.pure]
  | runs k =>
    have we : wordsT ⟨b, .runs k⟩ = [("press" : Str), digT b] ++ [("if" : Str), "runs", digT k] := rfl
    have w1 : D.lst [.str "if", .str "runs", .str (digT k)] = strL [("if" : Str), "runs", digT k] := rfl
    have ad := strL_add [("press" : Str), digT b] [("if" : Str), "runs", digT k] (by simp)
    rw [← we] at ad
    have nA := fun t => strL_nrm t [("press" : Str), digT b]
    have nL := fun t => strL_nrm t (wordsT ⟨b, .runs k⟩)
    have q := eqT3 k
    have i0 : ∀ t, idxD ⟨t, (Wrd.runs k).d⟩ (.int 0) = some ⟨t, .str "runs"⟩ := fun t => by simp [Wrd.d]
    have i1 : ∀ t, idxD ⟨t, (Wrd.runs k).d⟩ (.int 1) = some ⟨t, .int k⟩ := fun t => by simp [Wrd.d]
    have bs2 := fun t => bi_strN t k hw
    generalize (Wrd.runs k).d = W at *
    generalize strL (wordsT ⟨b, .runs k⟩) = WL at *
    generalize strL [("press" : Str), digT b] = WA at *
    generalize strL [("if" : Str), "runs", digT k] = WB at *
    refine ⟨some ⟨.vl, WL⟩, rfl, ?_⟩
    simp -implicitDefEqProofs [-lstAt_eq, la, l_text_of_1, f4, bs, bs2, w0, w1, nA, nL, ad, i0, i1, nrm_of wi, q, jr, ap, ME.pure, MEs.pure, MT.pure]
  | rests k =>
    have we : wordsT ⟨b, .rests k⟩ = [("press" : Str), digT b] ++ [("if" : Str), "rests", digT k] := rfl
    have w1 : D.lst [.str "if", .str "rests", .str (digT k)] = strL [("if" : Str), "rests", digT k] := rfl
    have ad := strL_add [("press" : Str), digT b] [("if" : Str), "rests", digT k] (by simp)
    rw [← we] at ad
    have nA := fun t => strL_nrm t [("press" : Str), digT b]
    have nL := fun t => strL_nrm t (wordsT ⟨b, .rests k⟩)
    have q := eqT4 k
    have i0 : ∀ t, idxD ⟨t, (Wrd.rests k).d⟩ (.int 0) = some ⟨t, .str "rests"⟩ := fun t => by simp [Wrd.d]
    have i1 : ∀ t, idxD ⟨t, (Wrd.rests k).d⟩ (.int 1) = some ⟨t, .int k⟩ := fun t => by simp [Wrd.d]
    have bs2 := fun t => bi_strN t k hw
    generalize (Wrd.rests k).d = W at *
    generalize strL (wordsT ⟨b, .rests k⟩) = WL at *
    generalize strL [("press" : Str), digT b] = WA at *
    generalize strL [("if" : Str), "rests", digT k] = WB at *
    refine ⟨some ⟨.vl, WL⟩, rfl, ?_⟩
    simp -implicitDefEqProofs [-lstAt_eq, la, l_text_of_1, f4, bs, bs2, w0, w1, nA, nL, ad, i0, i1, nrm_of wi, q, jr, ap, ME.pure, MEs.pure, MT.pure]
theorem text_loop (X0 : Option SV) : ∀ (ls : List Lin) (acc : List Str) (j2 j3 j4 : Option SV), (∀ l ∈ ls, l ∈ linSet) → acc.length + ls.length ≤ 100 → freeO j2 = true → freeO j3 = true → freeO j4 = true →
    ∃ j2' j3' j4', forR (bindT (.tp (.nm 2 false) (.one (.nm 3 false))) .im) (exs G_text_of (intC ics) l_text_of_1) (ls.map Lin.d) [X0, some ⟨.mu, strL acc⟩, j2, j3, j4] = .ok .nx [X0, some ⟨.mu, strL (acc ++ ls.map rowT)⟩, j2', j3', j4']
  | [], acc, j2, j3, j4, _, _, _, _, _ => ⟨j2, j3, j4, by simp⟩
  | l :: ls, acc, j2, j3, j4, h, hl, f2, f3, f4 => by
    rw [List.length_cons] at hl
    obtain ⟨k4, g4, e1⟩ := text_row X0 l (h l (by simp)) acc (by omega) j2 j3 j4 f2 f3 f4
    obtain ⟨j2', j3', j4', e2⟩ := text_loop X0 ls (acc ++ [rowT l]) (some ⟨.im, .int l.btn⟩) (some ⟨.im, l.word.d⟩) k4 (fun x hx => h x (by simp [hx])) (by rw [List.length_append, List.length_singleton]; omega) rfl rfl g4
    refine ⟨j2', j3', j4', ?_⟩
    rw [List.map_cons, forR_cons, e1, List.map_cons]
    rw [List.append_assoc] at e2
    exact e2
theorem sem_text_of (ls : List Lin) (h : ∀ l ∈ ls, l ∈ linSet) (h4 : ls.length ≤ 4) : F_text_of.sem [lns ls] = .ret ⟨.im, .str (textT ls)⟩ [] := by
  obtain ⟨j2, j3, j4, e⟩ := text_loop (some ⟨.vl, lns ls⟩) ls [] none none none h (by rw [List.length_nil]; omega) rfl rfl rfl
  have s0 : strL [] = .lst [] := rfl
  rw [List.nil_append, s0] at e
  have jt := join_text ls h h4
  have imL : ∀ t l, RV.nrm ⟨t, lns l⟩ = ⟨.im, lns l⟩ := fun t l => nrm_of (lns_imm l)
  have sq : seqD ⟨.im, lns ls⟩ = some ⟨.im, .im, ls.map Lin.d⟩ := rfl
  have nA := fun t => strL_nrm t (ls.map rowT)
  rw [sm_text_of]
  generalize strL (ls.map rowT) = SL at *
  simp -implicitDefEqProofs [b_text_of, imL, sq, e, jt, nA, ME.pure, MEs.pure, MT.pure]
end Tx
end

section
set_option Elab.async false
set_option linter.all false
set_option maxRecDepth 100000
set_option maxHeartbeats 4000000
/-! The plain law: texts of any kind (program-free but for the operators). -/
namespace Tx
open PySem L2 Ev Pl TL
theorem good_iff (x : Str) : strGood x = true ↔ ∀ c ∈ tl x, c < 0x110000 := by
  unfold strGood tl
  rw [← Array.all_toList, List.all_eq_true]
  simp
theorem good_app {x y : Str} (hx : strGood x = true) (hy : strGood y = true) : strGood (x ++ y) = true := by
  rw [good_iff] at *
  rw [tl_append]
  intro c hc
  rcases List.mem_append.1 hc with h | h
  · exact hx c h
  · exact hy c h
theorem good_app_l {x y : Str} (h : strGood (x ++ y) = true) : strGood x = true := by
  rw [good_iff] at *
  rw [tl_append] at h
  exact fun c hc => h c (List.mem_append_left _ hc)
theorem good_app_r {x y : Str} (h : strGood (x ++ y) = true) : strGood y = true := by
  rw [good_iff] at *
  rw [tl_append] at h
  exact fun c hc => h c (List.mem_append_right _ hc)
theorem tl_cut (z : Str) (lo hi : Option Int) : tl (cutS z lo hi) = ((tl z).drop (HT.sIx z.length 0 lo)).take (HT.sIx z.length z.length hi - HT.sIx z.length 0 lo) := by
  unfold cutS
  rw [tl_mk]
theorem good_cut {z : Str} (lo hi : Option Int) (h : strGood z = true) : strGood (cutS z lo hi) = true := by
  rw [good_iff] at *
  rw [tl_cut]
  exact fun c hc => h c (List.mem_of_mem_drop (List.mem_of_mem_take hc))
theorem len_cut (z : Str) (lo hi : Option Int) : (cutS z lo hi).length ≤ z.length := by
  rw [len_tl, tl_cut, List.length_take, List.length_drop, len_tl]
  omega
theorem len_cut900 (z : Str) : (cutS z none (some 900)).length ≤ 900 := by
  rw [len_tl, tl_cut, List.length_take]
  have : HT.sIx z.length z.length (some 900) ≤ 900 := by
    unfold HT.sIx
    simp
    omega
  omega
theorem good_join {sep : Str} (hs : strGood sep = true) : ∀ {ps : List Str}, (∀ p ∈ ps, strGood p = true) → strGood (Str.join sep ps) = true
  | [], _ => by
    show strGood Str.empty = true
    decide +kernel
  | [x], h => h x (by simp)
  | x :: y :: r, h => by
    have ih := good_join (ps := y :: r) hs fun p hp => h p (by simp [hp])
    exact good_app (good_app (h x (by simp)) hs) ih
theorem good_parts {sep : Str} : ∀ {ps : List Str}, strGood (Str.join sep ps) = true → ∀ p ∈ ps, strGood p = true
  | [], _, p, hp => by cases hp
  | [x], h, p, hp => by
    rw [List.mem_singleton.1 hp]; exact h
  | x :: y :: r, h, p, hp => by
    have h' : strGood (x ++ sep ++ Str.join sep (y :: r)) = true := h
    rcases List.mem_cons.1 hp with rfl | hp
    · exact good_app_l (good_app_l h')
    · exact good_parts (good_app_r h') p hp
theorem good_split {x : Str} (y : Str) (h : strGood x = true) : ∀ p ∈ Txt.split x y, strGood p = true := good_parts (sep := y) (by rw [StrLaws.join_split]; exact h)
/-! weights -/
def wt (ys : List Str) : Nat := (ys.map (·.length)).sum + ys.length
theorem wt_app (a b : List Str) : wt (a ++ b) = wt a + wt b := by
  unfold wt
  rw [List.map_append, List.sum_append, List.length_append]
  omega
theorem wt_take (ys : List Str) (n : Nat) : wt (ys.take n) ≤ wt ys := by
  have := wt_app (ys.take n) (ys.drop n)
  rw [List.take_append_drop] at this
  omega
theorem wt_drop (ys : List Str) (n : Nat) : wt (ys.drop n) ≤ wt ys := by
  have := wt_app (ys.take n) (ys.drop n)
  rw [List.take_append_drop] at this
  omega
def cutL (ys : List Str) (lo hi : Option Int) : List Str := (ys.drop (HT.sIx ys.length 0 lo)).take (HT.sIx ys.length ys.length hi - HT.sIx ys.length 0 lo)
theorem wt_cut (ys : List Str) (lo hi : Option Int) : wt (cutL ys lo hi) ≤ wt ys := Nat.le_trans (wt_take _ _) (wt_drop _ _)
theorem cutL_mem {ys : List Str} {lo hi : Option Int} {p : Str} (h : p ∈ cutL ys lo hi) : p ∈ ys := List.mem_of_mem_drop (List.mem_of_mem_take h)
theorem wt_split (x y : Str) (hy : 1 ≤ y.length) : wt (Txt.split x y) ≤ x.length + 1 := PyProof.Rows.split_weight x y hy
theorem wt_len (ys : List Str) : ys.length ≤ wt ys := Nat.le_add_left _ _
theorem wt_item {ys : List Str} {p : Str} (h : p ∈ ys) : p.length ≤ wt ys := by
  obtain ⟨a, b, rfl⟩ := List.append_of_mem h
  rw [wt_app]
  unfold wt
  rw [List.map_cons, List.sum_cons]
  omega
theorem len_join (sep : Str) (hs : sep.length = 1) (ys : List Str) : (Str.join sep ys).length ≤ wt ys := by
  cases ys with
  | nil => exact Nat.zero_le _
  | cons a l =>
    rw [PyProof.Rows.len_join_cons, hs]
    unfold wt
    rw [List.length_cons]
    omega
/-! the operators at texts -/
theorem add_strB (a b : Str) (t u : RT) (h : a.length + b.length ≤ 100000) : opD .add ⟨t, .str a⟩ ⟨u, .str b⟩ = some ⟨.im, .str (a ++ b)⟩ := by
  show (if a.length + b.length ≤ big then some (⟨.im, .str (a ++ b)⟩ : RV) else none) = _
  rw [if_pos (by rw [big_eq, sizeLine_eq]; omega)]
theorem split_ofB (t u : RT) (a b : Str) (h1 : b.length ≠ 0) (h2 : a.length ≤ 100000) : mtD .split ⟨t, .str a⟩ [⟨u, .str b⟩] = some ⟨.fr, strL (Txt.split a b)⟩ := by
  show (if b.length ≠ 0 ∧ a.length + 2 ≤ big then some (⟨.fr, .lst ((Txt.split a b).map .str)⟩ : RV) else none) = _
  rw [if_pos ⟨h1, by rw [big_eq, sizeLine_eq]; omega⟩]
  rfl
theorem join_ofB (a : Str) (ha : a.length = 1) (t u : RT) (ys : List Str) (h : wt ys ≤ 100000) : mtD .join ⟨t, .str a⟩ [⟨u, strL ys⟩] = some ⟨.im, .str (Str.join a ys)⟩ := by
  show (strsOf (ys.map D.str)).bind (fun ys => if (ys.map (·.length)).sum + ys.length * a.length ≤ big then some (⟨.im, .str (Txt.join a ys)⟩ : RV) else none) = _
  rw [strs_of, Option.bind_some, if_pos, join_eq]
  rw [big_eq, sizeLine_eq, ha]
  unfold wt at h
  omega
theorem slc_str (t : RT) (z : Str) (l h : Option Int) (hz : z.length ≤ 100000) : slcO ⟨t, .str z⟩ l h = some ⟨.im, .str (cutS z l h)⟩ := by
  show (if z.length ≤ big then some (⟨.im, .str (cutS z l h)⟩ : RV) else none) = _
  rw [if_pos (by rw [big_eq, sizeLine_eq]; omega)]
theorem strL_imm (ys : List Str) : immAll (ys.map D.str) = true := immAll_map _ _ fun _ _ => by simp
theorem slc_strL (t : RT) (ys : List Str) (l h : Option Int) : slcO ⟨t, strL ys⟩ l h = some ⟨.fr, strL (cutL ys l h)⟩ := by
  have e : cutD (ys.map D.str) l h = (cutL ys l h).map D.str := by
    unfold cutD cutL
    rw [List.length_map, List.map_take, List.map_drop]
  show some (⟨listT t (cutD (ys.map D.str) l h), .lst (cutD (ys.map D.str) l h)⟩ : RV) = _
  rw [e]
  unfold listT
  rw [if_pos (strL_imm _)]
  rfl
theorem strL_addF (a b : List Str) (h : a.length + b.length ≤ 100000) : opD .add ⟨.fr, strL a⟩ ⟨.fr, strL b⟩ = some ⟨.fr, strL (a ++ b)⟩ := by
  show (if (a.map D.str).length + (b.map D.str).length ≤ big then (RT.join .fr .fr).map (fun w => (⟨w.newL, .lst (a.map D.str ++ b.map D.str)⟩ : RV)) else none) = _
  rw [if_pos (by rw [List.length_map, List.length_map, big_eq, sizeLine_eq]; omega), ← List.map_append]
  rfl
theorem len_strL (t : RT) (ys : List Str) : biD .len [⟨t, strL ys⟩] = some ⟨.im, .int ys.length⟩ := by
  show some (⟨.im, .int ((ys.map D.str).length : Nat)⟩ : RV) = _
  rw [List.length_map]
end Tx
end

section
set_option Elab.async false
set_option linter.all false
set_option maxRecDepth 100000
set_option maxHeartbeats 4000000
/-! The plain law: values that may be anything. -/
namespace Tx
open PySem L2 Ev Pl
inductive Jk : Nat → D → Prop
  | non (n : Nat) : Jk n .non
  | bl (n : Nat) (b : Bool) : Jk n (.bl b)
  | int (n : Nat) (i : Int) : Jk n (.int i)
  | str (n : Nat) (x : Str) (h : strGood x = true) : Jk n (.str x)
  | nl (n : Nat) : Jk n (.lst [])
  | tup (n : Nat) (ds : List D) (hl : ds.length ≤ n + 5) (h : ∀ d ∈ ds, Jk n d) : Jk (n + 1) (.tup ds)
theorem Jk.mono {n m : Nat} {d : D} (h : Jk n d) (k : n ≤ m) : Jk m d := by
  induction h generalizing m with
  | non n => exact .non m
  | bl n b => exact .bl m b
  | int n i => exact .int m i
  | str n x hx => exact .str m x hx
  | nl n => exact .nl m
  | tup n ds hl h ih =>
    obtain ⟨m', rfl⟩ : ∃ m', m = m' + 1 := ⟨m - 1, by omega⟩
    exact .tup m' ds (by omega) fun d hd => ih d hd (by omega)
theorem Jk.known {n : Nat} {d : D} (h : Jk n d) : d.known = true := by cases h <;> rfl
theorem Jk.fine {n : Nat} {d : D} (h : Jk n d) : d.fine n = true := by
  induction h with
  | non n => simp [D.fine]
  | bl n b => simp [D.fine]
  | int n i => simp [D.fine]
  | str n x hx => simpa [D.fine] using hx
  | nl n => simp [D.fine, fineAll]
  | tup n ds hl h ih =>
    show fineAll (n + 1) ds = true
    clear h hl
    induction ds with
    | nil => simp [fineAll]
    | cons d ds ih2 =>
      show (d.fine n && fineAll (n + 1) ds) = true
      rw [ih d (by simp), ih2 fun x hx => ih x (by simp [hx])]
      rfl
theorem Jk.fine60 {n : Nat} {d : D} (h : Jk n d) (k : n ≤ 60) : d.fine 60 = true := (h.mono k).fine
theorem Jk.item {n : Nat} {ds : List D} (h : Jk n (.tup ds)) {d : D} (hd : d ∈ ds) : Jk n d := by
  cases h with
  | tup n _ hl h => exact (h d hd).mono (by omega)
/-- how a value of a frozen name is read -/
theorem nrm_two (d : D) : RV.nrm ⟨.vl, d⟩ = ⟨.im, d⟩ ∨ RV.nrm ⟨.vl, d⟩ = ⟨.vl, d⟩ := by
  unfold RV.nrm
  split
  · exact .inl rfl
  · exact .inr rfl
theorem nrm_imr (d : D) : RV.nrm ⟨.im, d⟩ = ⟨.im, d⟩ := by
  unfold RV.nrm
  split <;> rfl
theorem len_nrm (t : RT) (ds : List D) : biD .len [RV.nrm ⟨t, .tup ds⟩] = some ⟨.im, .int ds.length⟩ := by
  unfold RV.nrm
  split <;> rfl
theorem isi_nrm (v : RV) (T : Ty) (h : v.d.known = true) : biD (.isi T) [RV.nrm v] = some ⟨.im, .bl (v.d.isT T)⟩ := by
  unfold RV.nrm
  split <;> (obtain ⟨t, d⟩ := v; show (if d.known then _ else _) = _; rw [if_pos h])
def isNonB : D → Bool
  | .non => true
  | _ => false
theorem non_known {d : D} (h : d.known = true) : isNonD d = some (isNonB d) := by
  cases d <;> first | rfl | (exact absurd h Bool.false_ne_true)
def intEq (d : D) (n : Int) : Bool := match d with
  | .int i => decide (i = n)
  | _ => false
/-- a button's check, the number of it and of all -/
def buttonB (d : D) (n m : Nat) : Bool := match d with
  | .tup [w, x, l, c, p] => isFrom w 1 6 && (isFrom x 0 9 && (isFrom l 0 4 && (isFrom c 0 4 && (isNonB p || (isFrom p 0 ((m : Int) - 1) && !intEq p n)))))
  | _ => false
theorem five {ds : List D} (h : ds.length = 5) : ∃ a b c d e, ds = [a, b, c, d, e] := by
  match ds, h with
  | [a, b, c, d, e], _ => exact ⟨a, b, c, d, e, rfl⟩
theorem sem_button (d : D) (hk : Jk 50 d) (n m : Nat) : F_is_button.sem [d, .int n, .int m] = .ret ⟨.im, .bl (buttonB d n m)⟩ [] := by
  have st := sem_is_tuple d 5 5 hk.known
  rw [sm_is_button]
  by_cases h5 : isTup d 5 5 = true
  · cases d <;> first | (exact absurd h5 Bool.false_ne_true) | skip
    rename_i ds
    have : ds.length = 5 := by
      unfold isTup at h5
      simp only [Bool.and_eq_true, decide_eq_true_eq] at h5
      omega
    obtain ⟨w, x, l, c, p, rfl⟩ := five this
    rw [h5] at st
    have kw := (hk.item (d := w) (by simp)).known
    have kx := (hk.item (d := x) (by simp)).known
    have kl := (hk.item (d := l) (by simp)).known
    have kc := (hk.item (d := c) (by simp)).known
    have kp := (hk.item (d := p) (by simp)).known
    have e1 := sem_is_from w 1 6 kw
    have e2 := sem_is_from x 0 9 kx
    have e3 := sem_is_from l 0 4 kl
    have e4 := sem_is_from c 0 4 kc
    have e5 := sem_is_from p 0 ((m : Int) - 1) kp
    have np := non_known kp
    have bb : buttonB (.tup [w, x, l, c, p]) n m = (isFrom w 1 6 && (isFrom x 0 9 && (isFrom l 0 4 && (isFrom c 0 4 && (isNonB p || (isFrom p 0 ((m : Int) - 1) && !intEq p n)))))) := rfl
    rw [bb]
    have ne : isFrom p 0 ((m : Int) - 1) = true → eqD p (.int n) = some (intEq p n) := fun h => by
      cases p <;> first | (exact absurd h Bool.false_ne_true) | rfl
    generalize hw : isFrom w 1 6 = W at *
    generalize hx : isFrom x 0 9 = X at *
    generalize hl : isFrom l 0 4 = L at *
    generalize hc : isFrom c 0 4 = CC at *
    generalize hp : isFrom p 0 ((m : Int) - 1) = Q at *
    generalize hn : isNonB p = NN at *
    generalize he : intEq p n = EE at *
    clear hk hw hx hl hc hp hn he
    rcases nrm_two (.tup [w, x, l, c, p]) with nr | nr
    · cases W <;> cases X <;> cases L <;> cases CC <;> cases NN <;> cases Q <;> simp -implicitDefEqProofs [b_is_button, nr, st, e1, e2, e3, e4, e5, np, ne, ME.pure, MEs.pure, MT.pure]
    · cases W <;> cases X <;> cases L <;> cases CC <;> cases NN <;> cases Q <;> simp -implicitDefEqProofs [b_is_button, nr, st, e1, e2, e3, e4, e5, np, ne, ME.pure, MEs.pure, MT.pure]
  · have h5 : isTup d 5 5 = false := by simpa using h5
    rw [h5] at st
    have bb : buttonB d n m = false := by
      unfold buttonB
      split
      · exact absurd h5 (by simp [isTup])
      · rfl
    rw [bb]
    simp -implicitDefEqProofs [b_is_button, st, ME.pure, MEs.pure, MT.pure]
end Tx
end

section
set_option Elab.async false
set_option linter.all false
set_option maxRecDepth 100000
set_option maxHeartbeats 8000000
/-! split from PlJk4 -/
namespace Tx
open PySem L2 Ev Pl
@[simp] theorem known_tup (bs : List D) : (D.tup bs).known = true := rfl
theorem isT_tup (bs : List D) : (D.tup bs).isT .tuple = true := rfl
theorem not_tup {d : D} (hk : d.known = true) (h : ∀ ds, d ≠ .tup ds) : d.isT .tuple = false := by
  cases d <;> first | rfl | (exact absurd hk Bool.false_ne_true) | (exact absurd rfl (h _))
theorem bls_all (bs : List Bool) : blsOf (bs.map D.bl) = some bs := by
  induction bs with
  | nil => rfl
  | cons b bs ih => show (blsOf (bs.map D.bl)).map _ = _; rw [ih]; rfl
theorem from_int {d : D} {lo hi : Int} (h : isFrom d lo hi = true) : ∃ i, d = .int i ∧ lo ≤ i ∧ i ≤ hi := by
  cases d <;> first | (exact absurd h Bool.false_ne_true) | skip
  rename_i i
  simp only [isFrom_int, Bool.and_eq_true, decide_eq_true_eq] at h
  exact ⟨i, rfl, h.1, h.2⟩
end Tx
end

section
set_option Elab.async false
set_option linter.all false
set_option maxRecDepth 100000
set_option maxHeartbeats 8000000
/-! The plain law: is any value a list: words. -/
namespace Tx
open PySem L2 Ev Pl
def isAlw (d : D) : Bool := match d with
  | .tup [.str x] => decide (x = "always")
  | _ => false
theorem alw_eqv (d : D) : d.eqv (.tup [.str "always"]) = isAlw d := by
  cases d <;> first | rfl | skip
  rename_i ds
  match ds with
  | [] => rfl
  | [a] =>
    show eqvAll [a] [.str "always"] = _
    unfold eqvAll eqvAll
    cases a <;> first | rfl | skip
    show (decide _ && true) = decide _
    rw [Bool.and_true]
  | a :: b :: r =>
    show (a.eqv _ && eqvAll (b :: r) []) = _
    unfold eqvAll
    rw [Bool.and_false]
    cases a <;> rfl
theorem alw_fine : (D.tup [.str "always"]).fine 60 = true := by kernel_rfl
theorem alw_eq {d : D} (hk : Jk 50 d) : eqD d (.tup [.str "always"]) = some (isAlw d) := by
  have f := hk.fine60 (by decide)
  have : eqD d (.tup [.str "always"]) = if d.fine 60 && (D.tup [.str "always"]).fine 60 then some (d.eqv (.tup [.str "always"])) else none := by
    cases d <;> rfl
  rw [this, f, alw_fine, alw_eqv]
  rfl
def wordB (d : D) (m : Nat) : Bool := match d with
  | .tup [.str x] => decide (x = "always")
  | .tup [.str x, v] => if x = "energy" then isFrom v 1 4 else (decide (x = "rests") || decide (x = "runs")) && isFrom v 0 ((m : Int) - 1)
  | _ => false
theorem in_words {x : Str} (h : strGood x = true) : inD (.str x) (.tup [.str "rests", .str "runs"]) = some (decide (x = "rests") || decide (x = "runs")) := by
  have f1 : (D.str x).fine 60 = true := by simp [D.fine, h]
  have f2 : fineAll 60 [D.str "rests", .str "runs"] = true := by kernel_rfl
  show (if _ then _ else _) = _
  rw [f1, f2]
  have e1 : (D.str "rests").eqv (.str x) = decide (x = "rests") := by
    show decide _ = decide _
    by_cases q : x = "rests"
    · rw [decide_eq_true q, decide_eq_true q.symm]
    · rw [decide_eq_false q, decide_eq_false (fun e => q e.symm)]
  have e2 : (D.str "runs").eqv (.str x) = decide (x = "runs") := by
    show decide _ = decide _
    by_cases q : x = "runs"
    · rw [decide_eq_true q, decide_eq_true q.symm]
    · rw [decide_eq_false q, decide_eq_false (fun e => q e.symm)]
  show some ((D.str "rests").eqv (.str x) || ((D.str "runs").eqv (.str x) || false)) = _
  rw [e1, e2, Bool.or_false]
theorem not_str {d : D} (hk : d.known = true) (h : ∀ x, d ≠ .str x) : d.isT .str = false := by
  cases d <;> first | rfl | (exact absurd hk Bool.false_ne_true) | (exact absurd rfl (h _))
@[simp] theorem known_str (x : Str) : (D.str x).known = true := rfl
@[simp] theorem isT_str (x : Str) : (D.str x).isT .str = true := rfl
theorem two {ds : List D} (h : ds.length = 2) : ∃ a b, ds = [a, b] := by
  match ds, h with
  | [a, b], _ => exact ⟨a, b, rfl⟩
theorem sem_word (d : D) (hk : Jk 50 d) (m : Nat) : F_is_word.sem [d, .int m] = .ret ⟨.im, .bl (wordB d m)⟩ [] := by
  have qa := alw_eq hk
  have t1 := sem_is_tuple d 1 1 hk.known
  have t2 := sem_is_tuple d 2 2 hk.known
  rw [sm_is_word]
  by_cases h1 : ∃ x, d = .tup [.str x]
  · obtain ⟨x, rfl⟩ := h1
    have w : wordB (.tup [.str x]) m = decide (x = "always") := rfl
    have a : isAlw (.tup [.str x]) = decide (x = "always") := rfl
    have u1 : isTup (.tup [.str x]) 1 1 = true := rfl
    have u2 : isTup (.tup [.str x]) 2 2 = false := rfl
    rw [u1] at t1
    rw [u2] at t2
    rw [a] at qa
    rw [w]
    generalize decide (x = "always") = A at *
    rcases nrm_two (.tup [.str x]) with nr | nr <;> cases A <;> simp -implicitDefEqProofs [b_is_word, nr, qa, t1, t2, ME.pure, MEs.pure, MT.pure]
  · have na : isAlw d = false := by
      unfold isAlw
      split
      · exact absurd ⟨_, rfl⟩ h1
      · rfl
    rw [na] at qa
    by_cases h2 : ∃ a v, d = .tup [a, v]
    · obtain ⟨a, v, rfl⟩ := h2
      have u2 : isTup (.tup [a, v]) 2 2 = true := rfl
      rw [u2] at t2
      have ka := hk.item (d := a) (by simp)
      have kv := (hk.item (d := v) (by simp)).known
      have f1 := sem_is_from v 1 4 kv
      have f2 := sem_is_from v 0 ((m : Int) - 1) kv
      by_cases hs : ∃ x, a = .str x
      · obtain ⟨x, rfl⟩ := hs
        have gx : strGood x = true := by
          cases ka with
          | str _ _ h => exact h
        have iw := in_words gx
        have w : wordB (.tup [.str x, v]) m = if x = "energy" then isFrom v 1 4 else (decide (x = "rests") || decide (x = "runs")) && isFrom v 0 ((m : Int) - 1) := rfl
        rw [w]
        generalize isFrom v 1 4 = Q1 at *
        generalize isFrom v 0 ((m : Int) - 1) = Q2 at *
        by_cases q : x = "energy"
        · subst q
          rcases nrm_two (.tup [.str "energy", v]) with nr | nr <;> cases Q1 <;> simp -implicitDefEqProofs [b_is_word, nr, qa, t2, f1, ME.pure, MEs.pure, MT.pure]
        · rw [if_neg q]
          generalize (decide (x = "rests") || decide (x = "runs")) = B at *
          rcases nrm_two (.tup [.str x, v]) with nr | nr <;> cases B <;> cases Q2 <;> simp -implicitDefEqProofs [b_is_word, nr, qa, t2, f2, q, iw, ME.pure, MEs.pure, MT.pure]
      · have ns := not_str ka.known (fun x e => hs ⟨x, e⟩)
        have ka := ka.known
        have w : wordB (.tup [a, v]) m = false := by
          unfold wordB
          split
          · rename_i e; cases e
          · rename_i e; cases e; exact absurd ⟨_, rfl⟩ hs
          · rfl
        rw [w]
        rcases nrm_two (.tup [a, v]) with nr | nr <;> simp -implicitDefEqProofs [b_is_word, nr, qa, t2, ka, ns, ME.pure, MEs.pure, MT.pure]
    · have u2 : isTup d 2 2 = false := by
        cases d <;> first | rfl | skip
        rename_i ds
        by_cases e : ds.length = 2
        · obtain ⟨a, b, rfl⟩ := two e
          exact absurd ⟨a, b, rfl⟩ h2
        · unfold isTup
          simp only [Bool.and_eq_false_iff, decide_eq_false_iff_not]
          omega
      rw [u2] at t2
      have w : wordB d m = false := by
        unfold wordB
        split
        · exact absurd ⟨_, rfl⟩ h1
        · exact absurd ⟨_, _, rfl⟩ h2
        · rfl
      rw [w]
      simp -implicitDefEqProofs [b_is_word, qa, t2, ME.pure, MEs.pure, MT.pure]
end Tx
end

section
set_option Elab.async false
set_option linter.all false
set_option maxRecDepth 100000
set_option maxHeartbeats 8000000
/-! The plain law: is any value a list. -/
namespace Tx
open PySem L2 Ev Pl
def lineB (m : Nat) (d : D) : Bool := match d with
  | .tup [b, w] => isFrom b 0 ((m : Int) - 1) && wordB w m
  | _ => false
def listB (m : Nat) (d : D) : Bool := match d with
  | .tup ls => isTup (.tup ls) 1 4 && ls.all (lineB m)
  | _ => false
theorem not_two {d : D} (h : ¬ ∃ a b, d = .tup [a, b]) : isTup d 2 2 = false := by
  cases d <;> first | rfl | skip
  rename_i ds
  by_cases e : ds.length = 2
  · obtain ⟨a, b, rfl⟩ := two e
    exact absurd ⟨a, b, rfl⟩ h
  · unfold isTup
    simp only [Bool.and_eq_false_iff, decide_eq_false_iff_not]
    omega
theorem line_no {d : D} (m : Nat) (h : ¬ ∃ a b, d = .tup [a, b]) : lineB m d = false := by
  unfold lineB
  split
  · exact absurd ⟨_, _, rfl⟩ h
  · rfl
theorem sem_line (d : D) (hk : Jk 50 d) (m : Nat) : F_is_line.sem [d, .int m] = .ret ⟨.im, .bl (lineB m d)⟩ [] := by
  have t2 := sem_is_tuple d 2 2 hk.known
  rw [sm_is_line]
  by_cases h : ∃ a b, d = .tup [a, b]
  · obtain ⟨b, w, rfl⟩ := h
    have u2 : isTup (.tup [b, w]) 2 2 = true := rfl
    rw [u2] at t2
    have f1 := sem_is_from b 0 ((m : Int) - 1) (hk.item (d := b) (by simp)).known
    have f2 := sem_word w (hk.item (d := w) (by simp)) m
    have lb : lineB m (.tup [b, w]) = (isFrom b 0 ((m : Int) - 1) && wordB w m) := rfl
    rw [lb]
    generalize isFrom b 0 ((m : Int) - 1) = Q1 at *
    generalize wordB w m = Q2 at *
    rcases nrm_two (.tup [b, w]) with nr | nr <;> cases Q1 <;> cases Q2 <;> simp -implicitDefEqProofs [b_is_line, nr, t2, f1, f2, ME.pure, MEs.pure, MT.pure]
  · rw [not_two h] at t2
    rw [line_no m h]
    simp -implicitDefEqProofs [b_is_line, t2, ME.pure, MEs.pure, MT.pure]
theorem turns_lines (f : D → Option (Option RV)) (m : Nat) : ∀ (ls : List D), (∀ d ∈ ls, f d = some (some ⟨.im, .bl (lineB m d)⟩)) → turns f ls = some ((ls.map (lineB m)).map fun b => ⟨.im, .bl b⟩)
  | [], _ => rfl
  | d :: ls, h => by
    have ih := turns_lines f m ls fun x hx => h x (by simp [hx])
    unfold turns
    rw [h d (by simp), ih]
    rfl
theorem sem_has_listJ (bd : Brd) (d : D) (hk : Jk 50 d) : F_has_list.sem [bd.d, d] = .ret ⟨.im, .bl (listB bd.btns.length d)⟩ [] := by
  have t1 := sem_is_tuple d 1 4 hk.known
  rw [sm_has_list]
  have ll : ∀ t, biD .len [⟨t, bd.bs⟩] = some ⟨.im, .int bd.btns.length⟩ := fun t => by simp [Brd.bs]
  by_cases h : isTup d 1 4 = true
  · cases d <;> first | (exact absurd h Bool.false_ne_true) | skip
    rename_i ls
    have hl : ls.length ≤ 4 := by
      unfold isTup at h
      simp only [Bool.and_eq_true, decide_eq_true_eq] at h
      omega
    have lb : listB bd.btns.length (.tup ls) = (isTup (.tup ls) 1 4 && ls.all (lineB bd.btns.length)) := rfl
    rw [lb, h, Bool.true_and]
    rw [h] at t1
    have ty : ∀ t, (t = .im ∨ t = .vl) → turns (lczF G_has_list (intC ics) (.call 7 (.cons (.var 2) (.cons (.bi .len (.cons (.idx (.var 0) (.lit (.int 0))) .nil)) .nil))) (.nm 2 false) .tt t [some ⟨.vl, bd.d⟩, some ⟨.vl, .tup ls⟩, none]) ls = some ((ls.map (lineB bd.btns.length)).map fun b => ⟨.im, .bl b⟩) := fun t ht => by
      refine turns_lines _ _ ls fun d hd => ?_
      have kd := hk.item hd
      have sl := sem_line d kd bd.btns.length
      have rt : retT ⟨.im, .bl (lineB bd.btns.length d)⟩ = some ⟨.im, .bl (lineB bd.btns.length d)⟩ := rfl
      rcases ht with rfl | rfl <;> simp -implicitDefEqProofs [ll, sl, rt, ME.pure, MEs.pure, MT.pure]
    have le := lczE_ims D.bl (ls.map (lineB bd.btns.length)) (by rw [List.length_map, big_eq, sizeLine_eq]; omega)
    have al : biD .all [⟨.fr, .lst ((ls.map (lineB bd.btns.length)).map D.bl)⟩] = some ⟨.im, .bl (ls.all (lineB bd.btns.length))⟩ := by
      show (blsOf _).map _ = _
      rw [bls_all, Option.map_some, List.all_map]
      rfl
    have y1 := ty .im (.inl rfl)
    have y2 := ty .vl (.inr rfl)
    have s1 : seqD ⟨.im, .tup ls⟩ = some ⟨.im, .im, ls⟩ := rfl
    have s2 : seqD ⟨.vl, .tup ls⟩ = some ⟨.vl, .vl, ls⟩ := rfl
    generalize ((ls.map (lineB bd.btns.length)).map fun b => (⟨.im, .bl b⟩ : RV)) = Z at *
    generalize D.lst ((ls.map (lineB bd.btns.length)).map D.bl) = ZL at *
    generalize ls.all (lineB bd.btns.length) = R at *
    rcases nrm_two (.tup ls) with nr | nr <;> simp -implicitDefEqProofs [b_has_list, nr, t1, s1, s2, y1, y2, le, al, ME.pure, MEs.pure, MT.pure]
  · have h : isTup d 1 4 = false := by simpa using h
    have lb : listB bd.btns.length d = false := by
      unfold listB
      split
      · rw [h]; rfl
      · rfl
    rw [lb]
    rw [h] at t1
    simp -implicitDefEqProofs [b_has_list, t1, ME.pure, MEs.pure, MT.pure]
theorem sem_is_listJ (bd : Brd) (hb : BrdOk bd) (d : D) (hk : Jk 50 d) : F_is_list.sem [bd.d, d] = .ret ⟨.im, .bl (listB bd.btns.length d)⟩ [] := by
  have nb := sem_need_board bd hb
  have hl := sem_has_listJ bd d hk
  rw [sm_is_list]
  simp -implicitDefEqProofs [b_is_list, nb, hl, ME.pure, MEs.pure, MT.pure]
/-! the law's own -/
def topsD (n : Int) : D := .dic [.str "runs", .str "rests", .str "energy"] [.tup [.int 0, .int n], .tup [.int 0, .int n], .tup [.int 1, .int 4]]
theorem tops_disp (n : Int) : dispD [.str "runs", .tup [.int 0, .int n], .str "rests", .tup [.int 0, .int n], .str "energy", .tup [.int 1, .int 4]] = some ⟨.fr, topsD n⟩ := by kernel_rfl
theorem tops_in1 (n : Int) : inD (.str "runs") (topsD n) = some true := by kernel_rfl
theorem tops_in2 (n : Int) : inD (.str "rests") (topsD n) = some true := by kernel_rfl
theorem tops_in3 (n : Int) : inD (.str "energy") (topsD n) = some true := by kernel_rfl
theorem tops_ix1 (n : Int) (t : RT) : idxD ⟨t, topsD n⟩ (.str "runs") = some ⟨t, .tup [.int 0, .int n]⟩ := by kernel_rfl
theorem tops_ix2 (n : Int) (t : RT) : idxD ⟨t, topsD n⟩ (.str "rests") = some ⟨t, .tup [.int 0, .int n]⟩ := by kernel_rfl
theorem tops_ix3 (n : Int) (t : RT) : idxD ⟨t, topsD n⟩ (.str "energy") = some ⟨t, .tup [.int 1, .int 4]⟩ := by kernel_rfl
theorem tops_no (n : Int) {x : Str} (g : strGood x = true) (h1 : x ≠ "runs") (h2 : x ≠ "rests") (h3 : x ≠ "energy") : inD (.str x) (topsD n) = some false := by
  have kf : keyFit (.str x) [.str "runs", .str "rests", .str "energy"] = true := by
    unfold keyFit
    rw [Bool.and_eq_true]
    exact ⟨by simp [D.keyed, g], rfl⟩
  have e : ∀ y : Str, x ≠ y → (D.str y).eqv (.str x) = false := fun y hy => decide_eq_false fun e => hy e.symm
  show (if keyFit (.str x) [.str "runs", .str "rests", .str "energy"] = true then some (keyAt (.str x) [.str "runs", .str "rests", .str "energy"]).isSome else none) = _
  rw [if_pos kf]
  unfold keyAt keyAt keyAt keyAt
  rw [e _ h1, e _ h2, e _ h3]
  rfl
end Tx
end

section
set_option Elab.async false
set_option linter.all false
set_option maxRecDepth 100000
set_option maxHeartbeats 8000000
/-! The plain law: any text is read. -/
namespace Tx
open PySem L2 Ev Pl TL
def numsT : List Str := ["0", "1", "2", "3", "4"]
def numsD : D := .tup [.str "0", .str "1", .str "2", .str "3", .str "4"]
def numT (w : Str) : D := match numsT.findIdx? (fun y => decide (y = w)) with
  | some j => .int (j : Int)
  | none => .non
def lineT (row : Str) : D := match Txt.split row " " with
  | [_, b] => .tup [numT b, .tup [.str "always"]]
  | [_, b, _, d, e] => .tup [numT b, .tup [.str d, numT e]]
  | _ => .non
theorem num_two (w : Str) : numT w = .non ∨ ∃ j : Nat, numT w = .int j := by
  unfold numT
  cases numsT.findIdx? (fun y => decide (y = w)) with
  | none => exact .inl rfl
  | some j => exact .inr ⟨j, rfl⟩
theorem num_imm (w : Str) : (numT w).imm = true := by rcases num_two w with h | ⟨j, h⟩ <;> rw [h] <;> simp
theorem num_in {w : Str} (h : strGood w = true) : inD (.str w) numsD = some (numsT.findIdx? (fun y => decide (y = w))).isSome := by
  have f : fineAll 60 [.str "0", .str "1", .str "2", .str "3", .str "4"] = true := by kernel_rfl
  show (if (D.str w).fine 60 && fineAll 60 [.str "0", .str "1", .str "2", .str "3", .str "4"] then some ([D.str "0", .str "1", .str "2", .str "3", .str "4"].any fun d => d.eqv (.str w)) else none) = _
  have g : (D.str w).fine 60 = true := by simpa [D.fine] using h
  rw [f, g, Bool.and_true, if_pos rfl]
  have e : ∀ y : Str, (D.str y).eqv (.str w) = decide (y = w) := fun y => rfl
  simp only [numsT, List.any_cons, List.any_nil, e, List.findIdx?_cons, List.findIdx?_nil]
  cases decide ((("0" : Str)) = w) <;> cases decide ((("1" : Str)) = w) <;> cases decide ((("2" : Str)) = w) <;> cases decide ((("3" : Str)) = w) <;> cases decide ((("4" : Str)) = w) <;> rfl
theorem num_ix (w : Str) : ixoD numsD (.str w) = (numsT.findIdx? (fun y => decide (y = w))).map fun (j : Nat) => ⟨.im, .int (j : Int)⟩ := rfl
theorem ev_num (w : Str) (h : strGood w = true) (X : List (Option SV)) (j : Option SV) (hX : X.length = 3) (f : freeO j = true) : lczF G_line_from (intC ics) (.ite (.val (.cmp .in_ (.var 3) (.glob 1))) (.ixo (.glob 1) (.var 3)) (.lit .non)) (.nm 3 false) .tt .vl (X ++ [j]) (.str w) = some (some ⟨.im, numT w⟩) := by
  obtain ⟨x, y, z, rfl⟩ : ∃ x y z, X = [x, y, z] := by
    match X, hX with
    | [x, y, z], _ => exact ⟨x, y, z, rfl⟩
  have i1 := num_in h
  have i2 := num_ix w
  have i0 : D.tup [.str "0", .str "1", .str "2", .str "3", .str "4"] = numsD := rfl
  have nN : ∀ t, RV.nrm ⟨t, numsD⟩ = ⟨.im, numsD⟩ := fun t => nrm_of rfl
  have st : strTup numsD = true := by kernel_rfl
  have en : numT w = match numsT.findIdx? (fun y => decide (y = w)) with
    | some j => .int (j : Int)
    | none => .non := rfl
  rw [en]
  cases hh : numsT.findIdx? (fun y => decide (y = w)) with
  | none =>
    rw [hh] at i1 i2
    rw [Option.isSome_none] at i1
    generalize numsD = N at *
    simp -implicitDefEqProofs [f, i0, i1, i2, nN, st, ME.pure, MEs.pure, MT.pure]
  | some k =>
    rw [hh] at i1 i2
    rw [Option.isSome_some] at i1
    rw [Option.map_some] at i2
    generalize numsD = N at *
    simp -implicitDefEqProofs [f, i0, i1, i2, nN, st, ME.pure, MEs.pure, MT.pure]
theorem line_non {ws : List Str} (h2 : ws.length ≠ 2) (h5 : ws.length ≠ 5) : (match ws with
  | [_, b] => D.tup [numT b, .tup [.str "always"]]
  | [_, b, _, d, e] => .tup [numT b, .tup [.str d, numT e]]
  | _ => .non) = .non := by
  split
  · exact absurd rfl h2
  · exact absurd rfl h5
  · rfl
theorem five' {ds : List Str} (h : ds.length = 5) : ∃ a b c d e, ds = [a, b, c, d, e] := by
  match ds, h with
  | [a, b, c, d, e], _ => exact ⟨a, b, c, d, e, rfl⟩
theorem sem_line_from (row : Str) (h : strGood row = true) (hl : row.length ≤ 3000) : F_line_from.sem [.str row] = .ret ⟨.im, lineT row⟩ [] := by
  have sp := fun t u => split_ofB t u row " " (by rw [len_sp]; omega) (by omega)
  have gs := good_split " " h
  have wl := wt_split row " " (by rw [len_sp]; omega)
  have hlen := wt_len (Txt.split row " ")
  unfold lineT
  generalize Txt.split row " " = ws at *
  have tm := turns_map (lczF G_line_from (intC ics) (.ite (.val (.cmp .in_ (.var 3) (.glob 1))) (.ixo (.glob 1) (.var 3)) (.lit .non)) (.nm 3 false) .tt .vl [some ⟨.vl, .str row⟩, some ⟨.vl, strL ws⟩, none, none]) D.str numT ws fun w hw => ev_num w (gs w hw) [some ⟨.vl, .str row⟩, some ⟨.vl, strL ws⟩, none] none rfl rfl
  have le := lczE_ims numT ws (by rw [big_eq, sizeLine_eq]; omega)
  have sq : ∀ t, seqD ⟨t, strL ws⟩ = some ⟨t, t.item, ws.map D.str⟩ := fun _ => rfl
  have ln := fun t => len_strL t ws
  have it : (D.str row).isStr = true := rfl
  have ns := fun t => strL_nrm t ws
  rw [sm_line_from]
  by_cases h2 : ws.length = 2
  · obtain ⟨a, b, rfl⟩ : ∃ a b, ws = [a, b] := by
      match ws, h2 with
      | [a, b], _ => exact ⟨a, b, rfl⟩
    show _ = SR.ret ⟨.im, .tup [numT b, .tup [.str "always"]]⟩ []
    have ln : ∀ t, biD .len [⟨t, strL [a, b]⟩] = some ⟨.im, .int 2⟩ := ln
    have x1 : ∀ t, idxD ⟨t, .lst ([a, b].map numT)⟩ (.int 1) = some ⟨t, numT b⟩ := fun t => by simp
    have nl : ∀ t, RV.nrm ⟨t, .lst ([a, b].map numT)⟩ = ⟨t, .lst ([a, b].map numT)⟩ := fun t => by simp
    have nb : ∀ t, RV.nrm ⟨t, numT b⟩ = ⟨.im, numT b⟩ := fun t => nrm_of (num_imm b)
    have ib := num_imm b
    generalize [a, b].map D.str = DL at *
    generalize ([a, b].map fun x => (⟨.im, numT x⟩ : RV)) = Z at *
    generalize D.lst ([a, b].map numT) = NL at *
    generalize strL [a, b] = SL at *
    generalize numT b = NB at *
    simp -implicitDefEqProofs [b_line_from, it, sp, sq, tm, le, ln, ns, x1, nl, nb, ib, ME.pure, MEs.pure, MT.pure]
  · by_cases h5 : ws.length = 5
    · obtain ⟨a, b, c, d, e, rfl⟩ := five' h5
      show _ = SR.ret ⟨.im, .tup [numT b, .tup [.str d, numT e]]⟩ []
      have ln : ∀ t, biD .len [⟨t, strL [a, b, c, d, e]⟩] = some ⟨.im, .int 5⟩ := ln
      have x1 : ∀ t, idxD ⟨t, .lst ([a, b, c, d, e].map numT)⟩ (.int 1) = some ⟨t, numT b⟩ := fun t => by simp
      have x4 : ∀ t, idxD ⟨t, .lst ([a, b, c, d, e].map numT)⟩ (.int 4) = some ⟨t, numT e⟩ := fun t => by simp
      have x3 : ∀ t, idxD ⟨t, strL [a, b, c, d, e]⟩ (.int 3) = some ⟨t, .str d⟩ := fun t => by simp [strL]
      have nl : ∀ t, RV.nrm ⟨t, .lst ([a, b, c, d, e].map numT)⟩ = ⟨t, .lst ([a, b, c, d, e].map numT)⟩ := fun t => by simp
      have nb : ∀ t, RV.nrm ⟨t, numT b⟩ = ⟨.im, numT b⟩ := fun t => nrm_of (num_imm b)
      have ne : ∀ t, RV.nrm ⟨t, numT e⟩ = ⟨.im, numT e⟩ := fun t => nrm_of (num_imm e)
      have ib := num_imm b
      have ie := num_imm e
      generalize [a, b, c, d, e].map D.str = DL at *
      generalize ([a, b, c, d, e].map fun x => (⟨.im, numT x⟩ : RV)) = Z at *
      generalize D.lst ([a, b, c, d, e].map numT) = NL at *
      generalize strL [a, b, c, d, e] = SL at *
      generalize numT b = NB at *
      generalize numT e = NE at *
      simp -implicitDefEqProofs [b_line_from, it, sp, sq, tm, le, ln, ns, x1, x3, x4, nl, nb, ne, ib, ie, ME.pure, MEs.pure, MT.pure]
    · have nl : ∀ t, RV.nrm ⟨t, .lst (ws.map numT)⟩ = ⟨t, .lst (ws.map numT)⟩ := fun t => by simp
      have q2 : decide ((ws.length : Int) = 2) = false := decide_eq_false (by omega)
      have q5 : decide ((ws.length : Int) = 5) = false := decide_eq_false (by omega)
      have e2 : ∀ n : Nat, n ≠ 2 → eqD (.int (n : Int)) (.int 2) = some false := fun n hn => congrArg some (decide_eq_false (by omega))
      have e5 : ∀ n : Nat, n ≠ 5 → eqD (.int (n : Int)) (.int 5) = some false := fun n hn => congrArg some (decide_eq_false (by omega))
      have e2 := e2 _ h2
      have e5 := e5 _ h5
      rw [line_non h2 h5]
      generalize ws.map D.str = DL at *
      generalize (ws.map fun x => (⟨.im, numT x⟩ : RV)) = Z at *
      generalize D.lst (ws.map numT) = NL at *
      generalize strL ws = SL at *
      generalize (ws.length : Int) = LN at *
      simp -implicitDefEqProofs [b_line_from, it, sp, sq, tm, le, ln, ns, nl, e2, e5, q2, q5, ME.pure, MEs.pure, MT.pure]
end Tx
end

section
set_option Elab.async false
set_option linter.all false
set_option maxRecDepth 100000
set_option maxHeartbeats 4000000
/-! The plain law: random lists. -/
namespace Tx
open PySem L2 Ev Pl
def wds : List Wrd := [.always, .always, .runs 0, .rests 0, .energy 1, .runs 1]
theorem pick_word (a b : Int) (ok : SrcOk a b) : ∃ (w : Wrd) (a' b' : Int), F__law_choice.sem [srcD a b, .lst [Wrd.always.d, Wrd.always.d, (Wrd.runs 0).d, (Wrd.rests 0).d, (Wrd.energy 1).d, (Wrd.runs 1).d]] = .ret ⟨.im, w.d⟩ [srcD a' b'] ∧ SrcOk a' b' := by
  obtain ⟨xp, a1, b1, e1, m1, ok1⟩ := sem_choice a b (wds.map Wrd.d) ok (by simp [wds]) (by simp [wds]) (fun x hx => by
    obtain ⟨p, _, rfl⟩ := List.mem_map.1 hx
    exact Wrd.imm p)
  obtain ⟨p, _, rfl⟩ := List.mem_map.1 m1
  exact ⟨p, a1, b1, e1, ok1⟩
theorem wl_a : lenD Wrd.always.d = some ⟨.im, .int 1⟩ := rfl
theorem wl_e (n : Int) : lenD (Wrd.energy n).d = some ⟨.im, .int 2⟩ := rfl
theorem wl_r (n : Nat) : lenD (Wrd.runs n).d = some ⟨.im, .int 2⟩ := rfl
theorem wl_t (n : Nat) : lenD (Wrd.rests n).d = some ⟨.im, .int 2⟩ := rfl
theorem wd_a : D.tup [.str "always"] = Wrd.always.d := rfl
theorem wd_e (n : Int) : D.tup [.str "energy", .int n] = (Wrd.energy n).d := rfl
theorem wd_r (n : Nat) : D.tup [.str "runs", .int n] = (Wrd.runs n).d := rfl
theorem wd_t (n : Nat) : D.tup [.str "rests", .int n] = (Wrd.rests n).d := rfl
theorem add_lns (ls : List Lin) (n : Nat) (w : Wrd) (h : ls.length + 1 ≤ big) : opD .add ⟨.im, lns ls⟩ ⟨.im, .tup [.tup [.int n, w.d]]⟩ = some ⟨.im, lns (ls ++ [Lin.mk n w])⟩ := by
  show opD .add ⟨.im, .tup (ls.map Lin.d)⟩ ⟨.im, .tup [(Lin.mk n w).d]⟩ = some ⟨.im, .tup ((ls ++ [Lin.mk n w]).map Lin.d)⟩
  rw [addT_eq, List.length_map, List.length_singleton, if_pos h, List.map_append, List.map_singleton]
end Tx
end

section
set_option Elab.async false
set_option linter.all false
set_option maxRecDepth 100000
set_option maxHeartbeats 4000000
/-! The plain law: a random list, tick by tick. -/
namespace Tx
open PySem L2 Ev Pl
theorem sAE : (decide (("always" : Str) = "energy")) = false := rfl
theorem list_step (bd : Brd) (m : Nat) (h1 : 1 ≤ m) (h3 : m ≤ 3) (a b : Int) (ok : SrcOk a b) (t : ST) (ht : ∀ d, freeO (some ⟨t, d⟩) = true) (ls : List Lin) (hl : ls.length ≤ 100) (j4 j5 : Option SV) (h5 : freeO j5 = true) : ∃ (a' b' : Int) (l : Lin) (j5' : Option SV), exs G__law_list (intC ics) l__law_list_1 [some ⟨.rf, srcD a b⟩, some ⟨.vl, bd.d⟩, some ⟨t, lns ls⟩, some ⟨.im, .int m⟩, j4, j5] = .ok .nx [some ⟨.rf, srcD a' b'⟩, some ⟨.vl, bd.d⟩, some ⟨.im, lns (ls ++ [l])⟩, some ⟨.im, .int m⟩, j4, j5'] ∧ SrcOk a' b' ∧ LinOk m l ∧ freeO j5' = true := by
  obtain ⟨w, a1, b1, e1, ok1⟩ := pick_word a b ok
  have lb : ls.length + 1 ≤ big := Nat.le_trans (show _ ≤ 101 by omega) (by decide)
  have e1' : F__law_choice.sem [srcD a b, .lst [.tup [.str "always"], .tup [.str "always"], .tup [.str "runs", .int 0], .tup [.str "rests", .int 0], .tup [.str "energy", .int 1], .tup [.str "runs", .int 1]]] = _ := e1
  cases w with
  | always =>
    obtain ⟨r, a2, b2, e2, r0, r1, ok2⟩ := sem_draw a1 b1 m ok1 (by omega) (by omega)
    obtain ⟨n, rfl⟩ : ∃ n : Nat, r = n := ⟨r.toNat, by omega⟩
    refine ⟨a2, b2, ⟨n, .always⟩, some ⟨.im, Wrd.always.d⟩, ?_, ok2, ⟨by show n < m; omega, trivial⟩, rfl⟩
    have ad := add_lns ls n .always lb
    simp -implicitDefEqProofs [l__law_list_1, h5, ht, e1', e2, wl_a, sAE, ad, ME.pure, MEs.pure, MT.pure]
  | energy k =>
    obtain ⟨x, a2, b2, e2, x0, x1, ok2⟩ := sem_draw a1 b1 4 ok1 (by omega) (by omega)
    obtain ⟨r, a3, b3, e3, r0, r1, ok3⟩ := sem_draw a2 b2 m ok2 (by omega) (by omega)
    obtain ⟨n, rfl⟩ : ∃ n : Nat, r = n := ⟨r.toNat, by omega⟩
    refine ⟨a3, b3, ⟨n, .energy (1 + x)⟩, some ⟨.im, (Wrd.energy (1 + x)).d⟩, ?_, ok3, ⟨by show n < m; omega, by show 1 ≤ 1 + x; omega, by show 1 + x ≤ 4; omega⟩, rfl⟩
    have ad := add_lns ls n (.energy (1 + x)) lb
    have e1e : F__law_choice.sem [srcD a b, .lst [.tup [.str "always"], .tup [.str "always"], .tup [.str "runs", .int 0], .tup [.str "rests", .int 0], (Wrd.energy 1).d, .tup [.str "runs", .int 1]]] = _ := e1
    simp -implicitDefEqProofs [l__law_list_1, h5, ht, e1e, e2, e3, wl_e, sEE, wd_e, ad, ME.pure, MEs.pure, MT.pure]
  | runs i =>
    obtain ⟨x, a2, b2, e2, x0, x1, ok2⟩ := sem_draw a1 b1 m ok1 (by omega) (by omega)
    obtain ⟨q, rfl⟩ : ∃ n : Nat, x = n := ⟨x.toNat, by omega⟩
    obtain ⟨r, a3, b3, e3, r0, r1, ok3⟩ := sem_draw a2 b2 m ok2 (by omega) (by omega)
    obtain ⟨n, rfl⟩ : ∃ n : Nat, r = n := ⟨r.toNat, by omega⟩
    refine ⟨a3, b3, ⟨n, .runs q⟩, some ⟨.im, (Wrd.runs q).d⟩, ?_, ok3, ⟨by show n < m; omega, by show q < m; omega⟩, rfl⟩
    have ad := add_lns ls n (.runs q) lb
    simp -implicitDefEqProofs [l__law_list_1, h5, ht, e1', e2, e3, wl_r, sRE, wd_r, ad, ME.pure, MEs.pure, MT.pure]
  | rests i =>
    obtain ⟨x, a2, b2, e2, x0, x1, ok2⟩ := sem_draw a1 b1 m ok1 (by omega) (by omega)
    obtain ⟨q, rfl⟩ : ∃ n : Nat, x = n := ⟨x.toNat, by omega⟩
    obtain ⟨r, a3, b3, e3, r0, r1, ok3⟩ := sem_draw a2 b2 m ok2 (by omega) (by omega)
    obtain ⟨n, rfl⟩ : ∃ n : Nat, r = n := ⟨r.toNat, by omega⟩
    refine ⟨a3, b3, ⟨n, .rests q⟩, some ⟨.im, (Wrd.rests q).d⟩, ?_, ok3, ⟨by show n < m; omega, by show q < m; omega⟩, rfl⟩
    have ad := add_lns ls n (.rests q) lb
    simp -implicitDefEqProofs [l__law_list_1, h5, ht, e1', e2, e3, wl_t, sTE, wd_t, ad, ME.pure, MEs.pure, MT.pure]
end Tx
end

section
set_option Elab.async false
set_option linter.all false
set_option maxRecDepth 100000
set_option maxHeartbeats 4000000
/-! The plain law: a random list. -/
namespace Tx
open PySem L2 Ev Pl
theorem loop_list (bd : Brd) (m : Nat) (h1 : 1 ≤ m) (h3 : m ≤ 3) : ∀ (l : List Nat) (a b : Int) (t : ST) (ls : List Lin) (j4 j5 : Option SV), SrcOk a b → (∀ d, freeO (some ⟨t, d⟩) = true) → ls.length + l.length ≤ 100 → (∀ x ∈ ls, LinOk m x) → freeO j4 = true → freeO j5 = true → ∃ (a' b' : Int) (t' : ST) (ls' : List Lin) (j4' j5' : Option SV), forR (bindT (.nm 4 false) .im) (exs G__law_list (intC ics) l__law_list_1) (l.map fun (i : Nat) => D.int i) [some ⟨.rf, srcD a b⟩, some ⟨.vl, bd.d⟩, some ⟨t, lns ls⟩, some ⟨.im, .int m⟩, j4, j5] = .ok .nx [some ⟨.rf, srcD a' b'⟩, some ⟨.vl, bd.d⟩, some ⟨t', lns ls'⟩, some ⟨.im, .int m⟩, j4', j5'] ∧ SrcOk a' b' ∧ ls'.length = ls.length + l.length ∧ (∀ x ∈ ls', LinOk m x)
  | [], a, b, t, ls, j4, j5, ok, ht, hl, ho, h4, h5 => ⟨a, b, t, ls, j4, j5, rfl, ok, rfl, ho⟩
  | i :: l, a, b, t, ls, j4, j5, ok, ht, hl, ho, h4, h5 => by
    rw [List.length_cons] at hl
    obtain ⟨a1, b1, x, k5, e, ok1, lx, f5⟩ := list_step bd m h1 h3 a b ok t ht ls (by omega) (some ⟨.im, .int i⟩) j5 h5
    obtain ⟨a', b', t', ls', k4', k5', e', ok', hl', ho'⟩ := loop_list bd m h1 h3 l a1 b1 .im (ls ++ [x]) (some ⟨.im, .int i⟩) k5 ok1 (fun _ => rfl) (by rw [List.length_append, List.length_singleton]; omega) (fun y hy => by
      rcases List.mem_append.1 hy with h | h
      · exact ho y h
      · rw [List.mem_singleton] at h
        subst h
        exact lx) rfl f5
    refine ⟨a', b', t', ls', k4', k5', ?_, ok', ?_, ho'⟩
    · rw [List.map_cons, forR_cons]
      simp -implicitDefEqProofs [h4, e]
      exact e'
    · rw [hl', List.length_append, List.length_singleton, List.length_cons]
      omega
theorem sem_list (bd : Brd) (hb : BrdOk bd) (a b : Int) (ok : SrcOk a b) : ∃ (ls : List Lin) (a' b' : Int), F__law_list.sem [srcD a b, bd.d] = .ret ⟨.im, lns ls⟩ [srcD a' b'] ∧ SrcOk a' b' ∧ LnsOk bd.btns.length ls := by
  obtain ⟨k, a1, b1, e1, hk, ok1⟩ := pick_ints a b [1, 2, 2, 3, 3, 4] 1 4 ok (by simp) (by decide) (by decide)
  obtain ⟨n, rfl⟩ : ∃ n : Nat, k = n := ⟨k.toNat, by omega⟩
  obtain ⟨a', b', t', ls', k4, k5, e, ok', hl, ho⟩ := loop_list bd bd.btns.length hb.lo hb.hi (List.range n) a1 b1 .im [] none none ok1 (fun _ => rfl) (by rw [List.length_range, List.length_nil]; omega) (fun x h => by cases h) rfl rfl
  rw [List.length_range, List.length_nil] at hl
  refine ⟨ls', a', b', ?_, ok', ⟨by omega, by omega, ho⟩⟩
  rw [sm__law_list]
  have p0 : D.tup [] = lns [] := rfl
  have r2 : (n : Int) < 1000000000 := by omega
  simp at e1
  simp -implicitDefEqProofs [b__law_list, e1, r2, p0, parOk, parT_imm, e, ME.pure, MEs.pure, MT.pure]
end Tx
end

section
set_option Elab.async false
set_option linter.all false
set_option maxRecDepth 100000
set_option maxHeartbeats 8000000
/-! The plain law: read_list of any text. -/
namespace Tx
open PySem L2 Ev Pl TL
theorem typed_word {w : D} {m : Nat} (h : wordB w m = true) : ∃ W : Wrd, WrdOk m W ∧ w = W.d := by
  unfold wordB at h
  split at h
  · rename_i x
    have e := of_decide_eq_true h
    subst e
    exact ⟨.always, trivial, rfl⟩
  · rename_i x v
    by_cases c : x = "energy"
    · subst c
      rw [if_pos rfl] at h
      obtain ⟨i, rfl, h1, h2⟩ := from_int h
      exact ⟨.energy i, ⟨h1, h2⟩, rfl⟩
    · rw [if_neg c] at h
      obtain ⟨h1, h2⟩ := Bool.and_eq_true_iff.mp h
      obtain ⟨i, rfl, h3, h4⟩ := from_int h2
      obtain ⟨k, rfl⟩ := Int.eq_ofNat_of_zero_le h3
      rcases Bool.or_eq_true_iff.mp h1 with e | e
      · have e := of_decide_eq_true e
        subst e
        exact ⟨.rests k, (by show k < m; omega), rfl⟩
      · have e := of_decide_eq_true e
        subst e
        exact ⟨.runs k, (by show k < m; omega), rfl⟩
  · cases h
theorem typed_line {d : D} {m : Nat} (h : lineB m d = true) : ∃ l : Lin, LinOk m l ∧ d = l.d := by
  unfold lineB at h
  split at h
  · rename_i b w
    obtain ⟨h1, h2⟩ := Bool.and_eq_true_iff.mp h
    obtain ⟨i, rfl, h3, h4⟩ := from_int h1
    obtain ⟨k, rfl⟩ := Int.eq_ofNat_of_zero_le h3
    obtain ⟨W, hW, rfl⟩ := typed_word h2
    exact ⟨⟨k, W⟩, ⟨(by show k < m; omega), hW⟩, rfl⟩
  · cases h
theorem typed_lines {m : Nat} : ∀ (L : List D), L.all (lineB m) = true → ∃ ls : List Lin, (∀ l ∈ ls, LinOk m l) ∧ L = ls.map Lin.d
  | [], _ => ⟨[], fun _ h => (by cases h), rfl⟩
  | d :: L, h => by
    rw [List.all_cons] at h
    obtain ⟨h1, h2⟩ := Bool.and_eq_true_iff.mp h
    obtain ⟨l, k1, rfl⟩ := typed_line h1
    obtain ⟨ls, k2, rfl⟩ := typed_lines L h2
    exact ⟨l :: ls, fun x hx => by
      rcases List.mem_cons.1 hx with rfl | hx
      · exact k1
      · exact k2 x hx, rfl⟩
theorem typed_list {m : Nat} {L : List D} (h : listB m (.tup L) = true) : ∃ ls : List Lin, LnsOk m ls ∧ L = ls.map Lin.d := by
  have h' : (isTup (.tup L) 1 4 && L.all (lineB m)) = true := h
  obtain ⟨h1, h2⟩ := Bool.and_eq_true_iff.mp h'
  obtain ⟨ls, k1, rfl⟩ := typed_lines L h2
  unfold isTup at h1
  simp only [Bool.and_eq_true, decide_eq_true_eq, List.length_map] at h1
  exact ⟨ls, ⟨by omega, by omega, k1⟩, rfl⟩
theorem num_jk (w : Str) (n : Nat) : Jk n (numT w) := by rcases num_two w with h | ⟨j, h⟩ <;> rw [h] <;> constructor
theorem line_jk {row : Str} (h : strGood row = true) : Jk 2 (lineT row) := by
  have g := good_split " " h
  have ga : strGood "always" = true := by kernel_rfl
  unfold lineT
  split
  · rename_i b e
    exact .tup 1 _ (by simp) fun d hd => by
      simp only [List.mem_cons, List.not_mem_nil, or_false] at hd
      rcases hd with rfl | rfl
      · exact num_jk _ _
      · exact .tup 0 _ (by simp) fun d hd => by
          simp only [List.mem_cons, List.not_mem_nil, or_false] at hd
          subst hd
          exact .str _ _ ga
  · rename_i b c d e ee
    rw [ee] at g
    exact .tup 1 _ (by simp) fun x hd => by
      simp only [List.mem_cons, List.not_mem_nil, or_false] at hd
      rcases hd with rfl | rfl
      · exact num_jk _ _
      · exact .tup 0 _ (by simp) fun x hd => by
          simp only [List.mem_cons, List.not_mem_nil, or_false] at hd
          rcases hd with rfl | rfl
          · exact .str _ _ (g _ (by simp))
          · exact num_jk _ _
  · exact .non _
theorem line_imm (row : Str) : (lineT row).imm = true := by
  unfold lineT
  split <;> simp [num_imm]
/-- has_list at what was read -/
theorem has_read (bd : Brd) (rows : List Str) (h : ∀ r ∈ rows, strGood r = true) : F_has_list.sem [bd.d, .tup (rows.map lineT)] = .ret ⟨.im, .bl (listB bd.btns.length (.tup (rows.map lineT)))⟩ [] := by
  by_cases h4 : rows.length ≤ 4
  · refine sem_has_listJ bd _ (Jk.mono (n := 3) (.tup 2 _ (by rw [List.length_map]; omega) fun d hd => ?_) (by omega))
    obtain ⟨r, hr, rfl⟩ := List.mem_map.1 hd
    exact line_jk (h r hr)
  · have t1 := sem_is_tuple (.tup (rows.map lineT)) 1 4 rfl
    have t0 : isTup (.tup (rows.map lineT)) 1 4 = false := by
      unfold isTup
      simp only [Bool.and_eq_false_iff, decide_eq_false_iff_not, List.length_map]
      omega
    have lb : listB bd.btns.length (.tup (rows.map lineT)) = false := by
      show (isTup _ 1 4 && _) = false
      rw [t0]; rfl
    have nr : ∀ t, RV.nrm ⟨t, .tup (rows.map lineT)⟩ = ⟨.im, .tup (rows.map lineT)⟩ := fun t => nrm_of (by rw [imm_tup]; exact immAll_map _ _ fun x _ => line_imm x)
    rw [t0] at t1
    rw [lb, sm_has_list]
    generalize D.tup (rows.map lineT) = T at *
    simp -implicitDefEqProofs [b_has_list, nr, t1, ME.pure, MEs.pure, MT.pure]
theorem wrd_inj : ∀ {a b : Wrd}, a.d = b.d → a = b := by
  intro a b h
  cases a <;> cases b <;> simp [Wrd.d] at h <;> first | rfl | (subst h; rfl) | (rw [Int.ofNat_inj.1 h]) | (exfalso; have h1 := h.1; revert h1; decide +kernel)
theorem lin_inj {a b : Lin} (h : a.d = b.d) : a = b := by
  obtain ⟨x, u⟩ := a
  obtain ⟨y, v⟩ := b
  unfold Lin.d at h
  injection h with h
  injection h with h1 h2
  injection h1 with h1
  injection h2 with h2
  have := wrd_inj h2
  have e : x = y := by exact Int.ofNat_inj.1 h1
  subst e
  have this : u = v := this
  rw [this]
theorem lins_inj : ∀ {a b : List Lin}, a.map Lin.d = b.map Lin.d → a = b
  | [], [], _ => rfl
  | [], _ :: _, h => by cases h
  | _ :: _, [], h => by cases h
  | a :: as, b :: bs, h => by
    rw [List.map_cons, List.map_cons] at h
    injection h with h1 h2
    rw [lin_inj h1, lins_inj h2]
theorem eq_strs (t u : Str) : eqD (.str t) (.str u) = some (decide (t = u)) := rfl
theorem text_good (ls : List Lin) (h : ∀ l ∈ ls, l ∈ linSet) : strGood (textT ls) = true := by
  refine good_join (by kernel_rfl) fun p hp => ?_
  obtain ⟨l, hl, rfl⟩ := List.mem_map.1 hp
  have : ∀ l ∈ linSet, strGood (rowT l) = true := by decide +kernel
  exact this l (h l hl)
theorem row_line : ∀ l ∈ linSet, lineT (rowT l) = l.d := by
  intro l hl
  simp only [linSet, wrdSet, List.flatMap_cons, List.flatMap_nil, List.map_cons, List.map_nil, List.mem_append, List.mem_cons, List.not_mem_nil, or_false] at hl
  rcases hl with (rfl | rfl | rfl | rfl | rfl | rfl | rfl | rfl | rfl | rfl | rfl) | (rfl | rfl | rfl | rfl | rfl | rfl | rfl | rfl | rfl | rfl | rfl) | (rfl | rfl | rfl | rfl | rfl | rfl | rfl | rfl | rfl | rfl | rfl) <;> kernel_rfl
/-- a text is a list's, or it is refused -/
theorem sem_read (bd : Brd) (hb : BrdOk bd) (x : Str) (hx : strGood x = true) (hl : x.length ≤ 2000) :
    (∃ ls, LnsOk bd.btns.length ls ∧ textT ls = x ∧ F_read_list.sem [bd.d, .str x] = .ret ⟨.im, lns ls⟩ []) ∨ ((∀ ls, LnsOk bd.btns.length ls → textT ls ≠ x) ∧ F_read_list.sem [bd.d, .str x] = .ex 1 []) := by
  have sp := fun t u => split_ofB t u x "\n" (by rw [len_nl]; omega) (by omega)
  have gs := good_split "\n" hx
  have wl := wt_split x "\n" (by rw [len_nl]; omega)
  have hlen := wt_len (Txt.split x "\n")
  have full : ∀ ls, LnsOk bd.btns.length ls → textT ls = x → Txt.split x "\n" = ls.map rowT ∧ listB bd.btns.length (.tup ((Txt.split x "\n").map lineT)) = true ∧ (Txt.split x "\n").map lineT = ls.map Lin.d := fun ls ok e => by
    have hs : ∀ l ∈ ls, l ∈ linSet := fun l h => in_set hb.hi (ok.ok l h)
    have ne : ls ≠ [] := fun e => by have := ok.lo; rw [e] at this; simp at this
    have e1 := text_split ls hs ne
    rw [e] at e1
    have e2 : (ls.map rowT).map lineT = ls.map Lin.d := by
      rw [List.map_map]
      exact List.map_congr_left fun l hl => row_line l (hs l hl)
    rw [e1, e2]
    refine ⟨rfl, ?_, rfl⟩
    have a := sem_has_list bd ls ok
    have b := has_read bd (ls.map rowT) fun r hr => by
      rw [← e1] at hr
      exact gs r hr
    rw [e2] at b
    have c := a.symm.trans b
    injection c with c1 c2
    injection c1 with c3 c4
    injection c4 with c5
    exact c5.symm
  have nb := sem_need_board bd hb
  have hr := has_read bd (Txt.split x "\n") gs
  have ok := fun ls ok e => (full ls ok e)
  have imb : ∀ t, RV.nrm ⟨t, bd.d⟩ = ⟨.im, bd.d⟩ := fun t => nrm_of (by simp)
  have kn : (D.str x).known = true := rfl
  have it : (D.str x).isT .str = true := rfl
  have is : (D.str x).isStr = true := rfl
  generalize Txt.split x "\n" = rows at *
  have sq : seqD ⟨.fr, strL rows⟩ = some ⟨.fr, .vl, rows.map D.str⟩ := rfl
  have tm := turns_map (lczF G_read_list (intC ics) (.call 12 (.cons (.var 3) .nil)) (.nm 3 false) .tt .vl [some ⟨.vl, bd.d⟩, some ⟨.vl, .str x⟩, none, none]) D.str lineT rows fun r hm => by
    have rr := sem_line_from r (gs r hm) (by
      have := wt_item hm
      omega)
    have rt : retT ⟨.im, lineT r⟩ = some ⟨.im, lineT r⟩ := rfl
    generalize lineT r = T at *
    simp -implicitDefEqProofs [rr, rt, ME.pure, MEs.pure, MT.pure]
  have le := lczE_ims lineT rows (by rw [big_eq, sizeLine_eq]; omega)
  have imT : (D.tup (rows.map lineT)).imm = true := by rw [imm_tup]; exact immAll_map _ _ fun x _ => line_imm x
  have nT : ∀ t, RV.nrm ⟨t, .tup (rows.map lineT)⟩ = ⟨.im, .tup (rows.map lineT)⟩ := fun t => nrm_of imT
  have bt : biD .tuple [⟨.fr, .lst (rows.map lineT)⟩] = some ⟨.im, .tup (rows.map lineT)⟩ := by
    show some (RV.nrm ⟨.fr, .tup _⟩) = _
    exact congrArg some (nrm_of imT)
  by_cases hb1 : listB bd.btns.length (.tup (rows.map lineT)) = true
  · obtain ⟨ls, lok, el⟩ := typed_list hb1
    have tx := sem_text_of ls (fun l h => in_set hb.hi (lok.ok l h)) lok.hi
    have imL : ∀ t l, RV.nrm ⟨t, lns l⟩ = ⟨.im, lns l⟩ := fun t l => nrm_of (lns_imm l)
    rw [hb1] at hr
    have eL : D.tup (rows.map lineT) = lns ls := by rw [el]; rfl
    rw [eL] at hr nT bt
    generalize rows.map D.str = Y at *
    generalize D.lst (rows.map lineT) = YL at *
    generalize strL rows = SL at *
    by_cases e : textT ls = x
    · left
      refine ⟨ls, lok, e, ?_⟩
      have q : eqD (.str (textT ls)) (.str x) = some true := by rw [eq_strs, decide_eq_true e]
      rw [sm_read_list]
      simp -implicitDefEqProofs [b_read_list, nb, kn, it, is, sp, sq, tm, le, bt, hr, tx, q, imb, imL, nT, ME.pure, MEs.pure, MT.pure]
    · right
      refine ⟨fun ls' ok' e' => ?_, ?_⟩
      · have f := (full ls' ok' e').2.2
        rw [el] at f
        have e2 := lins_inj f
        subst e2
        exact e e'
      · have q : eqD (.str (textT ls)) (.str x) = some false := by rw [eq_strs, decide_eq_false e]
        rw [sm_read_list]
        simp -implicitDefEqProofs [b_read_list, nb, kn, it, is, sp, sq, tm, le, bt, hr, tx, q, imb, imL, nT, ME.pure, MEs.pure, MT.pure]
  · right
    have hb0 : listB bd.btns.length (.tup (rows.map lineT)) = false := by simpa using hb1
    refine ⟨fun ls ok' e => ?_, ?_⟩
    · rw [(full ls ok' e).2.1] at hb0; cases hb0
    · rw [hb0] at hr
      generalize rows.map D.str = Y at *
      generalize D.tup (rows.map lineT) = TL at *
      generalize D.lst (rows.map lineT) = YL at *
      generalize strL rows = SL at *
      rw [sm_read_list]
      simp -implicitDefEqProofs [b_read_list, nb, kn, it, is, sp, sq, tm, le, bt, hr, imb, nT, ME.pure, MEs.pure, MT.pure]
end Tx
end

section
set_option Elab.async false
set_option linter.all false
set_option maxRecDepth 100000
set_option maxHeartbeats 8000000
/-! The plain law: the law's own writing, and what it tries. -/
namespace Tx
open PySem L2 Ev Pl TL
theorem wtext_row (X0 : Option SV) (l : Lin) (hl : l ∈ linSet) (acc : List Str) (ha : acc.length ≤ 100) (j2 j3 j4 : Option SV) (f2 : freeO j2 = true) (f3 : freeO j3 = true) (f4 : freeO j4 = true) :
    ∃ j4', freeO j4' = true ∧ forB (exs G__law_written (intC ics) l__law_written_1) (bindT (.tp (.nm 2 false) (.one (.nm 3 false))) .im l.d [X0, some ⟨.mu, strL acc⟩, j2, j3, j4]) = .ok .nx [X0, some ⟨.mu, strL (acc ++ [rowT l])⟩, some ⟨.im, .int l.btn⟩, some ⟨.im, l.word.d⟩, j4'] := by
  obtain ⟨hb, hw⟩ := btn_lt_set l hl
  have jr := join_row l hl
  have ap := strL_app acc (rowT l) (by omega)
  obtain ⟨b, w⟩ := l
  have bp : bindT (.tp (.nm 2 false) (.one (.nm 3 false))) .im (Lin.mk b w).d [X0, some ⟨.mu, strL acc⟩, j2, j3, j4] = some [X0, some ⟨.mu, strL acc⟩, some ⟨.im, .int b⟩, some ⟨.im, w.d⟩, j4] := by
    unfold Lin.d
    generalize w.d = W
    simp -implicitDefEqProofs [f2, f3]
  have bs := fun t => bi_strN t b hb
  have w0 : D.lst [.str "press", .str (digT b)] = strL [("press" : Str), digT b] := rfl
  have wi := w.imm
  have la : ∀ a b c, lstAt [X0, some ⟨.mu, strL acc⟩, a, b, c] 1 = true := fun _ _ _ => rfl
  rw [bp]
  generalize rowT ⟨b, w⟩ = R at *
  cases w with
  | always =>
    have we : wordsT ⟨b, .always⟩ = [("press" : Str), digT b] := rfl
    rw [we] at jr
    have q : eqD (.str "always") (.str "always") = some true := by kernel_rfl
    have i0 : ∀ t, idxD ⟨t, Wrd.always.d⟩ (.int 0) = some ⟨t, .str "always"⟩ := fun t => by simp [Wrd.d]
    have nA := fun t => strL_nrm t [("press" : Str), digT b]
    generalize Wrd.always.d = W at *
    generalize strL [("press" : Str), digT b] = WL at *
    refine ⟨some ⟨.vl, WL⟩, rfl, ?_⟩
    simp -implicitDefEqProofs [-lstAt_eq, la, l__law_written_1, f4, bs, w0, nA, nrm_of wi, i0, q, jr, ap, ME.pure, MEs.pure, MT.pure]
  | energy x =>
    have we : wordsT ⟨b, .energy x⟩ = [("press" : Str), digT b] ++ [("if" : Str), "energy", digT x.toNat] := rfl
    have w1 : D.lst [.str "if", .str "energy", .str (digT x.toNat)] = strL [("if" : Str), "energy", digT x.toNat] := rfl
    have ad := strL_add [("press" : Str), digT b] [("if" : Str), "energy", digT x.toNat] (by simp)
    rw [← we] at ad
    have nA := fun t => strL_nrm t [("press" : Str), digT b]
    have nL := fun t => strL_nrm t (wordsT ⟨b, .energy x⟩)
    have q : eqD (.str "energy") (.str "always") = some false := by kernel_rfl
    have i0 : ∀ t, idxD ⟨t, (Wrd.energy x).d⟩ (.int 0) = some ⟨t, .str "energy"⟩ := fun t => by simp [Wrd.d]
    have i1 : ∀ t, idxD ⟨t, (Wrd.energy x).d⟩ (.int 1) = some ⟨t, .int x⟩ := fun t => by simp [Wrd.d]
    have bs2 := fun t => bi_strI t x hw.1 hw.2
    generalize (Wrd.energy x).d = W at *
    generalize strL (wordsT ⟨b, .energy x⟩) = WL at *
    generalize strL [("press" : Str), digT b] = WA at *
    generalize strL [("if" : Str), "energy", digT x.toNat] = WB at *
    refine ⟨some ⟨.vl, WL⟩, rfl, ?_⟩
    simp -implicitDefEqProofs [-lstAt_eq, la, l__law_written_1, f4, bs, bs2, w0, w1, nA, nL, ad, i0, i1, nrm_of wi, q, jr, ap, ME.pure, MEs.pure, MT.pure]
  | runs k =>
    have we : wordsT ⟨b, .runs k⟩ = [("press" : Str), digT b] ++ [("if" : Str), "runs", digT k] := rfl
    have w1 : D.lst [.str "if", .str "runs", .str (digT k)] = strL [("if" : Str), "runs", digT k] := rfl
    have ad := strL_add [("press" : Str), digT b] [("if" : Str), "runs", digT k] (by simp)
    rw [← we] at ad
    have nA := fun t => strL_nrm t [("press" : Str), digT b]
    have nL := fun t => strL_nrm t (wordsT ⟨b, .runs k⟩)
    have q : eqD (.str "runs") (.str "always") = some false := by kernel_rfl
    have i0 : ∀ t, idxD ⟨t, (Wrd.runs k).d⟩ (.int 0) = some ⟨t, .str "runs"⟩ := fun t => by simp [Wrd.d]
    have i1 : ∀ t, idxD ⟨t, (Wrd.runs k).d⟩ (.int 1) = some ⟨t, .int k⟩ := fun t => by simp [Wrd.d]
    have bs2 := fun t => bi_strN t k hw
    generalize (Wrd.runs k).d = W at *
    generalize strL (wordsT ⟨b, .runs k⟩) = WL at *
    generalize strL [("press" : Str), digT b] = WA at *
    generalize strL [("if" : Str), "runs", digT k] = WB at *
    refine ⟨some ⟨.vl, WL⟩, rfl, ?_⟩
    simp -implicitDefEqProofs [-lstAt_eq, la, l__law_written_1, f4, bs, bs2, w0, w1, nA, nL, ad, i0, i1, nrm_of wi, q, jr, ap, ME.pure, MEs.pure, MT.pure]
  | rests k =>
    have we : wordsT ⟨b, .rests k⟩ = [("press" : Str), digT b] ++ [("if" : Str), "rests", digT k] := rfl
    have w1 : D.lst [.str "if", .str "rests", .str (digT k)] = strL [("if" : Str), "rests", digT k] := rfl
    have ad := strL_add [("press" : Str), digT b] [("if" : Str), "rests", digT k] (by simp)
    rw [← we] at ad
    have nA := fun t => strL_nrm t [("press" : Str), digT b]
    have nL := fun t => strL_nrm t (wordsT ⟨b, .rests k⟩)
    have q : eqD (.str "rests") (.str "always") = some false := by kernel_rfl
    have i0 : ∀ t, idxD ⟨t, (Wrd.rests k).d⟩ (.int 0) = some ⟨t, .str "rests"⟩ := fun t => by simp [Wrd.d]
    have i1 : ∀ t, idxD ⟨t, (Wrd.rests k).d⟩ (.int 1) = some ⟨t, .int k⟩ := fun t => by simp [Wrd.d]
    have bs2 := fun t => bi_strN t k hw
    generalize (Wrd.rests k).d = W at *
    generalize strL (wordsT ⟨b, .rests k⟩) = WL at *
    generalize strL [("press" : Str), digT b] = WA at *
    generalize strL [("if" : Str), "rests", digT k] = WB at *
    refine ⟨some ⟨.vl, WL⟩, rfl, ?_⟩
    simp -implicitDefEqProofs [-lstAt_eq, la, l__law_written_1, f4, bs, bs2, w0, w1, nA, nL, ad, i0, i1, nrm_of wi, q, jr, ap, ME.pure, MEs.pure, MT.pure]
theorem wtext_loop (X0 : Option SV) : ∀ (ls : List Lin) (acc : List Str) (j2 j3 j4 : Option SV), (∀ l ∈ ls, l ∈ linSet) → acc.length + ls.length ≤ 100 → freeO j2 = true → freeO j3 = true → freeO j4 = true →
    ∃ j2' j3' j4', forR (bindT (.tp (.nm 2 false) (.one (.nm 3 false))) .im) (exs G__law_written (intC ics) l__law_written_1) (ls.map Lin.d) [X0, some ⟨.mu, strL acc⟩, j2, j3, j4] = .ok .nx [X0, some ⟨.mu, strL (acc ++ ls.map rowT)⟩, j2', j3', j4']
  | [], acc, j2, j3, j4, _, _, _, _, _ => ⟨j2, j3, j4, by simp⟩
  | l :: ls, acc, j2, j3, j4, h, hl, f2, f3, f4 => by
    rw [List.length_cons] at hl
    obtain ⟨k4, g4, e1⟩ := wtext_row X0 l (h l (by simp)) acc (by omega) j2 j3 j4 f2 f3 f4
    obtain ⟨j2', j3', j4', e2⟩ := wtext_loop X0 ls (acc ++ [rowT l]) (some ⟨.im, .int l.btn⟩) (some ⟨.im, l.word.d⟩) k4 (fun x hx => h x (by simp [hx])) (by rw [List.length_append, List.length_singleton]; omega) rfl rfl g4
    refine ⟨j2', j3', j4', ?_⟩
    rw [List.map_cons, forR_cons, e1, List.map_cons]
    rw [List.append_assoc] at e2
    exact e2
theorem sem_written (ls : List Lin) (h : ∀ l ∈ ls, l ∈ linSet) (h4 : ls.length ≤ 4) : F__law_written.sem [lns ls] = .ret ⟨.im, .str (textT ls)⟩ [] := by
  obtain ⟨j2, j3, j4, e⟩ := wtext_loop (some ⟨.vl, lns ls⟩) ls [] none none none h (by rw [List.length_nil]; omega) rfl rfl rfl
  have s0 : strL [] = .lst [] := rfl
  rw [List.nil_append, s0] at e
  have jt := join_text ls h h4
  have imL : ∀ t l, RV.nrm ⟨t, lns l⟩ = ⟨.im, lns l⟩ := fun t l => nrm_of (lns_imm l)
  have sq : seqD ⟨.im, lns ls⟩ = some ⟨.im, .im, ls.map Lin.d⟩ := rfl
  have nA := fun t => strL_nrm t (ls.map rowT)
  rw [sm__law_written]
  generalize strL (ls.map rowT) = SL at *
  simp -implicitDefEqProofs [b__law_written, imL, sq, e, jt, nA, ME.pure, MEs.pure, MT.pure]
theorem tried_lns (bd : Brd) (ls : List Lin) (v : D) (h : F_read_list.sem [bd.d, v] = .ret ⟨.im, lns ls⟩ []) : F__law_tried.sem [bd.d, v] = .ret ⟨.im, lns ls⟩ [] := by
  have imb : ∀ t, RV.nrm ⟨t, bd.d⟩ = ⟨.im, bd.d⟩ := fun t => nrm_of (by simp)
  have imL : ∀ t l, RV.nrm ⟨t, lns l⟩ = ⟨.im, lns l⟩ := fun t l => nrm_of (lns_imm l)
  rw [sm__law_tried]
  have nv := nrm_two v
  rcases nv with nv | nv <;> simp -implicitDefEqProofs [b__law_tried, nv, h, imb, imL, ME.pure, MEs.pure, MT.pure]
theorem tried_ex (bd : Brd) (v : D) (h : F_read_list.sem [bd.d, v] = .ex 1 []) : F__law_tried.sem [bd.d, v] = .ret ⟨.im, .str "line"⟩ [] := by
  have imb : ∀ t, RV.nrm ⟨t, bd.d⟩ = ⟨.im, bd.d⟩ := fun t => nrm_of (by simp)
  rw [sm__law_tried]
  have nv := nrm_two v
  rcases nv with nv | nv <;> simp -implicitDefEqProofs [b__law_tried, nv, h, imb, ME.pure, MEs.pure, MT.pure]
theorem read_other (bd : Brd) (hb : BrdOk bd) (v : D) (k : v.known = true) (t : v.isT .str = false) : F_read_list.sem [bd.d, v] = .ex 1 [] := by
  have nb := sem_need_board bd hb
  have imb : ∀ t, RV.nrm ⟨t, bd.d⟩ = ⟨.im, bd.d⟩ := fun t => nrm_of (by simp)
  rw [sm_read_list]
  have nv := nrm_two v
  rcases nv with nv | nv <;> simp -implicitDefEqProofs [b_read_list, nb, nv, k, t, imb, ME.pure, MEs.pure, MT.pure]
theorem sem_tried (bd : Brd) (hb : BrdOk bd) (x : Str) (hx : strGood x = true) (hl : x.length ≤ 2000) :
    (∃ ls, LnsOk bd.btns.length ls ∧ textT ls = x ∧ F__law_tried.sem [bd.d, .str x] = .ret ⟨.im, lns ls⟩ []) ∨ ((∀ ls, LnsOk bd.btns.length ls → textT ls ≠ x) ∧ F__law_tried.sem [bd.d, .str x] = .ret ⟨.im, .str "line"⟩ []) := by
  rcases sem_read bd hb x hx hl with ⟨ls, h1, h2, h3⟩ | ⟨h1, h2⟩
  · exact .inl ⟨ls, h1, h2, tried_lns bd ls _ h3⟩
  · exact .inr ⟨h1, tried_ex bd _ h2⟩
end Tx
end

section
set_option Elab.async false
set_option linter.all false
set_option maxRecDepth 100000
set_option maxHeartbeats 8000000
/-! The plain law: a text with a place of it otherwise. -/
namespace Tx
open PySem L2 Ev Pl TL
def signsT : List Str := [" ",
  "\n", "0", "1",
  "4", "if", "",
  "runs",
  "press 0\n",
  " if energy 2",
  "x", "always"]
theorem signs_ok : ∀ s ∈ signsT, strGood s = true ∧ s.length ≤ 12 := by decide +kernel
theorem nl_good : strGood "\n" = true := by kernel_rfl
theorem join_rows (rows : List Str) (hw : wt rows ≤ 50000) (hg : ∀ r ∈ rows, strGood r = true) : strGood (Str.join "\n" rows) = true ∧ (Str.join "\n" rows).length ≤ wt rows := ⟨good_join nl_good hg, len_join "\n" len_nl rows⟩
theorem strs_mem {ys : List Str} {d : D} (h : d ∈ ys.map D.str) : ∃ y ∈ ys, d = .str y := by
  obtain ⟨y, hy, rfl⟩ := List.mem_map.1 h
  exact ⟨y, hy, rfl⟩
theorem sem_bent (a b : Int) (ok : SrcOk a b) (x : Str) (hx : strGood x = true) (hl : x.length ≤ 900) :
    ∃ y a' b', F__law_bent.sem [srcD a b, .str x] = .ret ⟨.im, .str y⟩ [srcD a' b'] ∧ SrcOk a' b' ∧ strGood y = true ∧ y.length ≤ 50000 := by
  obtain ⟨r, a1, b1, e1, r0, r1, ok1⟩ := sem_draw a b ((x.length : Int) + 1) ok (by omega) (by omega)
  obtain ⟨sd, a2, b2, e2, hs, ok2⟩ := sem_choice a1 b1 (signsT.map D.str) ok1 (by simp [signsT]) (by simp [signsT]) (fun d hd => by
    obtain ⟨y, _, rfl⟩ := strs_mem hd
    simp)
  obtain ⟨sg, hsg, rfl⟩ := strs_mem hs
  obtain ⟨sg1, sg2⟩ := signs_ok sg hsg
  obtain ⟨q, a3, b3, e3, q0, q1, ok3⟩ := sem_draw a2 b2 3 ok2 (by decide) (by decide)
  have c1 := fun t => slc_str t x none (some r) (by omega)
  have c2 := fun t => slc_str t x (some (r + q)) none (by omega)
  have l1 := len_cut x none (some r)
  have l2 := len_cut x (some (r + q)) none
  have g1 := good_cut none (some r) hx
  have g2 := good_cut (some (r + q)) none hx
  generalize cutS x none (some r) = x1 at *
  generalize cutS x (some (r + q)) none = x2 at *
  have ad1 := fun t u => add_strB x1 sg t u (by omega)
  have lz0 : (x1 ++ sg).length = x1.length + sg.length := Str.length_append _ _
  have gz0 := good_app g1 sg1
  generalize x1 ++ sg = z0 at *
  have ad2 := fun t u => add_strB z0 x2 t u (by omega)
  have lz : (z0 ++ x2).length = z0.length + x2.length := Str.length_append _ _
  have gz := good_app gz0 g2
  generalize z0 ++ x2 = z at *
  have sp := fun t u => split_ofB t u z "\n" (by rw [len_nl]; omega) (by omega)
  have gr := good_split "\n" gz
  have wr := wt_split z "\n" (by rw [len_nl]; omega)
  have lr := wt_len (Txt.split z "\n")
  have lr0 := PyProof.Rows.split_pos z "\n"
  generalize Txt.split z "\n" = rows at *
  have ln := fun t => len_strL t rows
  obtain ⟨h, a4, b4, e4, h0, h1, ok4⟩ := sem_draw a3 b3 (rows.length : Int) ok3 (by omega) (by omega)
  have s1 := fun t => slc_strL t rows none (some h)
  have s2 := fun t => slc_strL t rows (some (h + 1)) none
  have s3 := fun t => slc_strL t rows none (some (h + 1))
  have s4 := fun t => slc_strL t rows (some h) none
  have w1 := wt_cut rows none (some h)
  have w2 := wt_cut rows (some (h + 1)) none
  have w3 := wt_cut rows none (some (h + 1))
  have w4 := wt_cut rows (some h) none
  have m1 : ∀ p ∈ cutL rows none (some h), strGood p = true := fun p hp => gr p (cutL_mem hp)
  have m2 : ∀ p ∈ cutL rows (some (h + 1)) none, strGood p = true := fun p hp => gr p (cutL_mem hp)
  have m3 : ∀ p ∈ cutL rows none (some (h + 1)), strGood p = true := fun p hp => gr p (cutL_mem hp)
  have m4 : ∀ p ∈ cutL rows (some h) none, strGood p = true := fun p hp => gr p (cutL_mem hp)
  have k1 := wt_len (cutL rows none (some h))
  have k2 := wt_len (cutL rows (some (h + 1)) none)
  have k3 := wt_len (cutL rows none (some (h + 1)))
  have k4 := wt_len (cutL rows (some h) none)
  generalize cutL rows none (some h) = A1 at *
  generalize cutL rows (some (h + 1)) none = A2 at *
  generalize cutL rows none (some (h + 1)) = A3 at *
  generalize cutL rows (some h) none = A4 at *
  have p1 := strL_addF A1 A2 (by omega)
  have p2 := strL_addF A3 A4 (by omega)
  have p3 := strL_addF A4 A1 (by omega)
  have v1 := wt_app A1 A2
  have v2 := wt_app A3 A4
  have v3 := wt_app A4 A1
  have j1 := fun t u => join_ofB "\n" len_nl t u (A1 ++ A2) (by omega)
  have j2 := fun t u => join_ofB "\n" len_nl t u (A3 ++ A4) (by omega)
  have j3 := fun t u => join_ofB "\n" len_nl t u (A4 ++ A1) (by omega)
  have app : ∀ {A B : List Str}, (∀ p ∈ A, strGood p = true) → (∀ p ∈ B, strGood p = true) → ∀ p ∈ A ++ B, strGood p = true := fun ha hb p hp => by
    rcases List.mem_append.1 hp with q | q
    · exact ha p q
    · exact hb p q
  obtain ⟨o1, u1⟩ := join_rows (A1 ++ A2) (by omega) (app m1 m2)
  obtain ⟨o2, u2⟩ := join_rows (A3 ++ A4) (by omega) (app m3 m4)
  obtain ⟨o3, u3⟩ := join_rows (A4 ++ A1) (by omega) (app m4 m1)
  generalize strL (A1 ++ A2) = B1 at *
  generalize strL (A3 ++ A4) = B2 at *
  generalize strL (A4 ++ A1) = B3 at *
  generalize Str.join "\n" (A1 ++ A2) = y1 at *
  generalize Str.join "\n" (A3 ++ A4) = y2 at *
  generalize Str.join "\n" (A4 ++ A1) = y3 at *
  obtain ⟨fd, a5, b5, e5, hf, ok5⟩ := sem_choice a4 b4 ([z, z, y1, y2, y3].map D.str) ok4 (by simp) (by simp) (fun d hd => by
    obtain ⟨y, _, rfl⟩ := strs_mem hd
    simp)
  obtain ⟨y, hy, rfl⟩ := strs_mem hf
  have L0 : D.lst (signsT.map D.str) = strL signsT := rfl
  have L1 : D.lst [.str z, .str z, .str y1, .str y2] = strL [z, z, y1, y2] := rfl
  have L2' : D.lst [.str y3] = strL [y3] := rfl
  have p4 := strL_add [z, z, y1, y2] [y3] (by simp)
  have L3 : strL ([z, z, y1, y2] ++ [y3]) = .lst ([z, z, y1, y2, y3].map D.str) := rfl
  rw [L3] at p4
  refine ⟨y, a5, b5, ?_, ok5, ?_, ?_⟩
  · have nS := fun t => strL_nrm t signsT
    have nR := fun t => strL_nrm t rows
    have nF := fun t => strL_nrm t [z, z, y1, y2]
    have it : (D.str z).isStr = true := rfl
    have inl : (D.str "\n").isStr = true := rfl
    have lx : ∀ t, biD .len [⟨t, .str x⟩] = some ⟨.im, .int x.length⟩ := fun t => by
      show (if x.length ≤ big then some (⟨.im, .int x.length⟩ : RV) else none) = _
      rw [if_pos (by rw [big_eq, sizeLine_eq]; omega)]
    have L0' : D.lst [.str " ", .str "\n", .str "0", .str "1", .str "4", .str "if", .str "", .str "runs", .str "press 0\n", .str " if energy 2", .str "x", .str "always"] = strL signsT := rfl
    rw [L0] at e2
    generalize D.lst ([z, z, y1, y2, y3].map D.str) = FL at *
    generalize strL [z, z, y1, y2] = F4 at *
    generalize strL [y3] = F1 at *
    generalize strL signsT = SL at *
    generalize strL rows = RL at *
    generalize strL A1 = C1 at *
    generalize strL A2 = C2 at *
    generalize strL A3 = C3 at *
    generalize strL A4 = C4 at *
    rw [sm__law_bent]
    simp -implicitDefEqProofs [b__law_bent, e1, e2, e3, e4, e5, c1, c2, ad1, ad2, sp, ln, s1, s2, s3, s4, p1, p2, p3, p4, j1, j2, j3, L0', L1, L2', nS, nR, nF, it, inl, lx, ME.pure, MEs.pure, MT.pure]
  · simp only [List.mem_cons, List.not_mem_nil, or_false] at hy
    rcases hy with rfl | rfl | rfl | rfl | rfl <;> assumption
  · simp only [List.mem_cons, List.not_mem_nil, or_false] at hy
    rcases hy with rfl | rfl | rfl | rfl | rfl <;> omega
end Tx
end

section
set_option Elab.async false
set_option linter.all false
set_option maxRecDepth 100000
set_option maxHeartbeats 8000000
/-! The plain law: strings that are spoilt, turn by turn. -/
namespace Tx
open PySem L2 Ev Pl TL
theorem lin_fine (l : Lin) (n : Nat) : l.d.fine (n + 3) = true := by
  obtain ⟨b, w⟩ := l
  have s1 : strGood "always" = true := by kernel_rfl
  have s2 : strGood "energy" = true := by kernel_rfl
  have s3 : strGood "runs" = true := by kernel_rfl
  have s4 : strGood "rests" = true := by kernel_rfl
  cases w <;> simp [Lin.d, Wrd.d, D.fine, fineAll, s1, s2, s3, s4]
theorem lns_fine (ls : List Lin) : (lns ls).fine 60 = true := by
  show fineAll (57 + 3) (ls.map Lin.d) = true
  induction ls with
  | nil => simp [fineAll]
  | cons l ls ih =>
    rw [List.map_cons]
    show (l.d.fine (56 + 3) && fineAll (57 + 3) _) = true
    rw [ih, lin_fine l 56]
    rfl
theorem lns_eqD (ls : List Lin) : eqD (lns ls) (lns ls) = some true := eqD_refl _ (lns_fine ls)
theorem lns_str (ls : List Lin) (x : Str) (h : strGood x = true) : eqD (lns ls) (.str x) = some false := by
  have f := lns_fine ls
  have g : (D.str x).fine 60 = true := by simpa [D.fine] using h
  have : eqD (lns ls) (.str x) = if (lns ls).fine 60 && (D.str x).fine 60 then some ((lns ls).eqv (.str x)) else none := rfl
  rw [this, f, g]
  rfl
theorem sem_is_list2 (bd : Brd) (hb : BrdOk bd) (ls : List Lin) (h : LnsOk bd.btns.length ls) : F_is_list.sem [bd.d, lns ls] = .ret ⟨.im, .bl true⟩ [] := by
  have nb := sem_need_board bd hb
  have hl := sem_has_list bd ls h
  have imL : ∀ t l, RV.nrm ⟨t, lns l⟩ = ⟨.im, lns l⟩ := fun t l => nrm_of (lns_imm l)
  have imb : ∀ t, RV.nrm ⟨t, bd.d⟩ = ⟨.im, bd.d⟩ := fun t => nrm_of (by simp)
  rw [sm_is_list]
  simp -implicitDefEqProofs [b_is_list, nb, hl, imL, imb, ME.pure, MEs.pure, MT.pure]
theorem line_good : strGood "line" = true := by kernel_rfl
def inv1 (X0 X1 : Option SV) (bd : Brd) (ls : List Lin) (j3 j4 j9 j11 : Option SV) (ρ : En) : Prop := ∃ (x : Str) (a b : Int) (j8 j10 : Option SV), SrcOk a b ∧ strGood x = true ∧ x.length ≤ 900 ∧ ρ = [X0, X1, some ⟨.im, bd.d⟩, j3, j4, some ⟨.mu, srcD a b⟩, some ⟨.im, lns ls⟩, some ⟨.im, .str x⟩, j8, j9, j10, j11] ∧ freeO j8 = true ∧ freeO j10 = true
theorem law1_step (X0 X1 : Option SV) (bd : Brd) (hb : BrdOk bd) (ls : List Lin) (lok : LnsOk bd.btns.length ls) (j3 j4 j9 j11 : Option SV) (d : Int) (ρ : En) (i : inv1 X0 X1 bd ls j3 j4 j9 j11 ρ) :
    ∃ ρ', forB (exs G_law (intC ics) l_law_1) (bindT (.nm 8 false) .im (.int d) ρ) = .ok .nx ρ' ∧ inv1 X0 X1 bd ls j3 j4 j9 j11 ρ' := by
  obtain ⟨x, a, b, j8, j10, ok, gx, hx, rfl, f8, f10⟩ := i
  have hs : ∀ l ∈ ls, l ∈ linSet := fun l h => in_set hb.hi (lok.ok l h)
  have tl := text_len ls hs lok.hi
  have tg := text_good ls hs
  have wr := sem_written ls hs lok.hi
  have imb : ∀ t, RV.nrm ⟨t, bd.d⟩ = ⟨.im, bd.d⟩ := fun t => nrm_of (by simp)
  have imL : ∀ t l, RV.nrm ⟨t, lns l⟩ = ⟨.im, lns l⟩ := fun t l => nrm_of (lns_imm l)
  obtain ⟨m, hm⟩ : ∃ m, d % 3 = m := ⟨_, rfl⟩
  have om : ∀ t u, opD .mod ⟨t, .int d⟩ ⟨u, .int 3⟩ = some ⟨.im, .int m⟩ := fun t u => by
    rw [← hm]; rfl
  obtain ⟨z, hz, gz, lz⟩ : ∃ z : Str, (z = if m = 0 then textT ls else x) ∧ strGood z = true ∧ z.length ≤ 900 := by
    refine ⟨_, rfl, ?_, ?_⟩
    · split <;> assumption
    · split <;> omega
  obtain ⟨y, a1, b1, e1, ok1, gy, ly⟩ := sem_bent a b ok z gz lz
  have c1 := fun t => slc_str t y none (some 900) (by omega)
  have gw := good_cut none (some 900) gy
  have lw := len_cut900 y
  generalize cutS y none (some 900) = w at *
  have fin : ∀ (R : RV), F__law_tried.sem [bd.d, .str w] = .ret R [] → R.t = .im → R.d.imm = true →
      (((eqD R.d (.str "line") = some true ∧ eqD (.str w) (.str (textT ls)) = some false)) ∨ (∃ ls', R.d = lns ls' ∧ eqD R.d (.str "line") = some false ∧ F_is_list.sem [bd.d, R.d] = .ret ⟨.im, .bl true⟩ [] ∧ F__law_written.sem [R.d] = .ret ⟨.im, .str w⟩ [])) →
      ∃ ρ', forB (exs G_law (intC ics) l_law_1) (bindT (.nm 8 false) .im (.int d) [X0, X1, some ⟨.im, bd.d⟩, j3, j4, some ⟨.mu, srcD a b⟩, some ⟨.im, lns ls⟩, some ⟨.im, .str x⟩, j8, j9, j10, j11]) = .ok .nx ρ' ∧ inv1 X0 X1 bd ls j3 j4 j9 j11 ρ' := by
    rintro ⟨t, rd⟩ e2 rfl hi c
    have e2 : F__law_tried.sem [bd.d, .str w] = .ret ⟨.im, rd⟩ [] := e2
    have nr : ∀ t, RV.nrm ⟨t, rd⟩ = ⟨.im, rd⟩ := fun t => nrm_of hi
    have ww : eqD (.str w) (.str w) = some true := by rw [eq_strs, decide_eq_true rfl]
    refine ⟨[X0, X1, some ⟨.im, bd.d⟩, j3, j4, some ⟨.mu, srcD a1 b1⟩, some ⟨.im, lns ls⟩, some ⟨.im, .str w⟩, some ⟨.im, .int d⟩, j9, some ⟨.im, rd⟩, j11], ?_, w, a1, b1, _, _, ok1, gw, lw, rfl, rfl, rfl⟩
    by_cases h0 : m = 0
    · rw [if_pos h0] at hz
      subst hz
      rcases c with ⟨q1, q2⟩ | ⟨ls', _, q1, q2, q3⟩
      · have q1 : eqD rd (.str "line") = some true := q1
        simp -implicitDefEqProofs [l_law_1, f8, f10, om, h0, wr, e1, c1, e2, q1, q2, nr, imb, imL, ME.pure, MEs.pure, MT.pure]
      · have q1 : eqD rd (.str "line") = some false := q1
        have q2 : F_is_list.sem [bd.d, rd] = _ := q2
        have q3 : F__law_written.sem [rd] = _ := q3
        simp -implicitDefEqProofs [l_law_1, f8, f10, om, h0, wr, e1, c1, e2, q1, q2, q3, ww, nr, imb, imL, ME.pure, MEs.pure, MT.pure]
    · rw [if_neg h0] at hz
      subst hz
      rcases c with ⟨q1, q2⟩ | ⟨ls', _, q1, q2, q3⟩
      · have q1 : eqD rd (.str "line") = some true := q1
        simp -implicitDefEqProofs [l_law_1, f8, f10, om, h0, wr, e1, c1, e2, q1, q2, nr, imb, imL, ME.pure, MEs.pure, MT.pure]
      · have q1 : eqD rd (.str "line") = some false := q1
        have q2 : F_is_list.sem [bd.d, rd] = _ := q2
        have q3 : F__law_written.sem [rd] = _ := q3
        simp -implicitDefEqProofs [l_law_1, f8, f10, om, h0, wr, e1, c1, e2, q1, q2, q3, ww, nr, imb, imL, ME.pure, MEs.pure, MT.pure]
  rcases sem_tried bd hb w gw (by omega) with ⟨ls', k1, k2, k3⟩ | ⟨k1, k2⟩
  · have hs' : ∀ l ∈ ls', l ∈ linSet := fun l h => in_set hb.hi (k1.ok l h)
    have wr' := sem_written ls' hs' k1.hi
    rw [k2] at wr'
    exact fin _ k3 rfl (lns_imm ls') (.inr ⟨ls', rfl, lns_str ls' _ line_good, sem_is_list2 bd hb ls' k1, wr'⟩)
  · refine fin _ k2 rfl (by simp) (.inl ⟨by show eqD (.str "line") (.str "line") = _; rw [eq_strs, decide_eq_true rfl], ?_⟩)
    rw [eq_strs, decide_eq_false]
    exact fun e => k1 ls lok e.symm
def inv2 (X0 X1 : Option SV) (bd : Brd) (j3 j4 j5 j6 j7 j8 j10 j11 : Option SV) (ρ : En) : Prop := ∃ j9, freeO j9 = true ∧ ρ = [X0, X1, some ⟨.im, bd.d⟩, j3, j4, j5, j6, j7, j8, j9, j10, j11]
theorem law2_step (X0 X1 : Option SV) (bd : Brd) (j3 j4 j5 j6 j7 j8 j10 j11 : Option SV) (d : D) (td : F__law_tried.sem [bd.d, d] = .ret ⟨.im, .str "line"⟩ []) (ρ : En) (i : inv2 X0 X1 bd j3 j4 j5 j6 j7 j8 j10 j11 ρ) :
    ∃ ρ', forB (exs G_law (intC ics) l_law_2) (bindT (.nm 9 false) .vl d ρ) = .ok .nx ρ' ∧ inv2 X0 X1 bd j3 j4 j5 j6 j7 j8 j10 j11 ρ' := by
  obtain ⟨j9, f9, rfl⟩ := i
  have ll : eqD (.str "line") (.str "line") = some true := by rw [eq_strs, decide_eq_true rfl]
  have imb : ∀ t, RV.nrm ⟨t, bd.d⟩ = ⟨.im, bd.d⟩ := fun t => nrm_of (by simp)
  refine ⟨[X0, X1, some ⟨.im, bd.d⟩, j3, j4, j5, j6, j7, j8, some ⟨.vl, d⟩, j10, j11], ?_, _, rfl, rfl⟩
  rcases nrm_two d with nr | nr <;> simp -implicitDefEqProofs [l_law_2, f9, td, ll, nr, imb, ME.pure, MEs.pure, MT.pure]
end Tx
end

section
set_option Elab.async false
set_option linter.all false
set_option maxRecDepth 100000
set_option maxHeartbeats 8000000
/-! The plain law: the law of strings that are spoilt. -/
namespace Tx
open PySem L2 Ev Pl TL
/-! which texts are no lists -/
def wrdB (m : Nat) : Wrd → Bool
  | .always => true
  | .energy n => decide (1 ≤ n ∧ n ≤ 4)
  | .runs i => decide (i < m)
  | .rests i => decide (i < m)
def linB (m : Nat) (l : Lin) : Bool := decide (l.btn < m) && wrdB m l.word
theorem linB_of {m : Nat} {l : Lin} (h : LinOk m l) : linB m l = true := by
  obtain ⟨h1, h2⟩ := h
  unfold linB
  rw [Bool.and_eq_true]
  refine ⟨decide_eq_true h1, ?_⟩
  generalize l.word = w at *
  cases w with
  | always => rfl
  | energy n => exact decide_eq_true h2
  | runs i => exact decide_eq_true h2
  | rests i => exact decide_eq_true h2
def textB (m : Nat) (x : Str) : Bool := decide ((Txt.split x "\n").length ≤ 4) && (Txt.split x "\n").all fun p => linSet.any fun l => linB m l && decide (rowT l = p)
theorem textB_of {m : Nat} (hm : m ≤ 3) {ls : List Lin} (ok : LnsOk m ls) : textB m (textT ls) = true := by
  have hs : ∀ l ∈ ls, l ∈ linSet := fun l h => in_set hm (ok.ok l h)
  have ne : ls ≠ [] := fun e => by have := ok.lo; rw [e] at this; simp at this
  unfold textB
  rw [text_split ls hs ne, Bool.and_eq_true]
  refine ⟨decide_eq_true (by rw [List.length_map]; exact ok.hi), List.all_eq_true.2 fun p hp => ?_⟩
  obtain ⟨l, hl, rfl⟩ := List.mem_map.1 hp
  exact List.any_eq_true.2 ⟨l, hs l hl, by rw [linB_of (ok.ok l hl), decide_eq_true rfl]; rfl⟩
theorem tried_not (bd : Brd) (hb : BrdOk bd) (x : Str) (h : strGood x = true) (hl : x.length ≤ 2000) (hn : textB bd.btns.length x = false) : F__law_tried.sem [bd.d, .str x] = .ret ⟨.im, .str "line"⟩ [] := by
  rcases sem_tried bd hb x h hl with ⟨ls, k1, k2, k3⟩ | ⟨k1, k2⟩
  · have := textB_of hb.hi k1
    rw [k2, hn] at this
    cases this
  · exact k2
theorem linB_mono {m : Nat} (hm : m ≤ 3) {l : Lin} (h : linB m l = true) : linB 3 l = true := by
  unfold linB at *
  rw [Bool.and_eq_true] at *
  obtain ⟨h1, h2⟩ := h
  refine ⟨decide_eq_true (by have := of_decide_eq_true h1; omega), ?_⟩
  generalize l.word = w at *
  cases w with
  | always => rfl
  | energy n => exact h2
  | runs i => exact decide_eq_true (by have := of_decide_eq_true h2; omega)
  | rests i => exact decide_eq_true (by have := of_decide_eq_true h2; omega)
theorem textB_mono {m : Nat} (hm : m ≤ 3) {x : Str} (h : textB 3 x = false) : textB m x = false := by
  refine Bool.eq_false_iff.2 fun c => ?_
  have : textB 3 x = true := by
    unfold textB at *
    rw [Bool.and_eq_true] at *
    refine ⟨c.1, List.all_eq_true.2 fun p hp => ?_⟩
    obtain ⟨l, hl, e⟩ := List.any_eq_true.1 (List.all_eq_true.1 c.2 p hp)
    obtain ⟨e1, e2⟩ := Bool.and_eq_true_iff.mp e
    exact List.any_eq_true.2 ⟨l, hl, by rw [linB_mono hm e1, e2]; rfl⟩
  rw [h] at this
  cases this
theorem odd_texts : ∀ x ∈ (["", " ", "\n"] : List Str), textB 3 x = false ∧ strGood x = true ∧ x.length ≤ 2000 := by decide +kernel
def oddsD (x : Str) : List D := [.non, .int 5, .tup [.str x], .lst [.str x], .bl true, .str "", .str " ", .str "\n"]
theorem odd_line (bd : Brd) (hb : BrdOk bd) (x : Str) : ∀ d ∈ oddsD x, F__law_tried.sem [bd.d, d] = .ret ⟨.im, .str "line"⟩ [] := by
  have tx : ∀ y ∈ (["", " ", "\n"] : List Str), F__law_tried.sem [bd.d, .str y] = .ret ⟨.im, .str "line"⟩ [] := fun y hy => by
    obtain ⟨h1, h2, h3⟩ := odd_texts y hy
    exact tried_not bd hb y h2 h3 (textB_mono hb.hi h1)
  intro d hd
  simp only [oddsD, List.mem_cons, List.not_mem_nil, or_false] at hd
  rcases hd with rfl | rfl | rfl | rfl | rfl | rfl | rfl | rfl
  · exact tried_ex bd _ (read_other bd hb _ rfl rfl)
  · exact tried_ex bd _ (read_other bd hb _ rfl rfl)
  · exact tried_ex bd _ (read_other bd hb _ rfl rfl)
  · exact tried_ex bd _ (read_other bd hb _ rfl rfl)
  · exact tried_ex bd _ (read_other bd hb _ rfl rfl)
  · exact tx _ (by simp)
  · exact tx _ (by simp)
  · exact tx _ (by simp)
def inv3 (ns : List Int) (ρ : En) : Prop := ∃ (j1 j2 j5 j6 j7 j8 j9 j10 : Option SV), ρ = [some ⟨.vl, .scr ns⟩, j1, j2, none, none, j5, j6, j7, j8, j9, j10, none] ∧ freeO j1 = true ∧ freeO j2 = true ∧ freeO j5 = true ∧ freeO j6 = true ∧ freeO j7 = true ∧ freeO j8 = true ∧ freeO j9 = true ∧ freeO j10 = true
theorem law3_step (ns : List Int) (k : Nat) (ρ : En) (i : inv3 ns ρ) : ∃ ρ', forB (exs G_law (intC ics) l_law_3) (bindT (.nm 1 false) .im (.int k) ρ) = .ok .nx ρ' ∧ inv3 ns ρ' := by
  obtain ⟨j1, j2, j5, j6, j7, j8, j9, j10, rfl, f1, f2, f5, f6, f7, f8, f9, f10⟩ := i
  obtain ⟨a, b, e1, ok⟩ := sem_source ns k
  obtain ⟨bd, a1, b1, e2, ok1, hb⟩ := sem_boardM 400 (by decide) (by decide) a b ok
  have e2 : F__law_board.sem [srcD a b, .int 400] = _ := e2
  obtain ⟨ls, a2, b2, e3, ok2, lok⟩ := sem_list bd hb a1 b1 ok1
  have hs : ∀ l ∈ ls, l ∈ linSet := fun l h => in_set hb.hi (lok.ok l h)
  have wr := sem_written ls hs lok.hi
  have tl := text_len ls hs lok.hi
  have tg := text_good ls hs
  obtain ⟨ρ1, e4, x, a3, b3, k8, k10, ok3, gx, lx, rfl, g8, g10⟩ := forR_inv (g := fun (i : Nat) => D.int i) (f := bindT (.nm 8 false) .im) (body := exs G_law (intC ics) l_law_1) (fun _ ρ => inv1 (some ⟨.vl, .scr ns⟩) (some ⟨.im, .int k⟩) bd ls none none j9 none ρ) (fun x xs ρ i => law1_step _ _ bd hb ls lok _ _ _ _ x ρ i) (List.range 20) [some ⟨.vl, .scr ns⟩, some ⟨.im, .int k⟩, some ⟨.im, bd.d⟩, none, none, some ⟨.mu, srcD a2 b2⟩, some ⟨.im, lns ls⟩, some ⟨.im, .str (textT ls)⟩, j8, j9, j10, none] ⟨textT ls, a2, b2, j8, j10, ok2, tg, by omega, rfl, f8, f10⟩
  have od := odd_line bd hb x
  obtain ⟨ρ2, e5, _, k9, g9, rfl⟩ := forR_inv (g := fun (d : D) => d) (f := bindT (.nm 9 false) .vl) (body := exs G_law (intC ics) l_law_2) (fun xs ρ => (∀ d ∈ xs, d ∈ oddsD x) ∧ inv2 (some ⟨.vl, .scr ns⟩) (some ⟨.im, .int k⟩) bd none none (some ⟨.mu, srcD a3 b3⟩) (some ⟨.im, lns ls⟩) (some ⟨.im, .str x⟩) k8 k10 none ρ) (fun d xs ρ i => by
    obtain ⟨i1, i2⟩ := i
    obtain ⟨ρ', q1, q2⟩ := law2_step _ _ bd _ _ _ _ _ _ _ _ d (od d (i1 d (by simp))) ρ i2
    exact ⟨ρ', q1, fun y hy => i1 y (by simp [hy]), q2⟩) (oddsD x) [some ⟨.vl, .scr ns⟩, some ⟨.im, .int k⟩, some ⟨.im, bd.d⟩, none, none, some ⟨.mu, srcD a3 b3⟩, some ⟨.im, lns ls⟩, some ⟨.im, .str x⟩, k8, j9, k10, none] ⟨fun d hd => hd, j9, f9, rfl⟩
  rw [List.map_id'] at e5
  have rg := rng1_eq .im 20 (by decide) (by decide)
  have r20 : (20 : Int).toNat = 20 := rfl
  rw [r20] at rg
  have imb : ∀ t, RV.nrm ⟨t, bd.d⟩ = ⟨.im, bd.d⟩ := fun t => nrm_of (by simp)
  have imL : ∀ t l, RV.nrm ⟨t, lns l⟩ = ⟨.im, lns l⟩ := fun t l => nrm_of (lns_imm l)
  have sO : seqD ⟨.fr, .lst [.non, .int 5, .tup [.str x], .lst [.str x], .bl true, .str "", .str " ", .str "\n"]⟩ = some ⟨.fr, .vl, oddsD x⟩ := rfl
  refine ⟨[some ⟨.vl, .scr ns⟩, some ⟨.im, .int k⟩, some ⟨.im, bd.d⟩, none, none, some ⟨.mu, srcD a3 b3⟩, some ⟨.im, lns ls⟩, some ⟨.im, .str x⟩, k8, k9, k10, none], ?_, _, _, _, _, _, _, _, _, rfl, rfl, rfl, rfl, rfl, rfl, g8, g9, g10⟩
  generalize (List.range 20).map (fun (i : Nat) => D.int i) = RR at *
  generalize oddsD x = OO at *
  simp -implicitDefEqProofs [l_law_3, f1, f2, f5, f6, f7, f8, f10, e1, e2, e3, wr, rg, e4, sO, e5, imb, imL, ME.pure, MEs.pure, MT.pure]
/-! the law's own texts -/
def bdA : Brd := ⟨[⟨1, 0, 0, 0, none⟩, ⟨1, 0, 0, 0, none⟩], 0, 0⟩
theorem okA : BrdOk bdA where
  lo := by decide
  hi := by decide
  bt := fun n b hb => by
    match n, hb with
    | 0, hb => cases hb; exact ⟨by decide, by decide, by decide, by decide, fun p hp => by cases hp⟩
    | 1, hb => cases hb; exact ⟨by decide, by decide, by decide, by decide, fun p hp => by cases hp⟩
  pa := by decide
  en := by decide
  sz := by decide
def lsA : List Lin := [⟨0, .runs 1⟩, ⟨1, .always⟩]
theorem lokA : LnsOk bdA.btns.length lsA := ⟨by decide, by decide, fun l h => by
  simp only [lsA, List.mem_cons, List.not_mem_nil, or_false] at h
  rcases h with rfl | rfl
  · exact ⟨by decide, (show (1 : Nat) < bdA.btns.length by decide)⟩
  · exact ⟨by decide, trivial⟩⟩
def goodT : Str := "press 0 if runs 1\npress 1"
theorem textA : textT lsA = goodT := by decide +kernel
theorem lA : D.tup [.tup [.int 0, .tup [.str "runs", .int 1]], .tup [.int 1, .tup [.str "always"]]] = lns lsA := rfl
def B4 : List Str := [
  "press 1 if always",
  "press 1 if always 0"]
def B5 : List Str := [
  "press 1 if energy 0",
  "press 1 if energy 5",
  "press 01"]
def B6 : List Str := [
  "push 1",
  "press",
  "press 1 1",
  "press if 1"]
def R1 : List Str := [goodT ++ "\n", goodT ++ " ", (" " : Str) ++ goodT, goodT ++ "\npress 2", "press  0"]
def R2 : List Str := R1 ++ [Txt.replace goodT "runs" "Runs"]
def R3 : List Str := R2 ++ [Txt.replace goodT "runs 1" "runs 2", Txt.replace goodT "if " ""]
def R4 : List Str := R3 ++ B4
def R5 : List Str := R4 ++ B5
def R6 : List Str := R5 ++ B6
def R7 : List Str := R6 ++ [Str.join "\n" (List.replicate 5 "press 1")]
theorem bad_rows : ∀ x ∈ R7, textB 2 x = false ∧ strGood x = true ∧ x.length ≤ 2000 := by decide +kernel
theorem text_inj {m : Nat} (hm : m ≤ 3) {ls ls' : List Lin} (h : LnsOk m ls) (h' : LnsOk m ls') (e : textT ls = textT ls') : ls = ls' := by
  have hs : ∀ l ∈ ls, l ∈ linSet := fun l q => in_set hm (h.ok l q)
  have hs' : ∀ l ∈ ls', l ∈ linSet := fun l q => in_set hm (h'.ok l q)
  have s1 := text_split ls hs fun e => by have := h.lo; rw [e] at this; simp at this
  have s2 := text_split ls' hs' fun e => by have := h'.lo; rw [e] at this; simp at this
  rw [e, s2] at s1
  have key : ∀ xs : List Lin, (∀ l ∈ xs, l ∈ linSet) → (xs.map rowT).map lineT = xs.map Lin.d := fun xs hx => by
    rw [List.map_map]
    exact List.map_congr_left fun l hl => row_line l (hx l hl)
  have := congrArg (List.map lineT) s1
  rw [key ls hs, key ls' hs'] at this
  exact lins_inj this.symm
theorem no_rows (f : D → Option (Option RV)) : ∀ (xs : List Str), (∀ x ∈ xs, f (.str x) = some none) → turns f (xs.map D.str) = some []
  | [], _ => rfl
  | x :: xs, h => by
    rw [List.map_cons]
    unfold turns
    rw [h x (by simp), no_rows f xs fun y hy => h y (by simp [hy])]
    rfl
theorem sem_law_x (ns : List Int) : F_law.sem [.scr ns] = .ret ⟨.im, .bl true⟩ [] := by
  obtain ⟨n, hn, hn2⟩ : ∃ n : Nat, (1 + (if (8 : Int) < ns.length then 8 else (ns.length : Int))) = n ∧ n ≤ 9 := ⟨(1 + (if (8 : Int) < ns.length then 8 else (ns.length : Int))).toNat, by split <;> omega, by split <;> omega⟩
  obtain ⟨ρ', e, k1, k2, k5, k6, k7, k8, k9, k10, rfl, f1, f2, f5, f6, f7, f8, f9, f10⟩ := forR_inv (g := fun (i : Nat) => D.int i) (f := bindT (.nm 1 false) .im) (body := exs G_law (intC ics) l_law_3) (fun _ ρ => inv3 ns ρ) (fun x xs ρ i => law3_step ns x ρ i) (List.range n) [some ⟨.vl, .scr ns⟩, none, none, none, none, none, none, none, none, none, none, none] ⟨none, none, none, none, none, none, none, none, rfl, rfl, rfl, rfl, rfl, rfl, rfl, rfl, rfl⟩
  rw [sm_law]
  have r2 : (n : Int) < 1000000000 := by omega
  have mu : ∀ t u, opD .mul ⟨t, .tup [.tup [.int 1, .int 0, .int 0, .int 0, .non]]⟩ ⟨u, .int 2⟩ = some ⟨.im, bdA.bs⟩ := fun _ _ => rfl
  have dA : D.tup [bdA.bs, .int 0, .int 0] = bdA.d := rfl
  have e6 : F__law_tried.sem [bdA.d, .str goodT] = .ret ⟨.im, lns lsA⟩ [] := by
    rcases sem_tried bdA okA goodT (by kernel_rfl) (by decide +kernel) with ⟨ls, k1, k2, k3⟩ | ⟨k1, k2⟩
    · rw [← textA] at k2
      rw [text_inj okA.hi k1 lokA k2] at k3
      exact k3
    · exact absurd textA (k1 lsA lokA)
  have bd7 : ∀ x ∈ R7, F__law_tried.sem [bdA.d, .str x] = .ret ⟨.im, .str "line"⟩ [] := fun x hx => by
    obtain ⟨h1, h2, h3⟩ := bad_rows x hx
    exact tried_not bdA okA x h2 h3 h1
  have qq := lns_eqD lsA
  have imL : ∀ t l, RV.nrm ⟨t, lns l⟩ = ⟨.im, lns l⟩ := fun t l => nrm_of (lns_imm l)
  have imb : ∀ t, RV.nrm ⟨t, bdA.d⟩ = ⟨.im, bdA.d⟩ := fun t => nrm_of (by simp)
  have ll : eqD (.str "line") (.str "line") = some true := by rw [eq_strs, decide_eq_true rfl]
  have lg : D.str "press 0 if runs 1\npress 1" = .str goodT := rfl
  have a1 : ∀ t u, opD .add ⟨t, .str goodT⟩ ⟨u, .str "\n"⟩ = some ⟨.im, .str (goodT ++ "\n")⟩ := fun t u => add_strB _ _ t u (by decide +kernel)
  have a2 : ∀ t u, opD .add ⟨t, .str goodT⟩ ⟨u, .str " "⟩ = some ⟨.im, .str (goodT ++ " ")⟩ := fun t u => add_strB _ _ t u (by decide +kernel)
  have a3 : ∀ t u, opD .add ⟨t, .str " "⟩ ⟨u, .str goodT⟩ = some ⟨.im, .str ((" " : Str) ++ goodT)⟩ := fun t u => add_strB _ _ t u (by decide +kernel)
  have a4 : ∀ t u, opD .add ⟨t, .str goodT⟩ ⟨u, .str "\npress 2"⟩ = some ⟨.im, .str (goodT ++ "\npress 2")⟩ := fun t u => add_strB _ _ t u (by decide +kernel)
  have rep : ∀ (y z : Str) t u v, (!(y == z) && decide (goodT.length + (goodT.length + 1) * z.length ≤ 1000)) = true → mtD .replace ⟨t, .str goodT⟩ [⟨u, .str y⟩, ⟨v, .str z⟩] = some ⟨.im, .str (Txt.replace goodT y z)⟩ := fun y z t u v h => by
    obtain ⟨h1, h2⟩ := Bool.and_eq_true_iff.mp h
    have h2 := of_decide_eq_true h2
    show (if (!(y == z) && decide (goodT.length + (goodT.length + 1) * z.length ≤ big)) = true then some (⟨.im, .str (Txt.replace goodT y z)⟩ : RV) else none) = _
    rw [if_pos]
    rw [h1, Bool.true_and]
    exact decide_eq_true (by rw [big_eq, sizeLine_eq]; omega)
  have b1 := fun t u v => rep "runs" "Runs" t u v (by decide +kernel)
  have b2 := fun t u v => rep "runs 1" "runs 2" t u v (by decide +kernel)
  have b3 := fun t u v => rep "if " "" t u v (by decide +kernel)
  have igt : (D.str goodT).isStr = true := rfl
  have inl : (D.str "\n").isStr = true := rfl
  have L1 : D.lst [.str (goodT ++ "\n"), .str (goodT ++ " "), .str ((" " : Str) ++ goodT), .str (goodT ++ "\npress 2"), .str "press  0"] = strL R1 := rfl
  have p2 := strL_app R1 (Txt.replace goodT "runs" "Runs") (by decide)
  have L3 : D.lst [.str (Txt.replace goodT "runs 1" "runs 2"), .str (Txt.replace goodT "if " "")] = strL [Txt.replace goodT "runs 1" "runs 2", Txt.replace goodT "if " ""] := rfl
  have p3 := strL_addF R2 [Txt.replace goodT "runs 1" "runs 2", Txt.replace goodT "if " ""] (by decide)
  have L4 : D.lst [.str "press 1 if always", .str "press 1 if always 0"] = strL B4 := rfl
  have p4 := strL_addF R3 B4 (by decide)
  have L5 : D.lst [.str "press 1 if energy 0", .str "press 1 if energy 5", .str "press 01"] = strL B5 := rfl
  have p5 := strL_addF R4 B5 (by decide)
  have L6 : D.lst [.str "push 1", .str "press", .str "press 1 1", .str "press if 1"] = strL B6 := rfl
  have p6 := strL_addF R5 B6 (by decide)
  have mm : ∀ t u, opD .mul ⟨t, .lst [.str "press 1"]⟩ ⟨u, .int 5⟩ = some ⟨.fr, strL (List.replicate 5 "press 1")⟩ := fun _ _ => rfl
  have jj := fun t u => join_ofB "\n" len_nl t u (List.replicate 5 "press 1") (by decide +kernel)
  have p7 := strL_app R6 (Str.join "\n" (List.replicate 5 "press 1")) (by decide)
  rw [show R1 ++ [Txt.replace goodT "runs" "Runs"] = R2 from rfl] at p2
  rw [show R2 ++ [Txt.replace goodT "runs 1" "runs 2", Txt.replace goodT "if " ""] = R3 from rfl] at p3
  rw [show R3 ++ B4 = R4 from rfl] at p4
  rw [show R4 ++ B5 = R5 from rfl] at p5
  rw [show R5 ++ B6 = R6 from rfl] at p6
  rw [show R6 ++ [Str.join "\n" (List.replicate 5 "press 1")] = R7 from rfl] at p7
  generalize goodT ++ "\n" = g1 at *
  generalize goodT ++ " " = g2 at *
  generalize (" " : Str) ++ goodT = g3 at *
  generalize goodT ++ "\npress 2" = g4 at *
  generalize Txt.replace goodT "runs" "Runs" = g5 at *
  generalize Txt.replace goodT "runs 1" "runs 2" = g6 at *
  generalize Txt.replace goodT "if " "" = g7 at *
  generalize Str.join "\n" (List.replicate 5 "press 1") = g8 at *
  generalize strL (List.replicate 5 "press 1") = M5 at *
  generalize bdA.bs = BB at *
  have la : ∀ S a b, lstAt [some ⟨.vl, .scr ns⟩, k1, some ⟨.im, bdA.d⟩, a, some ⟨.mu, strL S⟩, k5, k6, k7, k8, k9, k10, b] 4 = true := fun _ _ _ => rfl
  have sq : seqD ⟨.tm 4, strL R7⟩ = some ⟨.tm 4, .tm 4, R7.map D.str⟩ := rfl
  have tn := no_rows (lczF G_law (intC ics) (.var 11) (.nm 11 false) (.val (.cmp .ne (.call 22 (.cons (.var 2) (.cons (.var 11) .nil))) (.lit (.str "line")))) (.tm 4) [some ⟨.vl, .scr ns⟩, k1, some ⟨.im, bdA.d⟩, some ⟨.im, .str goodT⟩, some ⟨.mu, strL R7⟩, k5, k6, k7, k8, k9, k10, none]) R7 fun x hx => by
    have td := bd7 x hx
    simp -implicitDefEqProofs [td, ll, imb, ME.pure, MEs.pure, MT.pure]
  have le0 : lczE [] = some ⟨.fr, .lst []⟩ := rfl
  have ee : eqD (.lst []) (.lst []) = some true := by kernel_rfl
  generalize R7.map D.str = Y7 at *
  simp -implicitDefEqProofs [-mulT_eq, -mulL_eq, -lstAt_eq, la, b_law, hn, r2, e, f1, f2, f5, f6, f7, f8, f9, f10, mu, dA, lA, lg, a1, a2, a3, a4, b1, b2, b3, igt, inl, L1, p2, L3, p3, L4, p4, L5, p5, L6, p6, mm, jj, p7, e6, qq, imL, imb, sq, tn, le0, ee, ME.pure, MEs.pure, MT.pure]
theorem sem_law : ∀ ns : List Int, (mkF (intC ics) (tabs (intC ics) [d_is_from, d_is_tuple, d_is_button, d_longest, d_size_of, d_is_board, d_is_word, d_is_line, d_has_list, d_need_board, d_is_list, d_text_of, d_line_from, d_read_list, d__law_source, d__law_draw, d__law_choice, d__law_size, d__law_board, d__law_list, d__law_written, d__law_bent, d__law_tried] []) d_law).sem [.scr ns] = .ret ⟨.im, .bl true⟩ [] := fun ns => by
  rw [law_F]
  exact sem_law_x ns
end Tx
end

section
set_option Elab.async false
set_option linter.all false
set_option maxRecDepth 100000
set_option maxHeartbeats 0
namespace Tx
open PySem PySem.Spec PyProof.Rows L2 Ev
def fa : List He.Fa := mkFa order xcs (intsOfC ics)
def tf : List (Str × List Str) := tupsOfC ics
def fn : List He.DefD := ds.map mkD
abbrev Rw : PySem.W.OpenRow := PySem.W.OpenLaw.row PySem.Challenge.rw_pressfirst_k18_strings_that_are_spoilt
abbrev hk : PySem.W.Hook := hookE 5 fa tf fn
def ob (s : PySem.W.SharedT) : He.AlD := obsEG 5 fa tf fn (HandSHeadRun.getT s)
theorem obq (s : PySem.W.SharedT) : ob s = hk.obs s.abs := obsEG_eq (HandSHeadRun.getT_eq s)
def loose : List Str := (["PressError", "InvalidBoard", "InvalidLine", "MOST_SIZE", "is_from", "is_tuple", "is_button", "longest", "size_of", "is_board", "is_word", "is_line", "has_list", "need_board", "is_list"] : List Str) ++ (["NUMBERS", "text_of", "line_from", "read_list", "_law_source", "_law_draw", "_law_choice", "_law_size", "_law_board", "_law_list", "_law_written", "_law_bent", "_law_tried"] : List Str)
theorem headrun (w : World) : HandSHeadRun.RunEq Rw (PySem.W.view Rw.prog [32]) hk ob 5000 loose w := by
  intro os
  kernel_rfl
def dsI : List Desc := ds.dropLast
theorem ds_eq : ds = dsI ++ [d_law] := rfl
theorem names_eq : order = (dsI ++ [d_law]).map (·.name) := by decide +kernel
end Tx
open PySem PySem.W PySem.Calls PyProof.Rows
theorem PySem.Challenge.cw_pressfirst_k18_strings_that_are_spoilt_holds : PySem.Challenge.rw_pressfirst_k18_strings_that_are_spoilt.Holds := by
  w_on; o_law
  refine HandSHeadRun.head_any (r := Tx.Rw) (q := view Tx.Rw.prog [32]) (H := Tx.hk) (ob := Tx.ob) (M := 5000) (loose := Tx.loose) (d := HandSHeadRun.topDef Tx.Rw.prog 32) (kwd := []) Tx.obq
    (by kernel_rfl) (fun s => by kernel_rfl) Tx.headrun (by kernel_rfl) (by kernel_rfl) (by kernel_rfl) (by rfl) (by first | assumption | decide +kernel) (by decide +kernel) ⟨rfl, rfl, rfl, rfl, rfl, by decide +kernel⟩ ?hw ?hc
  case hw => w_witness2
  case hc =>
    refine Ev.end_of (l := PySem.Challenge.rw_pressfirst_k18_strings_that_are_spoilt) (Tx.dsI.length + 1) "_law_script" rfl (by kernel_rfl) ⟨rfl, by decide, by decide⟩ fun w mg fl h Y G hmg0 => ?_
    obtain ⟨K, X, c⟩ := Y
    have hmg : mg Tx.d_law.name = some (.ref fl) := by
      have e : (HandSHeadRun.topDef Tx.Rw.prog 32).name = Tx.d_law.name := by kernel_rfl
      rw [← e]
      exact hmg0
    obtain ⟨cd, ct⟩ := Ev.SaysE.d c
    have all : ∀ f ∈ Ev.mkFa Tx.order Tx.xcs (Ev.intsOfC Tx.ics), f.ok K = true := fun f hf => by
      obtain ⟨i, hi⟩ := List.getElem?_of_mem hf
      exact cd.fact i hi
    obtain ⟨fd, sp, q1, q2, q3⟩ := Ev.law_walk2 (P := (PySem.Challenge.rw_pressfirst_k18_strings_that_are_spoilt).prog) (w := w) (fns := Tx.order) (xcs := Tx.xcs) (ics := Ev.intsOfC Tx.ics) (gls := Tx.gls) (C := Tx.intC Tx.ics) (ds := Tx.dsI) (dl := Tx.d_law) Tx.names_eq (by decide +kernel) (by decide +kernel) (by decide +kernel) Tx.okds Tx.bdds.all rfl rfl Tx.sem_law X G all (fun i d h => cd.def_ i h) (Ev.glo_of X G all ct) hmg
    exact ⟨K, fd, sp, X, q1, q2, q3⟩
#print axioms PySem.Challenge.cw_pressfirst_k18_strings_that_are_spoilt_holds
end
