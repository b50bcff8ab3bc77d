import PyProof.Rows.All
import HandS.List
import HandS.Text
import HandS.ForMost
import HandS.ForExc
import HandS.IsInst
import HandS.Style
import HandS.TupAny
import HandS.TupMul
import HandS.RaiseMore
import HandS.DictComp
import HandS.Walk
import HandS.Small
import HandS.ExcIs
import HandS.More
import HandS.DictTup
import KE.GoesZip
import KE.GoesMore
import PyProof.Draws
import HandS.Keys
import HandS.Sort
import HandS.ExcInit
import KE.KExcIs
import Wide.All
import OpenK.AllK
import Wide.FinOn
import KE.KStateDown
import HandS.Head0
import HandS.Head1
import HandS.Head2
import HandS.HeadEnd
import HandS.HeadHook1
import HandS.HeadHook2
import HandS.HeadNt
import PySem.Challenge.RW_leanledger_k49_whole_witnesses_lead_alik
set_option Elab.async false
set_option linter.all false
set_option maxRecDepth 100000
/-! DL0: plain data and what the operations of the language do with it; no heap, no program. -/
namespace DL
open PySem (Str)
abbrev Key := Sum Int Str
/-- plain data: what a value is, seen through the heap; scr: the law's script -/
inductive D where
  | non | bl (b : Bool) | int (i : Int) | str (x : Str) | tup (xs : List D) | lst (xs : List D) | dct (kvs : List (Key × D)) | scr (ns : List Int)
/-- an error: its class's name, its fields -/
structure Err where
  cls : Str
  fs : List (Str × D)
inductive Res (α : Type) where
  | ok (a : α) | err (e : Err) | stuck
def Res.bind {α β : Type} (x : Res α) (f : α → Res β) : Res β := match x with
  | .ok a => f a
  | .err e => .err e
  | .stuck => .stuck
instance : Monad Res where
  pure := .ok
  bind := Res.bind
/-- the slots of a def's names -/
abbrev DSt := List (Option D)
abbrev DE := DSt → Res D
abbrev DT := DSt → Res Bool
abbrev DA := DSt → Res (List D)
/-- behind a statement -/
inductive RS where
  | nx (s : DSt) | rt (d : D) | bk (s : DSt) | ct (s : DSt) | er (e : Err) (s : DSt) | stuck
abbrev DS := DSt → RS
abbrev SL : Nat := 16777216

/-! ### keyed lists -/
section
variable {α : Type}
def lk (kvs : List (Key × α)) (k : Key) : Option α := (kvs.find? fun kv => decide (kv.1 = k)).map (·.2)
def pt (kvs : List (Key × α)) (k : Key) (v : α) : List (Key × α) :=
  if (kvs.any fun kv => decide (kv.1 = k)) = true then kvs.map fun kv => if kv.1 = k then (kv.1, v) else kv else kvs ++ [(k, v)]
def dl (kvs : List (Key × α)) (k : Key) : List (Key × α) := kvs.filter fun kv => decide (kv.1 ≠ k)
def cut (xs : List α) (lo hi : Option Int) : List α := (xs.drop (HT.sIx xs.length 0 lo)).take (HT.sIx xs.length xs.length hi - HT.sIx xs.length 0 lo)
end
/-! ### equality -/
mutual
def D.p : D → PySem.PyData
  | .non => .none | .bl b => .bool b | .int i => .int i | .str x => .str x
  | .tup xs => .tuple (D.ps xs) | .lst xs => .list (D.ps xs) | .dct _ => .dict [] | .scr _ => .dict []
def D.ps : List D → List PySem.PyData
  | [] => [] | d :: r => D.p d :: D.ps r
end
def D.flat : D → Bool
  | .non => true | .bl _ => true | .int _ => true | .str _ => true | _ => false
/-- what can be compared -/
def sOk (x : Str) : Bool := x.cps.toList.all (· < 0x110000)
mutual
def D.okS : D → Bool
  | .non => true | .bl _ => true | .int _ => true | .str x => sOk x
  | .tup xs => D.okSs xs | .lst xs => D.okSs xs | .dct _ => false | .scr _ => false
def D.okSs : List D → Bool
  | [] => true | d :: r => D.okS d && D.okSs r
end
mutual
def D.dep : D → Nat
  | .non => 0 | .bl _ => 0 | .int _ => 0 | .str _ => 0
  | .tup xs => D.deps xs + 1 | .lst xs => D.deps xs + 1 | .dct _ => 0 | .scr _ => 0
def D.deps : List D → Nat
  | [] => 0 | d :: r => max (D.dep d) (D.deps r)
end
def D.okE (d : D) : Bool := d.okS && decide (d.dep ≤ 64)
mutual
theorem D.okS_p : ∀ d : D, d.okS = true → d.p.canLay0 = true
  | .non, _ => by simp only [D.p, PySem.PyData.canLay0]
  | .bl _, _ => by simp only [D.p, PySem.PyData.canLay0]
  | .int _, _ => by simp only [D.p, PySem.PyData.canLay0]
  | .str x, h => by
    simp only [D.p, PySem.PyData.canLay0]
    simp only [D.okS, sOk] at h
    show x.cps.all (· < 0x110000) = true
    rw [← Array.all_toList]
    exact h
  | .tup xs, h => by
    simp only [D.p, PySem.PyData.canLay0]
    exact D.okSs_p xs (by simpa only [D.okS] using h)
  | .lst xs, h => by
    simp only [D.p, PySem.PyData.canLay0]
    exact D.okSs_p xs (by simpa only [D.okS] using h)
  | .dct _, h => by simp only [D.okS] at h; cases h
  | .scr _, h => by simp only [D.okS] at h; cases h
theorem D.okSs_p : ∀ ds : List D, D.okSs ds = true → PySem.PyData.canLayAll0 (D.ps ds) = true
  | [], _ => by simp only [D.ps, PySem.PyData.canLayAll0]
  | d :: ds, h => by
    simp only [D.okSs, Bool.and_eq_true] at h
    simp only [D.ps, PySem.PyData.canLayAll0, Bool.and_eq_true]
    exact ⟨D.okS_p d h.1, D.okSs_p ds h.2⟩
end
mutual
theorem D.dep_p : ∀ d : D, d.p.depth ≤ d.dep + (if d.okS then 0 else d.p.depth)
  | .non => by simp [D.p, PySem.PyData.depth]
  | .bl _ => by simp [D.p, PySem.PyData.depth]
  | .int _ => by simp [D.p, PySem.PyData.depth]
  | .str x => by simp [D.p, PySem.PyData.depth]
  | .tup xs => by
    simp only [D.p, PySem.PyData.depth, D.dep, D.okS]
    have := D.deps_p xs
    split
    · rename_i h; rw [if_pos h] at this; omega
    · omega
  | .lst xs => by
    simp only [D.p, PySem.PyData.depth, D.dep, D.okS]
    have := D.deps_p xs
    split
    · rename_i h; rw [if_pos h] at this; omega
    · omega
  | .dct _ => by simp [D.okS]
  | .scr _ => by simp [D.okS]
theorem D.deps_p : ∀ ds : List D, PySem.PyData.depthAll (D.ps ds) ≤ D.deps ds + (if D.okSs ds then 0 else PySem.PyData.depthAll (D.ps ds))
  | [] => by simp [D.ps, PySem.PyData.depthAll]
  | d :: ds => by
    have h1 := D.dep_p d
    have h2 := D.deps_p ds
    by_cases q : D.okSs (d :: ds) = true
    · rw [if_pos q]
      simp only [D.okSs, Bool.and_eq_true] at q
      rw [if_pos q.1] at h1
      rw [if_pos q.2] at h2
      simp only [D.ps, PySem.PyData.depthAll, D.deps]
      omega
    · rw [if_neg q]; omega
end
theorem D.okE_sh {d : D} (h : d.okE = true) : PySem.SeqAt.shaped d.p = true := by
  unfold D.okE at h
  simp only [Bool.and_eq_true, decide_eq_true_eq] at h
  have := D.dep_p d
  rw [if_pos h.1] at this
  unfold PySem.SeqAt.shaped
  simp only [Bool.and_eq_true, decide_eq_true_eq]
  exact ⟨D.okS_p d h.1, by omega⟩
def D.eqv (d e : D) : Bool := PySem.PyData.eqv d.p e.p
def dctEq (a b : List (Key × D)) : Bool := a.length == b.length && a.all fun kv => match lk b kv.1 with
  | some w => D.eqv kv.2 w
  | none => false
def dctFlat (a : List (Key × D)) : Bool := a.all fun kv => kv.2.flat && kv.2.okE
def D.isDct : D → Bool
  | .dct _ => true | _ => false
def opEqB : D → D → Option Bool
  | .dct a, .dct b => if (dctFlat a && dctFlat b) = true then some (dctEq a b) else none
  | d, e => if (d.okE && e.okE) = true then some (D.eqv d e) else none
def opEq (d e : D) : Option D := match opEqB d e with
  | some b => some (.bl b)
  | none => none
def opNe (d e : D) : Option D := match opEqB d e with
  | some b => some (.bl (!b))
  | none => none
/-! ### numbers, texts, lists -/
def opAdd : D → D → Option D
  | .int i, .int j => some (.int (i + j))
  | .str a, .str b => if a.length + b.length ≤ SL then some (.str (a ++ b)) else none
  | .lst a, .lst b => if a.length + b.length ≤ SL then some (.lst (a ++ b)) else none
  | .tup a, .tup b => if a.length + b.length ≤ SL then some (.tup (a ++ b)) else none
  | _, _ => none
/-- + of lists -/
def opCat : D → D → Option D
  | .lst a, .lst b => if a.length + b.length ≤ SL then some (.lst (a ++ b)) else none
  | _, _ => none
def opSub : D → D → Option D
  | .int i, .int j => some (.int (i - j))
  | _, _ => none
/-- the bounds of a product -/
def mulOk (i j : Int) : Bool := decide (-(2 ^ 64) < i ∧ i < 2 ^ 64) || decide (-(2 ^ 64) < j ∧ j < 2 ^ 64)
def repS (x : Str) : Nat → Str
  | 0 => Str.empty
  | n + 1 => x ++ repS x n
def opMulI : D → D → Option D
  | .int i, .int j => if mulOk i j = true then some (.int (i * j)) else none
  | _, _ => none
def opMul : D → D → Option D
  | .int i, .int j => if mulOk i j = true then some (.int (i * j)) else none
  | .str x, .int k => if 0 ≤ k ∧ k ≤ 1000 ∧ x.length ≤ 1000 then some (.str (repS x k.toNat)) else none
  | .tup xs, .int k => if 1 ≤ k ∧ k ≤ 1000 ∧ xs.length ≤ 1000 ∧ xs ≠ [] then some (.tup (List.replicate k.toNat xs).flatten) else none
  | _, _ => none
def opFdiv : D → D → Option D
  | .int i, .int j => if 0 < j ∧ j < 1073741824 then some (.int (i / j)) else none
  | _, _ => none
def opMod : D → D → Option D
  | .int i, .int j => if 0 < j then some (.int (i % j)) else none
  | _, _ => none
def opShl : D → D → Option D
  | .int i, .int j => if 0 ≤ j ∧ j ≤ 1000000 ∧ i.natAbs < 2 ^ 64 then some (.int (i * 2 ^ j.toNat)) else none
  | _, _ => none
def opShr : D → D → Option D
  | .int i, .int j => if 0 ≤ j then some (.int (i / 2 ^ j.toNat)) else none
  | _, _ => none
def opPow : D → D → Option D
  | .int i, .int j => if 0 ≤ j ∧ j ≤ 1000000 ∧ i.natAbs < 2 ^ 64 then some (.int (i ^ j.toNat)) else none
  | _, _ => none
/-- & 1 -/
def opAnd : D → D → Option D
  | .int i, .int j => if 0 ≤ i ∧ j = 1 then some (.int (i % 2)) else none
  | _, _ => none
def opNeg : D → Option D
  | .int i => some (.int (-i))
  | _ => none
def opCmp (f : Int → Int → Bool) : D → D → Option D
  | .int i, .int j => some (.bl (f i j))
  | _, _ => none
abbrev opLt : D → D → Option D := opCmp fun i j => decide (i < j)
abbrev opLe : D → D → Option D := opCmp fun i j => decide (i ≤ j)
abbrev opGt : D → D → Option D := opCmp fun i j => decide (j < i)
abbrev opGe : D → D → Option D := opCmp fun i j => decide (j ≤ i)
def D.isNon : D → Bool
  | .non => true
  | _ => false
def opIs : D → D → Option D
  | d, .non => some (.bl d.isNon)
  | .bl a, .bl b => some (.bl (a == b))
  | _, _ => none
def opIsN : D → D → Option D
  | d, .non => some (.bl (!d.isNon))
  | .bl a, .bl b => some (.bl (!(a == b)))
  | _, _ => none
def keyOf : D → Option Key
  | .int i => some (.inl i) | .str s => some (.inr s) | _ => none
def ofKey : Key → D
  | .inl i => .int i | .inr s => .str s
def opInB : D → D → Option Bool
  | x, .dct kvs => match keyOf x with
    | some k => some (lk kvs k).isSome
    | none => none
  | x, .tup xs => if (x.flat && xs.all D.flat) = true then some (xs.any fun y => D.eqv y x) else none
  | x, .lst xs => if (x.flat && xs.all D.flat) = true then some (xs.any fun y => D.eqv y x) else none
  | _, _ => none
def opIn (x c : D) : Option D := match opInB x c with
  | some b => some (.bl b) | _ => none
def opNotIn (x c : D) : Option D := match opInB x c with
  | some b => some (.bl (!b)) | _ => none
def opIx : D → D → Option D
  | .lst xs, .int i => match L2.atI xs i with
    | some d => some d | none => none
  | .tup xs, .int i => match L2.atI xs i with
    | some d => some d | none => none
  | .scr ns, .int i => match L2.atI ns i with
    | some d => some (.int d) | none => none
  | .dct kvs, k => match keyOf k with
    | some k => (match lk kvs k with
      | some d => some d | none => none)
    | none => none
  | _, _ => none
def opSl (lo hi : Option Int) : D → Option D
  | .lst xs => some (.lst (cut xs lo hi))
  | .tup xs => some (.tup (cut xs lo hi))
  | .str x => if x.length ≤ SL then some (.str (L2.cutS x lo hi)) else none
  | _ => none
def opRev : D → Option D
  | .lst xs => some (.lst xs.reverse)
  | _ => none
def fLen : D → Option D
  | .str x => if x.length ≤ SL then some (.int x.length) else none
  | .lst xs => some (.int xs.length)
  | .tup xs => some (.int xs.length)
  | .scr xs => some (.int xs.length)
  | .dct kvs => some (.int kvs.length)
  | _ => none
def truth : D → Option Bool
  | .non => some false
  | .bl b => some b
  | .int i => some (i != 0)
  | .str x => if x.length ≤ SL then some ((x.length : Int) != 0) else none
  | .lst xs => some (!xs.isEmpty)
  | .tup xs => some (!xs.isEmpty)
  | _ => none
def fIsInt : D → Option D
  | .int _ => some (.bl true) | .bl _ => some (.bl true) | _ => some (.bl false)
def fIsBool : D → Option D
  | .bl _ => some (.bl true) | _ => some (.bl false)
def fIsStr : D → Option D
  | .str _ => some (.bl true) | _ => some (.bl false)
def fIsTup : D → Option D
  | .tup _ => some (.bl true) | _ => some (.bl false)
def fIsLst : D → Option D
  | .lst _ => some (.bl true) | .scr _ => some (.bl true) | _ => some (.bl false)
def fIsDct : D → Option D
  | .dct _ => some (.bl true) | _ => some (.bl false)
/-- isinstance of a class of the program of which no instance is made -/
def fIsOwn : D → Option D := fun _ => some (.bl false)
def fStr : D → Option D
  | .int i => if i.natAbs.log2 < 1920 then some (.str (toString i)) else none
  | .str x => some (.str x)
  | _ => none
def fInt : D → Option D
  | .int i => some (.int i)
  | .bl b => some (.int (if b then 1 else 0))
  | .str x => match PySem.intText? x with
    | some n => if x.length ≤ 640 then some (.int n) else none
    | none => none
  | _ => none
def fAbs : D → Option D
  | .int i => some (.int (if i < 0 then -i else i)) | _ => none
def fMin2 : D → D → Option D
  | .int i, .int j => some (.int (if j < i then j else i)) | _, _ => none
def fMax2 : D → D → Option D
  | .int i, .int j => some (.int (if j > i then j else i)) | _, _ => none
def intsOf : List D → Option (List Int)
  | [] => some []
  | .int i :: r => (intsOf r).map (i :: ·)
  | _ => none
def boolsOf : List D → Option (List Bool)
  | [] => some []
  | .bl i :: r => (boolsOf r).map (i :: ·)
  | _ => none
def strsOf : List D → Option (List Str)
  | [] => some []
  | .str i :: r => (strsOf r).map (i :: ·)
  | _ => none
def fSum : D → Option D
  | .lst xs => match intsOf xs with
    | some ns => some (.int ns.sum) | none => none
  | _ => none
def fAll : D → Option D
  | .lst xs => match boolsOf xs with
    | some ns => some (.bl (ns.all id)) | none => none
  | _ => none
def fAny : D → Option D
  | .lst xs => match boolsOf xs with
    | some ns => some (.bl (ns.any id)) | none => none
  | _ => none
def fList : D → Option D
  | .lst xs => some (.lst xs) | .tup xs => some (.lst xs) | _ => none
def fTup : D → Option D
  | .lst xs => some (.tup xs) | .tup xs => some (.tup xs) | _ => none
/-- dict(pairs) -/
def pairsOf : List D → Option (List (Key × D))
  | [] => some []
  | .tup [k, v] :: r => match keyOf k with
    | some k => (pairsOf r).map ((k, v) :: ·)
    | none => none
  | _ => none
def merge (kvs more : List (Key × D)) : List (Key × D) := more.foldl (fun acc kv => pt acc kv.1 kv.2) kvs
def fDict : D → Option D
  | .dct kvs => some (.dct kvs)
  | .lst xs => match pairsOf xs with
    | some kvs => some (.dct (merge [] kvs)) | none => none
  | _ => none
def fOrd : D → Option D
  | .str x => if x.length = 1 then some (.int (x.cps.getD 0 0 : Nat)) else none
  | _ => none
def mGet1 : D → D → Option D
  | .dct kvs, k => match keyOf k with
    | some k => some ((lk kvs k).getD .non)
    | none => none
  | _, _ => none
def mGet2 : D → D → D → Option D
  | .dct kvs, k, x => match keyOf k with
    | some k => some ((lk kvs k).getD x)
    | none => none
  | _, _, _ => none
def mJoin : D → D → Option D
  | .str a, .lst xs => match strsOf xs with
    | some ys => if (ys.map (·.length)).sum + ys.length * a.length ≤ SL then some (.str (PySem.Txt.join a ys)) else none
    | none => none
  | _, _ => none
def mStarts : D → D → Option D
  | .str a, .str b => some (.bl (PySem.Txt.startswith a b))
  | _, _ => none
/-! ### order, sorting -/
def ltA : D → D → Option Bool
  | .int i, .int j => some (decide (i < j))
  | .str a, .str b => some (decide (a.cps.toList < b.cps.toList))
  | _, _ => none
def ltL : List D → List D → Option Bool
  | [], [] => some false
  | [], _ :: _ => some true
  | _ :: _, [] => some false
  | a :: as, b :: bs => if (a.flat && b.flat) = true then (if D.eqv a b = true then ltL as bs else ltA a b) else none
def ltD : D → D → Option Bool
  | .tup xs, .tup ys => ltL xs ys
  | a, b => ltA a b
def insBy (f : D → D → Bool) (a : D) : List D → List D
  | [] => [a]
  | b :: r => if f a b = true then a :: b :: r else b :: insBy f a r
def sortBy (f : D → D → Bool) : List D → List D
  | [] => []
  | a :: r => insBy f a (sortBy f r)
def ltB (a b : D) : Bool := ltD a b == some true
/-- a < b and not b < a -/
def ltS (a b : D) : Bool := ltD a b == some true && ltD b a == some false
def ascB : List D → Bool
  | [] => true
  | a :: r => r.all (ltS a) && ascB r
def fSortL (xs : List D) : Option D := if ascB (sortBy ltB xs) = true then some (.lst (sortBy ltB xs)) else none
def pairD (kv : Key × D) : D := .tup [ofKey kv.1, kv.2]
def intKeys : List (Key × D) → Option (List Int)
  | [] => some []
  | (.inl i, _) :: r => (intKeys r).map (i :: ·)
  | _ => none
def insI (i : Int) : List Int → List Int
  | [] => [i]
  | j :: r => if i ≤ j then i :: j :: r else j :: insI i r
def sortI : List Int → List Int
  | [] => []
  | i :: r => insI i (sortI r)
/-- sorted(d), int keys -/
def fSorted : D → Option D
  | .dct kvs => match intKeys kvs with
    | some ks => if ks.length < 64 then some (.lst ((sortI ks).map .int)) else none
    | none => none
  | _ => none
/-- pairs by their keys -/
def insP {α : Type} (p : Int × α) : List (Int × α) → List (Int × α)
  | [] => [p]
  | q :: r => if p.1 ≤ q.1 then p :: q :: r else q :: insP p r
def sortP {α : Type} : List (Int × α) → List (Int × α)
  | [] => []
  | p :: r => insP p (sortP r)
def intPairs : List (Key × D) → Option (List (Int × D))
  | [] => some []
  | (.inl i, d) :: r => if d.flat = true then (intPairs r).map ((i, d) :: ·) else none
  | _ => none
/-- sorted(d.items()), int keys, flat values -/
def fSortedIt : D → Option D
  | .dct kvs => match intPairs kvs with
    | some ps => if ps.length < 64 then some (.lst ((sortP ps).map fun p => .tup [.int p.1, p.2])) else none
    | none => none
  | _ => none
/-! ### combinators: expressions -/
def dV (i : Nat) : DE := fun s => match s[i]? with
  | some (some d) => .ok d
  | _ => .stuck
def dC (d : D) : DE := fun _ => .ok d
def ofO {α : Type} : Option α → Res α
  | some a => .ok a
  | none => .stuck
def d1 (f : D → Option D) (a : DE) : DE := fun s => (a s).bind fun x => ofO (f x)
def d2 (f : D → D → Option D) (a b : DE) : DE := fun s => (a s).bind fun x => (b s).bind fun y => ofO (f x y)
def d3 (f : D → D → D → Option D) (a b c : DE) : DE := fun s => (a s).bind fun x => (b s).bind fun y => (c s).bind fun z => ofO (f x y z)
/-- a.get(b); a.get(b, c) -/
def dGet1 (a b : DE) : DE := fun s => (a s).bind fun x => if x.isDct = true then (b s).bind fun y => ofO (mGet1 x y) else .stuck
def dGet2 (a b c : DE) : DE := fun s => (a s).bind fun x => if x.isDct = true then (b s).bind fun y => (c s).bind fun z => ofO (mGet2 x y z) else .stuck
/-- a text's method -/
def D.isStr : D → Bool
  | .str _ => true | _ => false
def dSm (f : D → D → Option D) (a b : DE) : DE := fun s => (a s).bind fun x => if x.isStr = true then (b s).bind fun y => ofO (f x y) else .stuck
def daN : DA := fun _ => .ok []
def daC (a : DE) (r : DA) : DA := fun s => (a s).bind fun x => (r s).bind fun xs => .ok (x :: xs)
def dTup (a : DA) : DE := fun s => (a s).bind fun xs => if xs.length ≤ SL then .ok (.tup xs) else .stuck
def dLst (a : DA) : DE := fun s => (a s).bind fun xs => if xs.length ≤ SL then .ok (.lst xs) else .stuck
/-- a call of a def: f what it does -/
def dCall (f : List D → Res D) (a : DA) : DE := fun s => (a s).bind f
/-- .. whose answer is no object: the arguments are lent -/
def dCallF (f : List D → Res D) (a : DA) : DE := fun s => (a s).bind fun xs => (f xs).bind fun d => if d.flat = true then .ok d else .stuck
def boolR : D → Res Bool
  | .bl b => .ok b
  | _ => .stuck
/-- a value as a test: a bool; by its truth -/
def dB (a : DE) : DT := fun s => (a s).bind boolR
def dTr (a : DE) : DT := fun s => (a s).bind fun x => ofO (truth x)
def dtAnd (a b : DT) : DT := fun s => (a s).bind fun x => if x = true then b s else .ok false
def dtOr (a b : DT) : DT := fun s => (a s).bind fun x => if x = true then .ok true else b s
def dtNot (a : DT) : DT := fun s => (a s).bind fun x => .ok (!x)
/-- and, or of bools as values; not -/
def dAnd (a b : DE) : DE := fun s => (a s).bind fun x => match x with
  | .bl true => b s
  | .bl false => .ok (.bl false)
  | _ => .stuck
def dOr (a b : DE) : DE := fun s => (a s).bind fun x => match x with
  | .bl true => .ok (.bl true)
  | .bl false => b s
  | _ => .stuck
def dNot (a : DE) : DE := fun s => (a s).bind fun x => match x with
  | .bl b => .ok (.bl (!b))
  | _ => .stuck
def dIfE (c : DT) (a b : DE) : DE := fun s => (c s).bind fun x => if x = true then a s else b s
/-- a op b op' c, b asked once -/
def dChain (f g : D → D → Option D) (a b c : DE) : DE := fun s => (a s).bind fun x => (b s).bind fun y => (ofO (f x y)).bind fun r => match r with
  | .bl true => (c s).bind fun z => ofO (g y z)
  | .bl false => .ok (.bl false)
  | _ => .stuck
/-- slices' ends -/
abbrev DO := DSt → Res (Option Int)
def doN : DO := fun _ => .ok none
def doS (a : DE) : DO := fun s => (a s).bind fun x => match x with
  | .int i => .ok (some i)
  | _ => .stuck
def dSl (a : DE) (lo hi : DO) : DE := fun s => (a s).bind fun x => (lo s).bind fun l => (hi s).bind fun h => ofO (opSl l h x)
def dDict (kvs : List (DE × DE)) : DSt → Res (List (Key × D)) := match kvs with
  | [] => fun _ => .ok []
  | (k, v) :: r => fun s => (k s).bind fun k => (v s).bind fun v => (dDict r s).bind fun r => match keyOf k with
    | some k => .ok ((k, v) :: r)
    | none => .stuck
def dDct (kvs : List (DE × DE)) : DE := fun s => (dDict kvs s).bind fun r => if r.length ≤ 15 then .ok (.dct (merge [] r)) else .stuck
/-! ### what is walked -/
abbrev DI := DSt → Res (List D)
def diL (a : DE) : DI := fun s => (a s).bind fun x => match x with
  | .lst xs => .ok xs
  | .tup xs => .ok xs
  | _ => .stuck
def diTup (a : DE) : DI := fun s => (a s).bind fun x => match x with
  | .tup xs => .ok xs
  | _ => .stuck
def diStr (a : DE) : DI := fun s => (a s).bind fun x => match x with
  | .str z => .ok (z.cps.toList.map fun c => .str ⟨#[c]⟩)
  | _ => .stuck
def diKeys (a : DE) : DI := fun s => (a s).bind fun x => match x with
  | .dct kvs => .ok (kvs.map fun kv => ofKey kv.1)
  | _ => .stuck
def diVals (a : DE) : DI := fun s => (a s).bind fun x => match x with
  | .dct kvs => .ok (kvs.map fun kv => kv.2)
  | _ => .stuck
def diItems (a : DE) : DI := fun s => (a s).bind fun x => match x with
  | .dct kvs => .ok (kvs.map pairD)
  | _ => .stuck
def rg (lo : Int) (n : Nat) (c : Int) : List D := (List.range n).map fun (i : Nat) => .int (lo + (i : Int) * c)
def smallB (i : Int) : Bool := decide (-(2 ^ 62) ≤ i) && decide (i < 2 ^ 62)
def diR1 (a : DE) : DI := fun s => (a s).bind fun x => match x with
  | .int j => if smallB j = true then .ok (rg 0 j.toNat 1) else .stuck
  | _ => .stuck
def diR2 (a b : DE) : DI := fun s => (a s).bind fun x => (b s).bind fun y => match x, y with
  | .int i, .int j => if (smallB i && smallB j) = true then .ok (rg i (j - i).toNat 1) else .stuck
  | _, _ => .stuck
/-- range(i, j, k) -/
def diR3 (a b c : DE) : DI := fun s => (daC a (daC b (daC c daN)) s).bind fun xs => match xs with
  | [.int i, .int j, .int k] => if (k ≠ 0 ∧ k.natAbs < 1073741824 ∧ PySem.Builtin.Range.small i j k = true ∧ 0 ≤ PySem.Builtin.Range.rangeSize i j k) then .ok (rg i (PySem.Builtin.Range.rangeSize i j k).toNat k) else .stuck
  | _ => .stuck
def enumD (n : Nat) : List D → List D
  | [] => []
  | d :: r => .tup [.int n, d] :: enumD (n + 1) r
/-- enumerate -/
def diEn (a : DI) : DI := fun s => (a s).bind fun xs => .ok (enumD 0 xs)
def diZip (a b : DI) : DI := fun s => (a s).bind fun xs => (b s).bind fun ys => .ok ((xs.zip ys).map fun p => .tup [p.1, p.2])
/-! ### targets -/
abbrev DG := D → DSt → Res DSt
def gN (i : Nat) : DG := fun d s => .ok (s.set i (some d))
def setAll : List Nat → List D → DSt → Res DSt
  | [], [], s => .ok s
  | i :: is, d :: ds, s => setAll is ds (s.set i (some d))
  | _, _, _ => .stuck
def gT (is : List Nat) : DG := fun d s => match d with
  | .tup ds => setAll is ds s
  | _ => .stuck
/-! ### comprehensions -/
/-- nothing is raised within -/
def nE {α : Type} : Res α → Res α
  | .err _ => .stuck
  | x => x
def dwipe (s : DSt) : List Nat → DSt
  | [] => s
  | v :: vs => (dwipe s vs).set v none
def lcL (g : DG) (c : DT) (e : DE) (s : DSt) : List D → Res (List D)
  | [] => .ok []
  | d :: ds => (g d s).bind fun s1 => (c s1).bind fun b => if b = true then (e s1).bind fun x => (lcL g c e s ds).bind fun r => .ok (x :: r) else lcL g c e s ds
def tT : DT := fun _ => .ok true
/-- [e for g in it if c]; vs: the block's own slots -/
def dLc (it : DI) (vs : List Nat) (g : DG) (c : DT) (e : DE) : DE := fun s => (it s).bind fun xs => if xs.length ≤ SL then (nE (lcL g c e (dwipe s vs) xs)).bind fun r => .ok (.lst r) else .stuck
def dcL (g : DG) (c : DT) (k v : DE) (s : DSt) : List D → List (Key × D) → Res (List (Key × D))
  | [], acc => .ok acc
  | d :: ds, acc => (g d s).bind fun s1 => (c s1).bind fun b => if b = true then (k s1).bind fun kd => (v s1).bind fun x => (match keyOf kd with
    | some kk => dcL g c k v s ds (pt acc kk x)
    | none => .stuck) else dcL g c k v s ds acc
def dDc (it : DI) (vs : List Nat) (g : DG) (c : DT) (k v : DE) : DE := fun s => (it s).bind fun xs => if xs.length ≤ SL then (nE (dcL g c k v (dwipe s vs) xs [])).bind fun r => .ok (.dct r) else .stuck
/-! ### combinators: statements -/
def sNx : DS := fun s => .nx s
/-- never come to -/
def sNo : DS := fun _ => .stuck
def sSq (a b : DS) : DS := fun s => match a s with
  | .nx s1 => b s1
  | r => r
def sE (e : DE) : DS := fun s => match e s with
  | .ok _ => .nx s | .err x => .er x s | .stuck => .stuck
/-- a target gets a value -/
def sAs (g : DG) (e : DE) : DS := fun s => match e s with
  | .ok d => (match g d s with
    | .ok s1 => .nx s1
    | _ => .stuck)
  | .err x => .er x s | .stuck => .stuck
/-- a, b = e1, e2 -/
def sPar (is : List Nat) (a : DA) : DS := fun s => match a s with
  | .ok ds => (match setAll is ds s with
    | .ok s1 => .nx s1
    | _ => .stuck)
  | .err x => .er x s | .stuck => .stuck
def sIf (c : DT) (a b : DS) : DS := fun s => match c s with
  | .ok true => a s
  | .ok false => b s
  | .err x => .er x s | .stuck => .stuck
def sRet (e : DE) : DS := fun s => match e s with
  | .ok d => .rt d | .err x => .er x s | .stuck => .stuck
def sBrk : DS := fun s => .bk s
def sCnt : DS := fun s => .ct s
def whileN (c : DT) (b : DS) : Nat → DS
  | 0 => fun _ => .stuck
  | n + 1 => fun s => match c s with
    | .ok true => (match b s with
      | .nx s1 => whileN c b n s1
      | .ct s1 => whileN c b n s1
      | .bk s1 => .nx s1
      | r => r)
    | .ok false => .nx s
    | .err x => .er x s | .stuck => .stuck
abbrev FU : Nat := 1048576
def sWh (c : DT) (b : DS) : DS := whileN c b FU
def forL (g : DG) (b : DS) : List D → DS
  | [] => fun s => .nx s
  | d :: ds => fun s => match g d s with
    | .ok s1 => (match b s1 with
      | .nx s2 => forL g b ds s2
      | .ct s2 => forL g b ds s2
      | .bk s2 => .nx s2
      | r => r)
    | _ => .stuck
def sFor (it : DI) (g : DG) (b : DS) : DS := fun s => match it s with
  | .ok xs => forL g b xs s
  | .err x => .er x s | .stuck => .stuck
/-- one's own list; dict -/
def ownL (s : DSt) (i : Nat) : Option (List D) := match s[i]? with
  | some (some (.lst xs)) => some xs
  | _ => none
def ownD (s : DSt) (i : Nat) : Option (List (Key × D)) := match s[i]? with
  | some (some (.dct kvs)) => some kvs
  | _ => none
/-- x.append(e), x an own list -/
def sApp (i : Nat) (e : DE) : DS := fun s => match ownL s i with
  | some xs => (match e s with
    | .ok d => if xs.length < SL then .nx (s.set i (some (.lst (xs ++ [d])))) else .stuck
    | .err x => .er x s | .stuck => .stuck)
  | none => .stuck
/-- x.extend(list) -/
def sExt (i : Nat) (e : DE) : DS := fun s => match ownL s i with
  | some xs => (match e s with
    | .ok (.lst ds) => if xs.length + ds.length ≤ SL then .nx (s.set i (some (.lst (xs ++ ds)))) else .stuck
    | .ok _ => .stuck
    | .err x => .er x s | .stuck => .stuck)
  | none => .stuck
/-- g = x.pop() -/
def sPop (g : DG) (i : Nat) : DS := fun s => match ownL s i with
  | some xs => (match xs[xs.length - 1]? with
    | some d => (match g d (s.set i (some (.lst xs.dropLast))) with
      | .ok s1 => .nx s1
      | _ => .stuck)
    | none => .stuck)
  | none => .stuck
/-- x[k] = e, x an own dict -/
def sPut (i : Nat) (k e : DE) : DS := fun s => match ownD s i with
  | some kvs => (match e s with
    | .ok d => (match k s with
      | .ok kd => (match keyOf kd with
        | some kk => if kvs.length < SL then .nx (s.set i (some (.dct (pt kvs kk d)))) else .stuck
        | none => .stuck)
      | .err x => .er x s | .stuck => .stuck)
    | .err x => .er x s | .stuck => .stuck)
  | none => .stuck
/-- x.pop(k), x an own dict, k in it -/
def sDel (i : Nat) (k : DE) : DS := fun s => match ownD s i with
  | some kvs => (match k s with
    | .ok kd => (match keyOf kd with
      | some kk => (match lk kvs kk with
        | some _ => .nx (s.set i (some (.dct (dl kvs kk))))
        | none => .stuck)
      | none => .stuck)
    | .err x => .er x s | .stuck => .stuck)
  | none => .stuck
/-- x.update(d) -/
def sUpd (i : Nat) (e : DE) : DS := fun s => match ownD s i with
  | some kvs => (match e s with
    | .ok (.dct more) => if kvs.length + more.length ≤ SL then .nx (s.set i (some (.dct (merge kvs more)))) else .stuck
    | .ok _ => .stuck
    | .err x => .er x s | .stuck => .stuck)
  | none => .stuck
/-- raise C(..) -/
def sRai (c : Str) (fs : List Str) (a : DA) : DS := fun s => match a s with
  | .ok ds => if (ds.length = fs.length ∧ ds.all D.flat = true) then .er ⟨c, fs.zip ds⟩ s else .stuck
  | .err x => .er x s | .stuck => .stuck
/-- x += e, ints; x -= e -/
def sAug (i : Nat) (f : Int → Int → Int) (e : DE) : DS := fun s => match s[i]? with
  | some (some (.int a)) => (match e s with
    | .ok (.int b) => .nx (s.set i (some (.int (f a b))))
    | .ok _ => .stuck
    | .err x => .er x s | .stuck => .stuck)
  | _ => .stuck
/-- try: a except LedgerError as wrong: h; i the name's slot; L the classes that can come -/
def sTry (i : Nat) (L : List Str) (a : DS) (h : Err → DS) : DS := fun s => match a s with
  | .er x s1 => if (L.contains x.cls && x.fs.isEmpty && decide (i < s1.length)) = true then (match h x (s1.set i none) with
    | .nx s2 => .nx (s2.set i none)
    | .rt d => .rt d
    | _ => .stuck) else .stuck
  | r => r
/-- isinstance(wrong, C); wrong.f -/
def xIs (x : Err) (c : Str) : DE := fun _ => .ok (.bl (x.cls == c))
def xFl (x : Err) (f : Str) : DE := fun _ => match x.fs.lookup f with
  | some d => .ok d
  | none => .stuck
/-! ### a def -/
def defM (n k : Nat) (b : DS) : List D → Res D := fun ds => if ds.length = k then (match b (ds.map some ++ List.replicate (n - k) none) with
  | .nx _ => .ok .non
  | .rt d => .ok d
  | .er x _ => .err x
  | _ => .stuck) else .stuck
end DL
/-! DLP: meanings of errors with fields. -/
namespace DL
open PySem (Str)
/-- raise C(e, ..), C with its own __init__ that keeps its arguments -/
def sRaiO (c : Str) (fs : List Str) (a : DA) : DS := fun s => match a s with
  | .ok ds => if (ds.length = fs.length ∧ ds.all D.flat = true) then .er ⟨c, (fs.zip ds).reverse⟩ s else .stuck
  | .err x => .er x s | .stuck => .stuck
/-- wrong.f -/
def xFlF (x : Err) (f : Str) : DE := fun _ => match x.fs.lookup f with
  | some d => if d.flat = true then .ok d else .stuck
  | none => .stuck
def opAddS : D → D → Option D
  | .str a, .str b => if a.length + b.length ≤ SL then some (.str (a ++ b)) else none
  | _, _ => none
/-- try: a except LedgerError as wrong: h; L the classes that can come, with their fields -/
def sTryF (i : Nat) (L : List (Str × List Str)) (a : DS) (h : Err → DS) : DS := fun s => match a s with
  | .er x s1 => if (L.any (fun p => p.1 == x.cls && x.fs.map (·.1) == p.2) && decide (i < s1.length)) = true then (match h x (s1.set i none) with
    | .nx s2 => .nx (s2.set i none)
    | .rt d => .rt d
    | _ => .stuck) else .stuck
  | r => r
end DL
/-! DL1: how plain data lies in the abstract heap; the readings that speak of plain data alone. -/
namespace DL
open PySem PySem.Spec PyProof.Rows L2
/-- a dict that is locked is seen as it is -/
def vw : Option HO → Option HO
  | some (.frz _ (.dK k)) => some (.dK k)
  | x => x
theorem vw_lst {o : Option HO} {xs : List V} (h : vw o = some (.lst xs)) : o = some (.lst xs) := by
  unfold vw at h
  split at h
  · cases h
  · exact h
theorem vw_tup {o : Option HO} {xs : List V} (h : vw o = some (.tup xs)) : o = some (.tup xs) := by
  unfold vw at h
  split at h
  · cases h
  · exact h
theorem vw_none {o : Option HO} (h : o ≠ none) : vw o ≠ none := by
  unfold vw
  split
  · simp
  · exact h
theorem vw_frl {o : Option HO} {ob : Obj} {xs : List V} (h : vw o = some (.frz ob (.lst xs))) : o = some (.frz ob (.lst xs)) := by
  unfold vw at h
  split at h
  · cases h
  · exact h
/-- all that M tells, M' tells -/
def Sub (M M' : Hp) : Prop := ∀ a u, vw (M a) = some u → vw (M' a) = some u
theorem Sub.refl (M : Hp) : Sub M M := fun _ _ h => h
theorem Sub.trans {A B C : Hp} (x : Sub A B) (y : Sub B C) : Sub A C := fun a u h => y a u (x a u h)
theorem Sub.of {M M' : Hp} (s : Same M M') : Sub M M' := fun a u h => by
  cases e : M a with
  | none =>
    rw [e] at h
    cases h
  | some o =>
    rw [s a o e]
    rw [e] at h
    exact h
/-- a tuple of the module's written part -/
def KTup (K : PySem.W.Frag) (a : Addr) (xs : List V) : Prop :=
  ∃ (o : Obj) (its : Array Value) (n : Nat), K.lookup a = some o ∧ o.cls = .type "tuple" ∧ o.data = .seq its n ∧ its.size ≤ sizeLine ∧ Vals xs its.toList
def TAt (K : PySem.W.Frag) (M : Hp) (a : Addr) (xs : List V) : Prop := M a = some (.tup xs) ∨ KTup K a xs
theorem TAt.sq {K : PySem.W.Frag} {M : Hp} {a : Addr} {xs : List V} (h : TAt K M a xs) : SqT K M a xs := by
  rcases h with h | h
  · exact .inl (.inl h)
  · exact .inr h
mutual
/-- the value v is the datum d -/
def Rep (K : PySem.W.Frag) (M : Hp) : D → V → Prop
  | .non, v => v = .non
  | .bl b, v => v = .bl b
  | .int i, v => v = .int i
  | .str x, v => v = .str x
  | .tup ds, v => ∃ a xs, v = .ref a ∧ TAt K M a xs ∧ Reps K M ds xs
  | .lst ds, v => ∃ a xs, v = .ref a ∧ M a = some (.lst xs) ∧ Reps K M ds xs
  | .dct kvs, v => ∃ a ks, v = .ref a ∧ vw (M a) = some (.dK ks) ∧ RepK K M kvs ks
  | .scr ns, v => ∃ a, v = .ref a ∧ SqL K M a (ns.map V.int)
def Reps (K : PySem.W.Frag) (M : Hp) : List D → List V → Prop
  | [], xs => xs = []
  | d :: ds, xs => ∃ x r, xs = x :: r ∧ Rep K M d x ∧ Reps K M ds r
def RepK (K : PySem.W.Frag) (M : Hp) : List (Key × D) → List (Key × V) → Prop
  | [], xs => xs = []
  | (k, d) :: ds, xs => ∃ x r, xs = (k, x) :: r ∧ Rep K M d x ∧ RepK K M ds r
end
section
variable {K : PySem.W.Frag} {M M' : Hp}
theorem SqL.sub {a : Addr} {xs : List V} (s : Sub M M') (h : SqL K M a xs) : SqL K M' a xs := by
  rcases h with (h | ⟨o, h⟩) | h
  · exact .inl (.inl (vw_lst (s a _ (by rw [h]; rfl))))
  · exact .inl (.inr ⟨o, vw_frl (s a _ (by rw [h]; rfl))⟩)
  · exact .inr h
theorem TAt.sub {a : Addr} {xs : List V} (s : Sub M M') (h : TAt K M a xs) : TAt K M' a xs := by
  rcases h with h | h
  · exact .inl (vw_tup (s a _ (by rw [h]; rfl)))
  · exact .inr h
mutual
theorem Rep.sub (s : Sub M M') : ∀ (d : D) (v : V), Rep K M d v → Rep K M' d v
  | .non, _, h => by simp only [Rep] at h ⊢; exact h
  | .bl _, _, h => by simp only [Rep] at h ⊢; exact h
  | .int _, _, h => by simp only [Rep] at h ⊢; exact h
  | .str _, _, h => by simp only [Rep] at h ⊢; exact h
  | .tup ds, v, h => by
    simp only [Rep] at h ⊢
    obtain ⟨a, xs, e, t, r⟩ := h
    exact ⟨a, xs, e, t.sub s, Reps.sub s ds xs r⟩
  | .lst ds, v, h => by
    simp only [Rep] at h ⊢
    obtain ⟨a, xs, e, t, r⟩ := h
    exact ⟨a, xs, e, vw_lst (s a _ (by rw [t]; rfl)), Reps.sub s ds xs r⟩
  | .dct kvs, v, h => by
    simp only [Rep] at h ⊢
    obtain ⟨a, xs, e, t, r⟩ := h
    exact ⟨a, xs, e, s a _ t, RepK.sub s kvs xs r⟩
  | .scr ns, v, h => by
    simp only [Rep] at h ⊢
    obtain ⟨a, e, t⟩ := h
    exact ⟨a, e, SqL.sub s t⟩
theorem Reps.sub (s : Sub M M') : ∀ (ds : List D) (xs : List V), Reps K M ds xs → Reps K M' ds xs
  | [], _, h => by simp only [Reps] at h ⊢; exact h
  | d :: ds, _, h => by
    simp only [Reps] at h ⊢
    obtain ⟨x, r, e, h1, h2⟩ := h
    exact ⟨x, r, e, Rep.sub s d x h1, Reps.sub s ds r h2⟩
theorem RepK.sub (s : Sub M M') : ∀ (ds : List (Key × D)) (xs : List (Key × V)), RepK K M ds xs → RepK K M' ds xs
  | [], _, h => by simp only [RepK] at h ⊢; exact h
  | (k, d) :: ds, _, h => by
    simp only [RepK] at h ⊢
    obtain ⟨x, r, e, h1, h2⟩ := h
    exact ⟨x, r, e, Rep.sub s d x h1, RepK.sub s ds r h2⟩
end
theorem Reps.length : ∀ {ds : List D} {xs : List V}, Reps K M ds xs → xs.length = ds.length
  | [], _, h => by simp only [Reps] at h; rw [h]; rfl
  | _ :: _, _, h => by
    simp only [Reps] at h
    obtain ⟨x, r, e, _, h2⟩ := h
    rw [e, List.length_cons, List.length_cons, Reps.length h2]
theorem Reps.get : ∀ {ds : List D} {xs : List V} {i : Nat} {d : D}, Reps K M ds xs → ds[i]? = some d → ∃ x, xs[i]? = some x ∧ Rep K M d x
  | [], _, _, _, _, h => by simp at h
  | e :: ds, _, 0, d, h, g => by
    simp only [Reps] at h
    obtain ⟨x, r, rfl, h1, _⟩ := h
    have : e = d := by simpa using g
    subst this
    exact ⟨x, rfl, h1⟩
  | _ :: ds, _, i + 1, d, h, g => by
    simp only [Reps] at h
    obtain ⟨x, r, rfl, _, h2⟩ := h
    exact Reps.get (i := i) h2 (by simpa using g)
theorem Reps.get' : ∀ {ds : List D} {xs : List V} {i : Nat} {x : V}, Reps K M ds xs → xs[i]? = some x → ∃ d, ds[i]? = some d ∧ Rep K M d x
  | [], _, _, _, h, g => by simp only [Reps] at h; subst h; simp at g
  | e :: ds, _, 0, y, h, g => by
    simp only [Reps] at h
    obtain ⟨x, r, rfl, h1, _⟩ := h
    have : x = y := by simpa using g
    subst this
    exact ⟨e, rfl, h1⟩
  | _ :: ds, _, i + 1, d, h, g => by
    simp only [Reps] at h
    obtain ⟨x, r, rfl, _, h2⟩ := h
    exact Reps.get' (i := i) h2 (by simpa using g)
theorem Reps.append : ∀ {ds es : List D} {xs ys : List V}, Reps K M ds xs → Reps K M es ys → Reps K M (ds ++ es) (xs ++ ys)
  | [], _, _, _, h, g => by simp only [Reps] at h; subst h; exact g
  | d :: ds, es, _, ys, h, g => by
    simp only [Reps] at h
    obtain ⟨x, r, rfl, h1, h2⟩ := h
    show Reps K M (d :: (ds ++ es)) (x :: (r ++ ys))
    simp only [Reps]
    exact ⟨x, _, rfl, h1, Reps.append h2 g⟩
theorem Reps.one {d : D} {x : V} (h : Rep K M d x) : Reps K M [d] [x] := by
  simp only [Reps]
  exact ⟨x, [], rfl, h, rfl⟩
theorem Reps.nil : Reps K M [] [] := by simp only [Reps]
theorem Reps.cons {d : D} {x : V} {ds : List D} {xs : List V} (h : Rep K M d x) (g : Reps K M ds xs) : Reps K M (d :: ds) (x :: xs) := by
  simp only [Reps]
  exact ⟨x, xs, rfl, h, g⟩
theorem Reps.take : ∀ {ds : List D} {xs : List V} (n : Nat), Reps K M ds xs → Reps K M (ds.take n) (xs.take n)
  | _, _, 0, _ => by simp only [List.take_zero]; exact Reps.nil
  | [], _, _ + 1, h => by simp only [Reps] at h; subst h; simp only [List.take_nil]; exact Reps.nil
  | d :: ds, _, n + 1, h => by
    simp only [Reps] at h
    obtain ⟨x, r, rfl, h1, h2⟩ := h
    simp only [List.take_succ_cons]
    exact Reps.cons h1 (Reps.take n h2)
theorem Reps.drop : ∀ {ds : List D} {xs : List V} (n : Nat), Reps K M ds xs → Reps K M (ds.drop n) (xs.drop n)
  | _, _, 0, h => h
  | [], _, _ + 1, h => by simp only [Reps] at h; subst h; simp only [List.drop_nil]; exact Reps.nil
  | d :: ds, _, n + 1, h => by
    simp only [Reps] at h
    obtain ⟨x, r, rfl, h1, h2⟩ := h
    simp only [List.drop_succ_cons]
    exact Reps.drop n h2
theorem Reps.reverse : ∀ {ds : List D} {xs : List V}, Reps K M ds xs → Reps K M ds.reverse xs.reverse
  | [], _, h => by simp only [Reps] at h; subst h; exact Reps.nil
  | d :: ds, _, h => by
    simp only [Reps] at h
    obtain ⟨x, r, rfl, h1, h2⟩ := h
    rw [List.reverse_cons, List.reverse_cons]
    exact (Reps.reverse h2).append (Reps.one h1)
theorem Reps.cutV {ds : List D} {xs : List V} (h : Reps K M ds xs) (lo hi : Option Int) : Reps K M (cut ds lo hi) (L2.cutV xs lo hi) := by
  unfold cut L2.cutV
  rw [h.length]
  exact (h.drop _).take _
theorem RepK.length : ∀ {ds : List (Key × D)} {xs : List (Key × V)}, RepK K M ds xs → xs.length = ds.length
  | [], _, h => by simp only [RepK] at h; rw [h]; rfl
  | (_, _) :: _, _, h => by
    simp only [RepK] at h
    obtain ⟨x, r, e, _, h2⟩ := h
    rw [e, List.length_cons, List.length_cons, RepK.length h2]
theorem RepK.keys : ∀ {ds : List (Key × D)} {xs : List (Key × V)}, RepK K M ds xs → xs.map (·.1) = ds.map (·.1)
  | [], _, h => by simp only [RepK] at h; rw [h]; rfl
  | (_, _) :: _, _, h => by
    simp only [RepK] at h
    obtain ⟨x, r, e, _, h2⟩ := h
    rw [e, List.map_cons, List.map_cons, RepK.keys h2]
theorem RepK.get : ∀ {ds : List (Key × D)} {xs : List (Key × V)} {i : Nat} {k : Key} {d : D}, RepK K M ds xs → ds[i]? = some (k, d) → ∃ x, xs[i]? = some (k, x) ∧ Rep K M d x
  | [], _, _, _, _, _, h => by simp at h
  | (k, e) :: ds, _, 0, k', d, h, g => by
    simp only [RepK] at h
    obtain ⟨x, r, rfl, h1, _⟩ := h
    have : (k, e) = (k', d) := by simpa using g
    cases this
    exact ⟨x, rfl, h1⟩
  | (_, _) :: ds, _, i + 1, k', d, h, g => by
    simp only [RepK] at h
    obtain ⟨x, r, rfl, _, h2⟩ := h
    exact RepK.get (i := i) h2 (by simpa using g)
theorem RepK.get' : ∀ {ds : List (Key × D)} {xs : List (Key × V)} {i : Nat} {k : Key} {x : V}, RepK K M ds xs → xs[i]? = some (k, x) → ∃ d, ds[i]? = some (k, d) ∧ Rep K M d x
  | [], _, _, _, _, h, g => by simp only [RepK] at h; subst h; simp at g
  | (k, e) :: ds, _, 0, k', y, h, g => by
    simp only [RepK] at h
    obtain ⟨x, r, rfl, h1, _⟩ := h
    have : (k, x) = (k', y) := by simpa using g
    cases this
    exact ⟨e, rfl, h1⟩
  | (_, _) :: ds, _, i + 1, k', d, h, g => by
    simp only [RepK] at h
    obtain ⟨x, r, rfl, _, h2⟩ := h
    exact RepK.get' (i := i) h2 (by simpa using g)
/-- what is looked up -/
theorem RepK.val (k : Key) : ∀ {ds : List (Key × D)} {xs : List (Key × V)}, RepK K M ds xs → match lk ds k with
    | some d => ∃ x, valV xs k = some x ∧ Rep K M d x
    | none => valV xs k = none
  | [], _, h => by simp only [RepK] at h; subst h; rfl
  | (k', e) :: ds, _, h => by
    simp only [RepK] at h
    obtain ⟨x, r, rfl, h1, h2⟩ := h
    by_cases q : k' = k
    · have e1 : lk ((k', e) :: ds) k = some e := by simp [lk, List.find?_cons, q]
      rw [e1]
      exact ⟨x, valV_pos (p := (k', x)) q, h1⟩
    · have e1 : lk ((k', e) :: ds) k = lk ds k := by simp [lk, List.find?_cons, q]
      rw [e1, valV_neg (p := (k', x)) q]
      exact RepK.val k h2
theorem RepK.cons {k : Key} {d : D} {x : V} {ds : List (Key × D)} {xs : List (Key × V)} (h : Rep K M d x) (g : RepK K M ds xs) : RepK K M ((k, d) :: ds) ((k, x) :: xs) := by
  simp only [RepK]
  exact ⟨x, xs, rfl, h, g⟩
theorem RepK.nil : RepK K M [] [] := by simp only [RepK]
theorem RepK.any (k : Key) : ∀ {ds : List (Key × D)} {xs : List (Key × V)}, RepK K M ds xs → (xs.any fun kv => decide (kv.1 = k)) = ds.any fun kv => decide (kv.1 = k)
  | [], _, h => by simp only [RepK] at h; subst h; rfl
  | (k', e) :: ds, _, h => by
    simp only [RepK] at h
    obtain ⟨x, r, rfl, h1, h2⟩ := h
    simp only [List.any_cons, RepK.any k h2]
theorem RepK.repl (k : Key) {d : D} {x : V} (hx : Rep K M d x) : ∀ {ds : List (Key × D)} {xs : List (Key × V)}, RepK K M ds xs →
    RepK K M (ds.map fun kv => if kv.1 = k then (kv.1, d) else kv) (xs.map fun kv => if kv.1 = k then (kv.1, x) else kv)
  | [], _, h => by simp only [RepK] at h; subst h; exact RepK.nil
  | (k', e) :: ds, _, h => by
    simp only [RepK] at h
    obtain ⟨y, r, rfl, h1, h2⟩ := h
    have ih := RepK.repl k hx h2
    by_cases q : k' = k
    · simp only [List.map_cons, if_pos q]
      exact RepK.cons hx ih
    · simp only [List.map_cons, if_neg q]
      exact RepK.cons h1 ih
theorem RepK.append : ∀ {ds es : List (Key × D)} {xs ys : List (Key × V)}, RepK K M ds xs → RepK K M es ys → RepK K M (ds ++ es) (xs ++ ys)
  | [], _, _, _, h, g => by simp only [RepK] at h; subst h; exact g
  | (k, d) :: ds, es, _, ys, h, g => by
    simp only [RepK] at h
    obtain ⟨x, r, rfl, h1, h2⟩ := h
    exact RepK.cons h1 (RepK.append h2 g)
theorem RepK.put (k : Key) {d : D} {x : V} {ds : List (Key × D)} {xs : List (Key × V)} (hx : Rep K M d x) (h : RepK K M ds xs) : RepK K M (pt ds k d) (putK xs k x) := by
  unfold pt putK
  rw [h.any k]
  split
  · exact h.repl k hx
  · exact h.append (RepK.cons hx RepK.nil)
theorem RepK.drop (k : Key) : ∀ {ds : List (Key × D)} {xs : List (Key × V)}, RepK K M ds xs → RepK K M (dl ds k) (dropK xs k)
  | [], _, h => by simp only [RepK] at h; subst h; exact RepK.nil
  | (k', e) :: ds, _, h => by
    simp only [RepK] at h
    obtain ⟨y, r, rfl, h1, h2⟩ := h
    have ih := RepK.drop k h2
    unfold dl dropK at ih ⊢
    by_cases q : k' = k
    · simp only [List.filter_cons, q, ne_eq, not_true_eq_false, decide_false, Bool.false_eq_true, if_false]
      simpa using ih
    · simp only [List.filter_cons, ne_eq, q, not_false_eq_true, decide_true, if_true]
      refine RepK.cons h1 ?_
      simpa using ih
theorem RepK.merge : ∀ {more ds : List (Key × D)} {ms xs : List (Key × V)}, RepK K M more ms → RepK K M ds xs → RepK K M (DL.merge ds more) (mergeK xs ms)
  | [], _, _, _, h, g => by simp only [RepK] at h; subst h; exact g
  | (k, d) :: more, ds, _, xs, h, g => by
    simp only [RepK] at h
    obtain ⟨x, r, rfl, h1, h2⟩ := h
    show RepK K M (DL.merge (pt ds k d) more) (mergeK (putK xs k x) r)
    exact RepK.merge h2 (g.put k h1)
end
/-! ### what the slots hold -/
open Classical in
/-- the heap without what av says and without what is one's own -/
noncomputable def clean (av : Addr → Prop) (own : Nat → Option Addr) (H : Hp) : Hp := fun a => if av a ∨ (∃ i, own i = some a) then none else H a
theorem clean_some {av : Addr → Prop} {own : Nat → Option Addr} {H : Hp} {a : Addr} (h1 : ¬ av a) (h2 : ∀ i, own i ≠ some a) : clean av own H a = H a := by
  unfold clean
  rw [if_neg]
  rintro (z | ⟨i, z⟩)
  · exact h1 z
  · exact h2 i z
theorem clean_get {av : Addr → Prop} {own : Nat → Option Addr} {H : Hp} {a : Addr} {u : HO} (h : vw (clean av own H a) = some u) : ¬ av a ∧ (∀ i, own i ≠ some a) ∧ vw (H a) = some u := by
  unfold clean at h
  split at h
  · cases h
  · rename_i q
    exact ⟨fun z => q (.inl z), fun i z => q (.inr ⟨i, z⟩), h⟩
/-- nothing is one's own -/
abbrev noOwn : Nat → Option Addr := fun _ => none
/-- the object at p, one's own, is the datum d -/
def OwnAt (K : PySem.W.Frag) (M H : Hp) (p : Addr) (d : D) : Prop := match d with
  | .lst ds => ∃ xs, H p = some (.lst xs) ∧ Reps K M ds xs
  | .dct kvs => ∃ ks, H p = some (.dK ks) ∧ RepK K M kvs ks
  | _ => False
structure Rel (K : PySem.W.Frag) (O : List Nat) (av : Addr → Prop) (H₀ : Hp) (own : Nat → Option Addr) (ds : DSt) (σ : L2.St) (H : Hp) : Prop where
  len : σ.length = ds.length
  base : Same H₀ H
  av0 : ∀ a, av a → H a ≠ none
  avo : ∀ i p, own i = some p → ¬ av p
  dom : ∀ i p, own i = some p → i ∈ O
  fresh : ∀ i p, own i = some p → H₀ p = none
  live : ∀ i p, own i = some p → H p ≠ none
  inj : ∀ i j p, own i = some p → own j = some p → i = j
  val : ∀ i d, i ∉ O → ds[i]? = some (some d) → ∃ v, σ[i]? = some (some v) ∧ Rep K (clean av own H) d v
  ownv : ∀ i d, i ∈ O → ds[i]? = some (some d) → ∃ p, own i = some p ∧ σ[i]? = some (some (.ref p)) ∧ OwnAt K (clean av own H) H p d
/-- 0: whatever does not touch the caller's own; 1: a container, perhaps one's own; 2: nothing of one's own in it -/
def RepLv (K : PySem.W.Frag) (av : Addr → Prop) (own : Nat → Option Addr) (H : Hp) : Nat → D → V → Prop
  | 0, d, v => Rep K (clean av noOwn H) d v
  | 1, d, v => Rep K (clean av own H) d v ∨ ∃ i p, own i = some p ∧ v = .ref p ∧ OwnAt K (clean av own H) H p d
  | _, d, v => Rep K (clean av own H) d v
section
variable {K : PySem.W.Frag} {O : List Nat} {av : Addr → Prop} {H₀ H H' : Hp} {own own' : Nat → Option Addr} {ds : DSt} {σ : L2.St}
theorem clean_sub (s : Sub H H') : Sub (clean av own H) (clean av own H') := fun a u h => by
  obtain ⟨h1, h2, h3⟩ := clean_get h
  rw [clean_some h1 h2]
  exact s a u h3
theorem clean_le : Sub (clean av own H) H := fun a u h => (clean_get h).2.2
theorem clean_noOwn : Sub (clean av own H) (clean av noOwn H) := fun a u h => by
  obtain ⟨h1, _, h3⟩ := clean_get h
  rw [clean_some (own := noOwn) h1 (fun _ z => by cases z)]
  exact h3
theorem OwnAt.sub {M M' : Hp} {p : Addr} {d : D} (s : Sub M M') (e : ∀ o, H p = some o → H' p = some o) (h : OwnAt K M H p d) : OwnAt K M' H' p d := by
  cases d <;> simp only [OwnAt] at h ⊢
  · obtain ⟨xs, h1, h2⟩ := h
    exact ⟨xs, e _ h1, Reps.sub s _ _ h2⟩
  · obtain ⟨xs, h1, h2⟩ := h
    exact ⟨xs, e _ h1, RepK.sub s _ _ h2⟩
theorem same_ne (s : Same H H') {a : Addr} (h : H a ≠ none) : H' a ≠ none := fun z => by
  cases q : H a with
  | none => exact h q
  | some o =>
    rw [s a o q] at z
    cases z
/-- behind an expression -/
theorem Rel.same (R : Rel K O av H₀ own ds σ H) (s : Same H H') : Rel K O av H₀ own ds σ H' where
  len := R.len
  base := R.base.trans s
  av0 := fun a z => same_ne s (R.av0 a z)
  avo := R.avo
  dom := R.dom
  fresh := R.fresh
  live := fun i p e z => by
    cases q : H p with
    | none => exact R.live i p e q
    | some o =>
      rw [s p o q] at z
      cases z
  inj := R.inj
  val := fun i d hi e => by
    obtain ⟨v, e1, e2⟩ := R.val i d hi e
    exact ⟨v, e1, e2.sub (clean_sub (Sub.of s)) _ _⟩
  ownv := fun i d hi e => by
    obtain ⟨p, e1, e2, e3⟩ := R.ownv i d hi e
    exact ⟨p, e1, e2, e3.sub (clean_sub (Sub.of s)) (s p)⟩
theorem RepLv.same (s : Same H H') {lv : Nat} {d : D} {v : V} (h : RepLv K av own H lv d v) : RepLv K av own H' lv d v := by
  match lv, h with
  | 0, h => exact Rep.sub (clean_sub (Sub.of s)) d v h
  | 1, h =>
    rcases h with q | ⟨i, p, e, ev, q⟩
    · exact .inl (Rep.sub (clean_sub (Sub.of s)) d v q)
    · exact .inr ⟨i, p, e, ev, q.sub (clean_sub (Sub.of s)) (s p)⟩
  | _ + 2, h => exact Rep.sub (clean_sub (Sub.of s)) d v h
theorem RepLv.up {lv : Nat} {d : D} {v : V} (h : Rep K (clean av own H) d v) : RepLv K av own H lv d v := by
  match lv with
  | 0 => exact Rep.sub clean_noOwn d v h
  | 1 => exact .inl h
  | _ + 2 => exact h
/-- one's own has no part in the caller's -/
theorem Rel.notAv (R : Rel K O av H₀ own ds σ H) {i : Nat} {p : Addr} (e : own i = some p) : ¬ av p := R.avo i p e
theorem OwnAt.rep (R : Rel K O av H₀ own ds σ H) {i : Nat} {p : Addr} {d : D} (e : own i = some p) (h : OwnAt K (clean av own H) H p d) : Rep K (clean av noOwn H) d (.ref p) := by
  have z : clean av noOwn H p = H p := clean_some (R.notAv e) (fun _ q => by cases q)
  cases d <;> simp only [OwnAt] at h <;> simp only [Rep]
  · obtain ⟨xs, h1, h2⟩ := h
    exact ⟨p, xs, rfl, by rw [z]; exact h1, Reps.sub clean_noOwn _ _ h2⟩
  · obtain ⟨xs, h1, h2⟩ := h
    exact ⟨p, xs, rfl, by rw [z, h1]; rfl, RepK.sub clean_noOwn _ _ h2⟩
theorem RepLv.zero (R : Rel K O av H₀ own ds σ H) {lv : Nat} {d : D} {v : V} (h : RepLv K av own H lv d v) : Rep K (clean av noOwn H) d v := by
  match lv, h with
  | 0, h => exact h
  | 1, h =>
    rcases h with q | ⟨i, p, e, ev, q⟩
    · exact Rep.sub clean_noOwn d v q
    · subst ev
      exact OwnAt.rep R e q
  | _ + 2, h => exact Rep.sub clean_noOwn d v h
/-- what is seen through any heap at all -/
theorem RepLv.any {lv : Nat} {d : D} {v : V} (h : RepLv K av own H lv d v) : Rep K H d v := by
  match lv, h with
  | 0, h => exact Rep.sub clean_le d v h
  | 1, h =>
    rcases h with q | ⟨i, p, e, ev, q⟩
    · exact Rep.sub clean_le d v q
    · subst ev
      cases d <;> simp only [OwnAt] at q <;> simp only [Rep]
      · obtain ⟨xs, h1, h2⟩ := q
        exact ⟨p, xs, rfl, h1, Reps.sub clean_le _ _ h2⟩
      · obtain ⟨xs, h1, h2⟩ := q
        exact ⟨p, xs, rfl, by rw [h1]; rfl, RepK.sub clean_le _ _ h2⟩
  | _ + 2, h => exact Rep.sub clean_le d v h
/-- flat data -/
def D.fv : D → V
  | .bl b => .bl b | .int i => .int i | .str x => .str x | _ => .non
theorem Rep.flat {M : Hp} {d : D} {v : V} (h : Rep K M d v) (f : d.flat = true) : v = d.fv := by
  cases d <;> simp only [Rep] at h <;> first | exact h | cases f
theorem Rep.ofFlat {M : Hp} {d : D} (f : d.flat = true) : Rep K M d d.fv := by
  cases d <;> simp only [Rep] <;> first | rfl | cases f
end
/-! ### errors -/
def ErrAt (mg : Str → Option Value) (H : Hp) (c : Value) (dd : Option Addr) (e : Err) : Prop :=
  ∃ C, mg e.cls = some (.ref C) ∧ c = .ref C ∧ ((e.fs = [] ∧ dd = none) ∨ e.fs ≠ [] ∧ ∃ a, dd = some a ∧ H a = some (.xd (e.fs.map fun p => (p.1, p.2.fv))))
/-- what an expression's answer must bring -/
def Fin (K : PySem.W.Frag) (mg : Str → Option Value) (W : WX) (lv : Nat) (av : Addr → Prop) (own : Nat → Option Addr) (σ : L2.St) (H : Hp) (Q : VK) : Res D → Prop
  | .ok d => ∀ v H', Same H H' → RepLv K av own H' lv d v → Q v H'
  | .err e => ∀ c dd H', Same H H' → ErrAt mg H' c dd e → W c dd σ H'
  | .stuck => False
/-- the same of any answer, told by P -/
def FinP {α : Type} (mg : Str → Option Value) (W : WX) (σ : L2.St) (H : Hp) (P : α → Prop) : Res α → Prop
  | .ok a => P a
  | .err e => ∀ c dd H', Same H H' → ErrAt mg H' c dd e → W c dd σ H'
  | .stuck => False
theorem FinP.bind {α β : Type} {mg : Str → Option Value} {W : WX} {σ : L2.St} {H : Hp} {P : β → Prop} {x : Res α} {f : α → Res β} (h : FinP mg W σ H P (x.bind f)) : FinP mg W σ H (fun a => FinP mg W σ H P (f a)) x := by
  cases x <;> exact h
theorem FinP.later {α : Type} {mg : Str → Option Value} {W : WX} {σ : L2.St} {H H' : Hp} {P P' : α → Prop} {x : Res α} (s : Same H H') (h : FinP mg W σ H P x) (hp : ∀ a, P a → P' a) : FinP mg W σ H' P' x := by
  cases x with
  | ok a => exact hp a h
  | err e => exact fun c dd H2 s2 er => h c dd H2 (s.trans s2) er
  | stuck => exact h
theorem FinP.ofO {α : Type} {mg : Str → Option Value} {W : WX} {σ : L2.St} {H : Hp} {P : α → Prop} {x : Option α} (h : FinP mg W σ H P (ofO x)) : ∃ a, x = some a ∧ P a := by
  cases x with
  | none => exact h.elim
  | some a => exact ⟨a, rfl, h⟩
/-- an expression's reading, by plain data -/
def liftE (K : PySem.W.Frag) (mg : Str → Option Value) (O : List Nat) (W : WX) (lv : Nat) (t : DE) : TE := fun σ H Q =>
  ∃ av H₀ own ds, Rel K O av H₀ own ds σ H ∧ FinP mg W σ H (fun d => ∀ v H', Same H H' → RepLv K av own H' lv d v → Q v H') (t ds)
def liftT (K : PySem.W.Frag) (mg : Str → Option Value) (O : List Nat) (W : WX) (t : DT) : TT := fun σ H Q =>
  ∃ av H₀ own ds, Rel K O av H₀ own ds σ H ∧ FinP mg W σ H (fun b => ∀ H', Same H H' → Q b H') (t ds)
def RepLvs (K : PySem.W.Frag) (av : Addr → Prop) (own : Nat → Option Addr) (H : Hp) (lv : Nat) : List D → List V → Prop
  | [], xs => xs = []
  | d :: ds, xs => ∃ x r, xs = x :: r ∧ RepLv K av own H lv d x ∧ RepLvs K av own H lv ds r
def liftA (K : PySem.W.Frag) (mg : Str → Option Value) (O : List Nat) (W : WX) (lv : Nat) (t : DA) : TA := fun σ H Q =>
  ∃ av H₀ own ds, Rel K O av H₀ own ds σ H ∧ FinP mg W σ H (fun d => ∀ v H', Same H H' → RepLvs K av own H' lv d v → Q v H') (t ds)
/-- a statement's -/
def liftS (K : PySem.W.Frag) (mg : Str → Option Value) (O : List Nat) (W : WX) (t : DS) : TS := fun N σ H =>
  ∃ av H₀ own ds, Rel K O av H₀ own ds σ H ∧ match t ds with
    | .nx ds' => ∀ own' σ' H', Rel K O av H₀ own' ds' σ' H' → N.nx σ' H'
    | .rt d => ∀ v H', Same H₀ H' → Rep K (clean av noOwn H') d v → N.rt v H'
    | .bk ds' => ∀ own' σ' H', Rel K O av H₀ own' ds' σ' H' → N.bk σ' H'
    | .ct ds' => ∀ own' σ' H', Rel K O av H₀ own' ds' σ' H' → N.ct σ' H'
    | .er e ds' => ∀ own' c dd σ' H', Rel K O av H₀ own' ds' σ' H' → ErrAt mg H' c dd e → W c dd σ' H'
    | .stuck => False
/-- a def's promise -/
def spD (K : PySem.W.Frag) (mg : Str → Option Value) (f : List D → Res D) : Sp := fun vs H Q E => ∃ ds av, (∀ a, av a → H a ≠ none) ∧ Reps K (clean av noOwn H) ds vs ∧ match f ds with
  | .ok d => ∀ v H', Same H H' → Rep K (clean av noOwn H') d v → Q v H'
  | .err e => ∀ c dd H', Same H H' → ErrAt mg H' c dd e → E c dd H'
  | .stuck => False
/-! ### judgements -/
section
variable (X : Cx) (O : List Nat) (W : WX)
def EX (lv : Nat) (e : Expr) (t : DE) : Prop := PE X e (liftE X.K X.mg O W lv t)
def TX (e : Expr) (t : DT) : Prop := PT X e (liftT X.K X.mg O W t)
def AX (lv : Nat) (es : List Expr) (t : DA) : Prop := PA X es (liftA X.K X.mg O W lv t)
def SX (st : Stmt) (t : DS) : Prop := PS X st (liftS X.K X.mg O W t)
def BX (st : List Stmt) (t : DS) : Prop := PSs X st (liftS X.K X.mg O W t)
end
section
variable {X : Cx}
theorem PE.imp {e : Expr} {t t' : TE} (h : PE X e t) (i : ∀ σ H Q, t' σ H Q → t σ H Q) : PE X e t' := ⟨fun pins s σ H Q I q => h.run pins s σ H Q I (i σ H Q q)⟩
theorem PT.imp {e : Expr} {t t' : TT} (h : PT X e t) (i : ∀ σ H Q, t' σ H Q → t σ H Q) : PT X e t' := ⟨fun pins s σ H Q I q => h.run pins s σ H Q I (i σ H Q q)⟩
theorem PA.imp {e : List Expr} {t t' : TA} (h : PA X e t) (i : ∀ σ H Q, t' σ H Q → t σ H Q) : PA X e t' := ⟨fun pos pins s σ H Q I q => h.run pos pins s σ H Q I (i σ H Q q)⟩
theorem PS.imp {e : Stmt} {t t' : TS} (h : PS X e t) (i : ∀ N σ H, t' N σ H → t N σ H) : PS X e t' := ⟨fun pins s σ H N I q => h.run pins s σ H N I (i N σ H q)⟩
theorem PSs.imp {e : List Stmt} {t t' : TS} (h : PSs X e t) (i : ∀ N σ H, t' N σ H → t N σ H) : PSs X e t' := ⟨fun pins s σ H N I q => h.run pins s σ H N I (i N σ H q)⟩
end
end DL
/-! DL2: the rules of expressions over plain data. -/
namespace DL
open PySem PySem.Spec L2
theorem same_upd {H : Hp} {p : Addr} {o : HO} (h : H p = none) : Same H (upd H p o) := fun b x e => by
  rw [upd_ne (ne_of_none e h)]
  exact e
section
variable {K : PySem.W.Frag} {O : List Nat} {av : Addr → Prop} {H₀ H H' : Hp} {own : Nat → Option Addr} {ds : DSt} {σ : L2.St} {lv : Nat} {v : V}
/-! ### what a datum is in the heap -/
theorem RepLv.non (h : RepLv K av own H lv .non v) : v = .non := by have z := h.any; simpa only [Rep] using z
theorem RepLv.bl {b : Bool} (h : RepLv K av own H lv (.bl b) v) : v = .bl b := by have z := h.any; simpa only [Rep] using z
theorem RepLv.int {i : Int} (h : RepLv K av own H lv (.int i) v) : v = .int i := by have z := h.any; simpa only [Rep] using z
theorem RepLv.str {x : Str} (h : RepLv K av own H lv (.str x) v) : v = .str x := by have z := h.any; simpa only [Rep] using z
theorem RepLv.tup0 {xs : List D} (h : RepLv K av own H lv (.tup xs) v) : ∃ a us, v = .ref a ∧ TAt K H a us ∧ Reps K H xs us := by
  have z := h.any
  simpa only [Rep] using z
theorem RepLv.lst0 {xs : List D} (h : RepLv K av own H lv (.lst xs) v) : ∃ a us, v = .ref a ∧ H a = some (.lst us) ∧ Reps K H xs us := by
  have z := h.any
  simpa only [Rep] using z
theorem RepLv.dct0 {xs : List (Key × D)} (h : RepLv K av own H lv (.dct xs) v) : ∃ a us, v = .ref a ∧ vw (H a) = some (.dK us) ∧ RepK K H xs us := by
  have z := h.any
  simpa only [Rep] using z
theorem RepLv.scr0 {xs : List Int} (h : RepLv K av own H lv (.scr xs) v) : ∃ a, v = .ref a ∧ SqL K H a (xs.map V.int) := by
  have z := h.any
  simpa only [Rep] using z
theorem RepLv.tup {xs : List D} (h : RepLv K av own H 1 (.tup xs) v) : ∃ a us, v = .ref a ∧ TAt K H a us ∧ Reps K (clean av own H) xs us := by
  rcases h with q | ⟨i, p, e, ev, q⟩
  · simp only [Rep] at q
    obtain ⟨a, us, e, t, r⟩ := q
    exact ⟨a, us, e, t.sub clean_le, r⟩
  · simp only [OwnAt] at q
theorem RepLv.lst {xs : List D} (h : RepLv K av own H 1 (.lst xs) v) : ∃ a us, v = .ref a ∧ H a = some (.lst us) ∧ Reps K (clean av own H) xs us := by
  rcases h with q | ⟨i, p, e, ev, q⟩
  · simp only [Rep] at q
    obtain ⟨a, us, e, t, r⟩ := q
    exact ⟨a, us, e, vw_lst (clean_le a _ (by rw [t]; rfl)), r⟩
  · simp only [OwnAt] at q
    obtain ⟨us, q1, q2⟩ := q
    exact ⟨p, us, ev, q1, q2⟩
theorem RepLv.dct {xs : List (Key × D)} (h : RepLv K av own H 1 (.dct xs) v) : ∃ a us, v = .ref a ∧ vw (H a) = some (.dK us) ∧ RepK K (clean av own H) xs us := by
  rcases h with q | ⟨i, p, e, ev, q⟩
  · simp only [Rep] at q
    obtain ⟨a, us, e, t, r⟩ := q
    exact ⟨a, us, e, clean_le a _ t, r⟩
  · simp only [OwnAt] at q
    obtain ⟨us, q1, q2⟩ := q
    exact ⟨p, us, ev, by rw [q1]; rfl, q2⟩
theorem rd_of_vw {a : Addr} {us : List (Key × V)} (h : vw (H a) = some (.dK us)) : Rd H a (.dK us) := by
  unfold vw at h
  split at h
  · rename_i o k e
    cases h
    exact .inr ⟨o, e⟩
  · exact .inl h
/-! ### new objects -/
theorem Rel.new (R : Rel K O av H₀ own ds σ H) {p : Addr} (hp : H p = none) : ¬ av p ∧ ∀ i, own i ≠ some p := by
  exact ⟨fun z => R.av0 p z hp, fun i z => R.live i p z hp⟩
theorem Rel.cleanNew (R : Rel K O av H₀ own ds σ H) {p : Addr} {o : HO} (hp : H p = none) : clean av own (upd H p o) p = some o := by
  obtain ⟨h1, h2⟩ := R.new hp
  rw [clean_some h1 h2, upd_same]
theorem Rel.newL (R : Rel K O av H₀ own ds σ H) {p : Addr} {xs : List D} {us : List V} (hp : H p = none) (r : Reps K (clean av own H) xs us) : RepLv K av own (upd H p (.lst us)) lv (.lst xs) (.ref p) := by
  refine RepLv.up ?_
  simp only [Rep]
  exact ⟨p, us, rfl, R.cleanNew hp, Reps.sub (clean_sub (Sub.of (same_upd hp))) _ _ r⟩
theorem Rel.newT (R : Rel K O av H₀ own ds σ H) {p : Addr} {xs : List D} {us : List V} (hp : H p = none) (r : Reps K (clean av own H) xs us) : RepLv K av own (upd H p (.tup us)) lv (.tup xs) (.ref p) := by
  refine RepLv.up ?_
  simp only [Rep]
  exact ⟨p, us, rfl, .inl (R.cleanNew hp), Reps.sub (clean_sub (Sub.of (same_upd hp))) _ _ r⟩
theorem Rel.newD (R : Rel K O av H₀ own ds σ H) {p : Addr} {xs : List (Key × D)} {us : List (Key × V)} (hp : H p = none) (r : RepK K (clean av own H) xs us) : RepLv K av own (upd H p (.dK us)) lv (.dct xs) (.ref p) := by
  refine RepLv.up ?_
  simp only [Rep]
  exact ⟨p, us, rfl, by rw [R.cleanNew hp]; rfl, RepK.sub (clean_sub (Sub.of (same_upd hp))) _ _ r⟩
theorem RepLv.fl {d : D} (f : d.flat = true) : RepLv K av own H lv d d.fv := RepLv.up (Rep.ofFlat f)
theorem RepLv.tupOf {a : Addr} {xs : List D} {us : List V} (h : TAt K (clean av own H) a us) (r : Reps K (clean av own H) xs us) : RepLv K av own H lv (.tup xs) (.ref a) := by
  refine RepLv.up ?_
  simp only [Rep]
  exact ⟨a, us, rfl, h, r⟩
end
/-! ### readings of two, of one -/
section
variable {K : PySem.W.Frag} {mg : Str → Option Value} {O : List Nat} {W : WX}
def V2 (K : PySem.W.Frag) (l1 l2 lv : Nat) (f : D → D → Option D) (r : R2) : Prop := ∀ {O av H₀ own ds σ H x y d1 d2 d} {Q : VK}, Rel K O av H₀ own ds σ H → RepLv K av own H l1 d1 x → RepLv K av own H l2 d2 y → f d1 d2 = some d →
  (∀ v H', Same H H' → RepLv K av own H' lv d v → Q v H') → r x y H Q
def V1 (K : PySem.W.Frag) (l1 lv : Nat) (f : D → Option D) (r : V → Hp → VK → Prop) : Prop := ∀ {O av H₀ own ds σ H x d1 d} {Q : VK}, Rel K O av H₀ own ds σ H → RepLv K av own H l1 d1 x → f d1 = some d →
  (∀ v H', Same H H' → RepLv K av own H' lv d v → Q v H') → r x H Q
theorem lift_d2 {f : D → D → Option D} {r : R2} {l1 l2 lv : Nat} {ta tb : DE} (hv : V2 K l1 l2 lv f r) {σ : L2.St} {H : Hp} {Q : VK} (h : liftE K mg O W lv (d2 f ta tb) σ H Q) :
    tOp r (liftE K mg O W l1 ta) (liftE K mg O W l2 tb) σ H Q := by
  obtain ⟨av, H₀, own, ds, R, m⟩ := h
  refine ⟨av, H₀, own, ds, R, (FinP.bind m).later (Same.refl _) fun x1 m1 v H1 s1 r1 => ?_⟩
  refine ⟨av, H₀, own, ds, R.same s1, (FinP.bind m1).later s1 fun x2 m2 y H2 s2 r2 => ?_⟩
  obtain ⟨d, e, q⟩ := m2.ofO
  exact hv (R.same (s1.trans s2)) (r1.same s2) r2 e fun v H' s rv => q v H' (s1.trans (s2.trans s)) rv
theorem lift_d1 {f : D → Option D} {r : V → Hp → VK → Prop} {l1 lv : Nat} {ta : DE} (hv : V1 K l1 lv f r) {σ : L2.St} {H : Hp} {Q : VK} (h : liftE K mg O W lv (d1 f ta) σ H Q) :
    liftE K mg O W l1 ta σ H fun x H1 => r x H1 Q := by
  obtain ⟨av, H₀, own, ds, R, m⟩ := h
  refine ⟨av, H₀, own, ds, R, (FinP.bind m).later (Same.refl _) fun x1 m1 v H1 s1 r1 => ?_⟩
  obtain ⟨d, e, q⟩ := m1.ofO
  exact hv (R.same s1) r1 e fun v H' s rv => q v H' (s1.trans s) rv
end
/-! ### the rules -/
section
variable {X : Cx} {O : List Nat} {W : WX} {a b c e : Expr} {ta tb tc : DE} {pos : Pos} {lv l1 l2 : Nat}
theorem EX.lv' {l : Nat} {t : DE} (h : EX X O W lv e t) (i : ∀ {av : Addr → Prop} {H₀ : Hp} {own : Nat → Option Addr} {ds : DSt} {σ : L2.St} {H : Hp} {d : D} {v : V}, Rel X.K O av H₀ own ds σ H → RepLv X.K av own H lv d v → RepLv X.K av own H l d v) : EX X O W l e t :=
  PE.imp h fun σ H Q ⟨av, H₀, own, ds, R, m⟩ => ⟨av, H₀, own, ds, R, m.later (Same.refl _) fun d q v H' s r => q v H' s (i (R.same s) r)⟩
/-- nothing of one's own in it: any level -/
theorem EX.up {t : DE} (h : EX X O W 2 e t) : EX X O W lv e t := h.lv' fun _ r => RepLv.up r
theorem EX.zero {t : DE} (h : EX X O W lv e t) : EX X O W 0 e t := h.lv' fun R r => r.zero R
/-- names -/
theorem ev (i : Nat) {x : Str} (hi : i ∉ O := by decide) (hN : X.N[i]? = some x := by rfl) (hv : Vis X.env.scope x := by first | exact Or.inl rfl | exact Or.inr (Or.inl rfl) | exact Or.inr (Or.inr rfl)) (hd : (x == ("__debug__" : Str)) = false := by decide)
    (hcd : (x == ("__classdict__" : Str)) = false := by decide) : EX X O W lv (.Name x pos) (dV i) := by
  refine EX.up (PE.imp (pe_var hN hv hd hcd) fun σ H Q h => ?_)
  obtain ⟨av, H₀, own, ds, R, m⟩ := h
  unfold dV at m
  split at m
  · rename_i d e
    obtain ⟨v, e1, e2⟩ := R.val i d hi e
    exact ⟨v, e1, m v H (Same.refl _) (RepLv.up e2)⟩
  · exact m.elim
/-- one's own container -/
theorem eo (i : Nat) {x : Str} (hi : i ∈ O := by decide) (hN : X.N[i]? = some x := by rfl) (hv : Vis X.env.scope x := by first | exact Or.inl rfl | exact Or.inr (Or.inl rfl) | exact Or.inr (Or.inr rfl)) (hd : (x == ("__debug__" : Str)) = false := by decide)
    (hcd : (x == ("__classdict__" : Str)) = false := by decide) : EX X O W 1 (.Name x pos) (dV i) := by
  refine PE.imp (pe_var hN hv hd hcd) fun σ H Q h => ?_
  obtain ⟨av, H₀, own, ds, R, m⟩ := h
  unfold dV at m
  split at m
  · rename_i d e
    obtain ⟨p, e1, e2, e3⟩ := R.ownv i d hi e
    exact ⟨.ref p, e2, m _ H (Same.refl _) (.inr ⟨i, p, e1, rfl, e3⟩)⟩
  · exact m.elim
theorem ec_of {d : D} (f : d.flat = true) (h : PE X e (tC d.fv)) : EX X O W lv e (dC d) := by
  refine EX.up (PE.imp h fun σ H Q hq => ?_)
  obtain ⟨av, H₀, own, ds, R, m⟩ := hq
  exact m _ H (Same.refl _) (RepLv.fl f)
theorem eI {i : Int} {j : Nat} : EX X O W lv (.Constant (.int i) j pos) (dC (.int i)) := ec_of rfl pe_int
theorem eS {x : Str} {j : Nat} : EX X O W lv (.Constant (.str x) j pos) (dC (.str x)) := ec_of rfl pe_str
theorem eB {x : Bool} {j : Nat} : EX X O W lv (.Constant (.bool x) j pos) (dC (.bl x)) := ec_of rfl pe_bl
theorem eN {j : Nat} : EX X O W lv (.Constant .none j pos) (dC .non) := ec_of rfl pe_non
theorem eG {x : Str} {i : Int} (hm : ∃ t, X.mg x = some (.int i t)) (hg : Gl X x := by rfl) (hd : (x == ("__debug__" : Str)) = false := by decide) : EX X O W lv (.Name x pos) (dC (.int i)) := by
  obtain ⟨t, ht⟩ := hm
  exact ec_of (d := .int i) rfl (pe_glob hg ht ⟨t, rfl⟩ hd)
/-- a tuple of the module -/
def KT (K : PySem.W.Frag) (mg : Str → Option Value) (x : Str) (xs : List D) : Prop := ∃ a us, mg x = some (.ref a) ∧ KTup K a us ∧ ∀ M, Reps K M xs us
theorem eGT {x : Str} {xs : List D} (hm : KT X.K X.mg x xs) (hg : Gl X x := by rfl) (hd : (x == ("__debug__" : Str)) = false := by decide) : EX X O W lv (.Name x pos) (dC (.tup xs)) := by
  obtain ⟨p, us, ht, hk, hr⟩ := hm
  refine EX.up (PE.imp (pe_glob (v := .ref p) hg ht rfl hd) fun σ H Q hq => ?_)
  obtain ⟨av, H₀, own, ds, R, m⟩ := hq
  exact m _ H (Same.refl _) (RepLv.tupOf (.inr hk) (hr _))
/-! ### argument lists, displays -/
theorem aN : AX X O W lv [] daN := by
  refine PA.imp pa_nil fun σ H Q h => ?_
  obtain ⟨av, H₀, own, ds, R, m⟩ := h
  exact m [] H (Same.refl _) rfl
theorem aC {es : List Expr} {tr : DA} (ha : EX X O W lv a ta) (hr : AX X O W lv es tr) (hs : starEach (a :: es) X.env = (false, eval a X.env) :: starEach es X.env := by rfl) : AX X O W lv (a :: es) (daC ta tr) := by
  refine PA.imp (pa_cons ha hr hs) fun σ H Q h => ?_
  obtain ⟨av, H₀, own, ds, R, m⟩ := h
  refine ⟨av, H₀, own, ds, R, (FinP.bind m).later (Same.refl _) fun x1 m1 v H1 s1 r1 => ?_⟩
  refine ⟨av, H₀, own, ds, R.same s1, (FinP.bind m1).later s1 fun x2 m2 y H2 s2 r2 => ?_⟩
  exact m2 (v :: y) H2 (s1.trans s2) ⟨v, y, rfl, r1.same s2, r2⟩
theorem RepLvs.reps {K : PySem.W.Frag} {av : Addr → Prop} {own : Nat → Option Addr} {H : Hp} : ∀ {xs : List D} {us : List V}, RepLvs K av own H 2 xs us → Reps K (clean av own H) xs us
  | [], _, h => by simp only [RepLvs] at h; subst h; exact Reps.nil
  | d :: xs, _, h => by
    simp only [RepLvs] at h
    obtain ⟨x, r, rfl, h1, h2⟩ := h
    exact Reps.cons h1 (RepLvs.reps h2)
theorem RepLvs.reps0 {K : PySem.W.Frag} {O : List Nat} {av : Addr → Prop} {H₀ H : Hp} {own : Nat → Option Addr} {ds : DSt} {σ : L2.St} (R : Rel K O av H₀ own ds σ H) : ∀ {xs : List D} {us : List V}, RepLvs K av own H lv xs us → Reps K (clean av noOwn H) xs us
  | [], _, h => by simp only [RepLvs] at h; subst h; exact Reps.nil
  | d :: xs, _, h => by
    simp only [RepLvs] at h
    obtain ⟨x, r, rfl, h1, h2⟩ := h
    exact Reps.cons (h1.zero R) (RepLvs.reps0 R h2)
theorem RepLvs.length {K : PySem.W.Frag} {av : Addr → Prop} {own : Nat → Option Addr} {H : Hp} : ∀ {xs : List D} {us : List V}, RepLvs K av own H lv xs us → us.length = xs.length
  | [], _, h => by simp only [RepLvs] at h; subst h; rfl
  | d :: xs, _, h => by
    simp only [RepLvs] at h
    obtain ⟨x, r, rfl, h1, h2⟩ := h
    rw [List.length_cons, List.length_cons, RepLvs.length h2]
theorem eTup {es : List Expr} {t : DA} {k : Nat} (h : AX X O W 2 es t) : EX X O W lv (.Tuple es k pos) (dTup t) := by
  refine EX.up (PE.imp (pe_tup h) fun σ H Q hq => ?_)
  obtain ⟨av, H₀, own, ds, R, m⟩ := hq
  refine ⟨av, H₀, own, ds, R, (FinP.bind m).later (Same.refl _) fun x1 m1 v H1 s1 r1 => ?_⟩
  split at m1
  · rename_i hz
    refine ⟨by rw [r1.length]; rw [sizeLine_eq]; exact hz, fun p hp => m1 (.ref p) _ (s1.trans (same_upd hp)) ((R.same s1).newT hp r1.reps)⟩
  · exact m1.elim
/-- a tuple that is handed out: what is one's own goes with it -/
theorem eTup0 {es : List Expr} {t : DA} {k : Nat} (h : AX X O W 0 es t) : EX X O W 0 (.Tuple es k pos) (dTup t) := by
  refine PE.imp (pe_tup h) fun σ H Q hq => ?_
  obtain ⟨av, H₀, own, ds, R, m⟩ := hq
  refine ⟨av, H₀, own, ds, R, (FinP.bind m).later (Same.refl _) fun x1 m1 v H1 s1 r1 => ?_⟩
  split at m1
  · rename_i hz
    refine ⟨by rw [r1.length]; rw [sizeLine_eq]; exact hz, fun p hp => m1 (.ref p) _ (s1.trans (same_upd hp)) ?_⟩
    have h1 := (R.same s1).new hp
    show Rep _ _ _ _
    simp only [Rep]
    refine ⟨p, v, rfl, .inl ?_, Reps.sub (clean_sub (Sub.of (same_upd hp))) _ _ (r1.reps0 (R.same s1))⟩
    rw [clean_some (own := noOwn) h1.1 (fun _ z => by cases z), upd_same]
  · exact m1.elim
theorem eLst {es : List Expr} {t : DA} (h : AX X O W 2 es t) : EX X O W lv (.List es pos) (dLst t) := by
  refine EX.up (PE.imp (pe_lst h) fun σ H Q hq => ?_)
  obtain ⟨av, H₀, own, ds, R, m⟩ := hq
  refine ⟨av, H₀, own, ds, R, (FinP.bind m).later (Same.refl _) fun x1 m1 v H1 s1 r1 => ?_⟩
  split at m1
  · rename_i hz
    refine ⟨by rw [r1.length]; rw [sizeLine_eq]; exact hz, fun p hp => m1 (.ref p) _ (s1.trans (same_upd hp)) ((R.same s1).newL hp r1.reps)⟩
  · exact m1.elim
/-- {} -/
theorem eD0 : EX X O W lv (.Dict [] [] pos) (dC (.dct [])) := by
  refine EX.up (PE.imp pe_dnewK fun σ H Q hq => ?_)
  obtain ⟨av, H₀, own, ds, R, m⟩ := hq
  exact fun p hp => m (.ref p) _ (same_upd hp) (R.newD hp RepK.nil)
/-! ### and, or, not, tests -/
theorem eAnd {rest : List Expr} (ha : EX X O W lv a ta) (hb : EX X O W lv (.BoolOp .And (b :: rest) pos) tb) : EX X O W lv (.BoolOp .And (a :: b :: rest) pos) (dAnd ta tb) := by
  refine PE.imp (pe_and ha hb) fun σ H Q hq => ?_
  obtain ⟨av, H₀, own, ds, R, m⟩ := hq
  refine ⟨av, H₀, own, ds, R, (FinP.bind m).later (Same.refl _) fun x1 m1 v H1 s1 r1 => ?_⟩
  split at m1
  · refine ⟨true, r1.bl, iteT ⟨av, H₀, own, ds, R.same s1, m1.later s1 fun d q y H2 s2 r2 => q y H2 (s1.trans s2) r2⟩⟩
  · exact ⟨false, r1.bl, iteF (m1 (.bl false) H1 s1 (RepLv.fl (d := .bl false) rfl))⟩
  · exact m1.elim
theorem eOr {rest : List Expr} (ha : EX X O W lv a ta) (hb : EX X O W lv (.BoolOp .Or (b :: rest) pos) tb) : EX X O W lv (.BoolOp .Or (a :: b :: rest) pos) (dOr ta tb) := by
  refine PE.imp (pe_or ha hb) fun σ H Q hq => ?_
  obtain ⟨av, H₀, own, ds, R, m⟩ := hq
  refine ⟨av, H₀, own, ds, R, (FinP.bind m).later (Same.refl _) fun x1 m1 v H1 s1 r1 => ?_⟩
  split at m1
  · exact ⟨true, r1.bl, iteT (m1 (.bl true) H1 s1 (RepLv.fl (d := .bl true) rfl))⟩
  · refine ⟨false, r1.bl, iteF ⟨av, H₀, own, ds, R.same s1, m1.later s1 fun d q y H2 s2 r2 => q y H2 (s1.trans s2) r2⟩⟩
  · exact m1.elim
theorem eOne {op : BoolOp} (h : EX X O W lv a ta) : EX X O W lv (.BoolOp op [a] pos) ta := pe_one h
theorem eNot (h : EX X O W 0 a ta) : EX X O W lv (.UnaryOp .Not a pos) (dNot ta) := by
  refine EX.up (PE.imp (pe_not h) fun σ H Q hq => ?_)
  obtain ⟨av, H₀, own, ds, R, m⟩ := hq
  refine ⟨av, H₀, own, ds, R, (FinP.bind m).later (Same.refl _) fun x1 m1 v H1 s1 r1 => ?_⟩
  split at m1
  · exact ⟨_, r1.bl, m1 (.bl _) H1 s1 (RepLv.fl (d := .bl _) rfl)⟩
  · exact m1.elim
theorem tBv (h : EX X O W 0 a ta) (he : ∀ whole, isTrue a X.env whole = (do let v ← whole; standAt a.pos; holding [v] (truthy v)) := by intro _; rfl) : TX X O W a (dB ta) := by
  refine PT.imp (pt_val h he) fun σ H Q hq => ?_
  obtain ⟨av, H₀, own, ds, R, m⟩ := hq
  refine ⟨av, H₀, own, ds, R, (FinP.bind m).later (Same.refl _) fun x1 m1 v H1 s1 r1 => ?_⟩
  cases x1 with
  | bl b => exact ⟨b, r1.bl, m1 H1 s1⟩
  | _ => exact m1.elim
theorem truth_ok {K : PySem.W.Frag} {av : Addr → Prop} {own : Nat → Option Addr} {H : Hp} {d : D} {v : V} {k : Bool} (r : RepLv K av own H lv d v) (e : truth d = some k) : TruV K v H k := by
  cases d with
  | non => rw [r.non]; cases e; rfl
  | bl b => rw [r.bl]; cases e; rfl
  | int i => rw [r.int]; cases e; rfl
  | str x =>
    rw [r.str]
    simp only [truth] at e
    split at e
    · rename_i hz
      cases e
      exact ⟨by rw [sizeLine_eq]; exact hz, rfl⟩
    · cases e
  | tup xs =>
    obtain ⟨p, us, rfl, t, rs⟩ := r.tup0
    cases e
    refine .inr (.inl ⟨us, t.sq, ?_⟩)
    have := rs.length
    cases us <;> cases xs <;> simp_all
  | lst xs =>
    obtain ⟨p, us, rfl, t, rs⟩ := r.lst0
    cases e
    refine .inl ⟨us, SqL.of t, ?_⟩
    have := rs.length
    cases us <;> cases xs <;> simp_all
  | dct xs => cases e
  | scr xs => cases e
/-- by its truth -/
theorem tTr (h : EX X O W 0 a ta) (he : ∀ whole, isTrue a X.env whole = (do let v ← whole; standAt a.pos; holding [v] (truthy v)) := by intro _; rfl) : TX X O W a (dTr ta) := by
  refine PT.imp (pt_truth h he) fun σ H Q hq => ?_
  obtain ⟨av, H₀, own, ds, R, m⟩ := hq
  refine ⟨av, H₀, own, ds, R, (FinP.bind m).later (Same.refl _) fun x1 m1 v H1 s1 r1 => ?_⟩
  obtain ⟨k, e, q⟩ := m1.ofO
  exact ⟨k, truth_ok r1 e, q H1 s1⟩
end
end DL
/-! DL3: operators, comparisons, subscripts, calls over plain data. -/
namespace DL
open PySem PySem.Spec L2
section
variable {X : Cx} {O : List Nat} {W : WX} {a b c e : Expr} {ta tb tc : DE} {ua ub uc : DT} {pos : Pos} {lv l1 l2 : Nat}
/-! ### tests -/
def WT (X : Cx) (O : List Nat) (W : WX) (e : Expr) (t : DT) : Prop := PW X e (liftT X.K X.mg O W t)
theorem WT.t (h : WT X O W a ua) : TX X O W a ua := PW.pt h
theorem PW.imp {e : Expr} {t t' : TT} (h : PW X e t) (i : ∀ σ H Q, t' σ H Q → t σ H Q) : PW X e t' := ⟨fun wh pins s σ H Q I q => h.run wh pins s σ H Q I (i σ H Q q)⟩
theorem wA1 (h : TX X O W a ua) : WT X O W (.BoolOp .And [a] pos) ua := pw_and1 h
theorem wO1 (h : TX X O W a ua) : WT X O W (.BoolOp .Or [a] pos) ua := pw_or1 h
theorem wA {rest : List Expr} (ha : TX X O W a ua) (hb : WT X O W (.BoolOp .And (b :: rest) pos) ub) : WT X O W (.BoolOp .And (a :: b :: rest) pos) (dtAnd ua ub) := by
  refine PW.imp (pw_and ha hb) fun σ H Q hq => ?_
  obtain ⟨av, H₀, own, ds, R, m⟩ := hq
  refine ⟨av, H₀, own, ds, R, (FinP.bind m).later (Same.refl _) fun x1 m1 H1 s1 => ?_⟩
  cases x1 with
  | true => exact iteT ⟨av, H₀, own, ds, R.same s1, FinP.later s1 m1 fun d q H2 s2 => q H2 (s1.trans s2)⟩
  | false => exact iteF (m1 H1 s1)
theorem wO {rest : List Expr} (ha : TX X O W a ua) (hb : WT X O W (.BoolOp .Or (b :: rest) pos) ub) : WT X O W (.BoolOp .Or (a :: b :: rest) pos) (dtOr ua ub) := by
  refine PW.imp (pw_or ha hb) fun σ H Q hq => ?_
  obtain ⟨av, H₀, own, ds, R, m⟩ := hq
  refine ⟨av, H₀, own, ds, R, (FinP.bind m).later (Same.refl _) fun x1 m1 H1 s1 => ?_⟩
  cases x1 with
  | true => exact iteT (m1 H1 s1)
  | false => exact iteF ⟨av, H₀, own, ds, R.same s1, FinP.later s1 m1 fun d q H2 s2 => q H2 (s1.trans s2)⟩
theorem tNt (ha : TX X O W a ua) : TX X O W (.UnaryOp .Not a pos) (dtNot ua) := by
  refine PT.imp (pt_not ha) fun σ H Q hq => ?_
  obtain ⟨av, H₀, own, ds, R, m⟩ := hq
  exact ⟨av, H₀, own, ds, R, (FinP.bind m).later (Same.refl _) fun x1 m1 H1 s1 => m1 H1 s1⟩
theorem eIf (hc : TX X O W c uc) (ha : EX X O W lv a ta) (hb : EX X O W lv b tb) : EX X O W lv (.IfExp c a b pos) (dIfE uc ta tb) := by
  refine PE.imp (pe_ifExp hc ha hb) fun σ H Q hq => ?_
  obtain ⟨av, H₀, own, ds, R, m⟩ := hq
  refine ⟨av, H₀, own, ds, R, (FinP.bind m).later (Same.refl _) fun x1 m1 H1 s1 => ?_⟩
  cases x1 with
  | true => exact iteT ⟨av, H₀, own, ds, R.same s1, FinP.later s1 m1 fun d q y H2 s2 r2 => q y H2 (s1.trans s2) r2⟩
  | false => exact iteF ⟨av, H₀, own, ds, R.same s1, FinP.later s1 m1 fun d q y H2 s2 r2 => q y H2 (s1.trans s2) r2⟩
/-! ### operators -/
theorem eBin {op : Operator} {f : D → D → Option D} {r : R2} (ho : OpR X (binaryOp op) r) (hv : V2 X.K l1 l2 2 f r) (ha : EX X O W l1 a ta) (hb : EX X O W l2 b tb) : EX X O W lv (.BinOp a op b pos) (d2 f ta tb) :=
  EX.up (PE.imp (pe_op ho ha hb) fun σ H Q h => lift_d2 hv h)
theorem v_add : V2 X.K 1 1 2 opAdd (fun x y H Q => (((rI0 fun i j => .int (i + j)) x y H Q) ∨ (∃ i j, x = .str i ∧ y = .str j ∧ i.length + j.length ≤ sizeLine ∧ Q (.str (i ++ j)) H)) ∨ (rCat x y H Q ∨ rCatA X.K x y H Q)) := by
  intro O av H₀ own ds σ H x y d1 d2 d Q R r1 r2 e q
  unfold opAdd at e
  split at e
  · cases e
    exact .inl (.inl ⟨_, _, r1.int, r2.int, q _ H (Same.refl _) (RepLv.fl (d := .int _) rfl)⟩)
  · split at e
    · rename_i hz
      cases e
      exact .inl (.inr ⟨_, _, r1.str, r2.str, by rw [sizeLine_eq]; exact hz, q _ H (Same.refl _) (RepLv.fl (d := .str _) rfl)⟩)
    · cases e
  · split at e
    · rename_i hz
      cases e
      obtain ⟨p, us, rfl, h1, rs1⟩ := r1.lst
      obtain ⟨p', us', rfl, h1', rs1'⟩ := r2.lst
      refine .inr (.inl ⟨p, p', us, us', rfl, rfl, h1, h1', by rw [rs1.length, rs1'.length, sizeLine_eq]; exact hz, fun n hn => q _ _ (same_upd hn) (R.newL hn (rs1.append rs1'))⟩)
    · cases e
  · rename_i aa bb
    split at e
    · rename_i hz
      cases e
      have z1 : Rep X.K (clean av own H) (.tup aa) x := by
        rcases r1 with z | ⟨i, p, _, _, z⟩
        · exact z
        · simp only [OwnAt] at z
      have z2 : Rep X.K (clean av own H) (.tup bb) y := by
        rcases r2 with z | ⟨i, p, _, _, z⟩
        · exact z
        · simp only [OwnAt] at z
      obtain ⟨p, us, rfl, h1, rs1⟩ := r1.tup
      obtain ⟨p', us', rfl, h1', rs1'⟩ := r2.tup
      refine .inr (.inr ⟨p, p', us, us', rfl, rfl, h1.sq, h1'.sq, by rw [rs1.length, rs1'.length, sizeLine_eq]; exact hz, fun e0 => ?_, fun _ e0 => ?_, fun _ _ n hn => q _ _ (same_upd hn) (R.newT hn (rs1.append rs1'))⟩)
      · have l : aa = [] := List.eq_nil_of_length_eq_zero (by rw [← rs1.length, e0]; rfl)
        rw [l, List.nil_append] at q
        exact q _ H (Same.refl _) (RepLv.up z2)
      · have l : bb = [] := List.eq_nil_of_length_eq_zero (by rw [← rs1'.length, e0]; rfl)
        rw [l, List.append_nil] at q
        exact q _ H (Same.refl _) (RepLv.up z1)
    · cases e
  · cases e
theorem eAdd (ha : EX X O W 1 a ta) (hb : EX X O W 1 b tb) : EX X O W lv (.BinOp a .Add b pos) (d2 opAdd ta tb) := eBin ((op_add.or op_add_str).or (op_cat.or op_catA)) v_add ha hb
theorem v_int {f : D → D → Option D} {g : Int → Int → Int} {C : Int → Int → Prop} (h : ∀ d1 d2 d, f d1 d2 = some d → ∃ i j, d1 = .int i ∧ d2 = .int j ∧ C i j ∧ d = .int (g i j)) : V2 X.K 0 0 2 f (rI C fun i j => .int (g i j)) := by
  intro O av H₀ own ds σ H x y d1 d2 d Q R r1 r2 e q
  obtain ⟨i, j, rfl, rfl, hc, rfl⟩ := h _ _ _ e
  exact ⟨i, j, r1.int, r2.int, hc, q _ H (Same.refl _) (RepLv.fl (d := .int _) rfl)⟩
theorem v_int0 {f : D → D → Option D} {g : Int → Int → V} {k : Int → Int → D} (hk : ∀ i j, (k i j).flat = true ∧ (k i j).fv = g i j) (h : ∀ d1 d2 d, f d1 d2 = some d → ∃ i j, d1 = .int i ∧ d2 = .int j ∧ d = k i j) : V2 X.K 0 0 2 f (rI0 g) := by
  intro O av H₀ own ds σ H x y d1 d2 d Q R r1 r2 e q
  obtain ⟨i, j, rfl, rfl, rfl⟩ := h _ _ _ e
  refine ⟨i, j, r1.int, r2.int, ?_⟩
  rw [← (hk i j).2]
  exact q _ H (Same.refl _) (RepLv.fl (hk i j).1)
theorem eSub (ha : EX X O W 0 a ta) (hb : EX X O W 0 b tb) : EX X O W lv (.BinOp a .Sub b pos) (d2 opSub ta tb) :=
  eBin op_sub (v_int0 (k := fun i j => .int (i - j)) (fun _ _ => ⟨rfl, rfl⟩) fun d1 d2 d e => by
    unfold opSub at e
    split at e
    · cases e; exact ⟨_, _, rfl, rfl, rfl⟩
    · cases e) ha hb
theorem eFdiv (ha : EX X O W 0 a ta) (hb : EX X O W 0 b tb) : EX X O W lv (.BinOp a .FloorDiv b pos) (d2 opFdiv ta tb) :=
  eBin op_fdiv (v_int fun d1 d2 d e => by
    unfold opFdiv at e
    split at e
    · split at e
      · rename_i h; cases e; exact ⟨_, _, rfl, rfl, h, rfl⟩
      · cases e
    · cases e) ha hb
theorem eMod (ha : EX X O W 0 a ta) (hb : EX X O W 0 b tb) : EX X O W lv (.BinOp a .Mod b pos) (d2 opMod ta tb) :=
  eBin op_mod (v_int fun d1 d2 d e => by
    unfold opMod at e
    split at e
    · split at e
      · rename_i h; cases e; exact ⟨_, _, rfl, rfl, h, rfl⟩
      · cases e
    · cases e) ha hb
theorem eShl (ha : EX X O W 0 a ta) (hb : EX X O W 0 b tb) : EX X O W lv (.BinOp a .LShift b pos) (d2 opShl ta tb) :=
  eBin op_shl (v_int fun d1 d2 d e => by
    unfold opShl at e
    split at e
    · split at e
      · rename_i h; cases e; exact ⟨_, _, rfl, rfl, h, rfl⟩
      · cases e
    · cases e) ha hb
theorem eShr (ha : EX X O W 0 a ta) (hb : EX X O W 0 b tb) : EX X O W lv (.BinOp a .RShift b pos) (d2 opShr ta tb) :=
  eBin op_shr (v_int fun d1 d2 d e => by
    unfold opShr at e
    split at e
    · split at e
      · rename_i h; cases e; exact ⟨_, _, rfl, rfl, h, rfl⟩
      · cases e
    · cases e) ha hb
theorem ePow (ha : EX X O W 0 a ta) (hb : EX X O W 0 b tb) : EX X O W lv (.BinOp a .Pow b pos) (d2 opPow ta tb) :=
  eBin op_pow (v_int fun d1 d2 d e => by
    unfold opPow at e
    split at e
    · split at e
      · rename_i h; cases e; exact ⟨_, _, rfl, rfl, h, rfl⟩
      · cases e
    · cases e) ha hb
theorem eAnd1 (ha : EX X O W 0 a ta) (hb : EX X O W 0 b tb) : EX X O W lv (.BinOp a .BitAnd b pos) (d2 opAnd ta tb) := by
  refine eBin op_and ?_ ha hb
  intro O av H₀ own ds σ H x y d1 d2 d Q R r1 r2 e q
  unfold opAnd at e
  split at e
  · split at e
    · rename_i i j h
      cases e
      refine ⟨i, j, r1.int, r2.int, ?_⟩
      have e1 : Builtin.bitAnd i j = i % 2 := by
        rw [h.2]
        exact Bits.bitAnd_mask 1 h.1
      show Q (V.int (Builtin.bitAnd i j)) H
      rw [e1]
      exact q _ H (Same.refl _) (RepLv.fl (d := .int _) rfl)
    · cases e
  · cases e
/-- of ints alone -/
theorem eMul (ha : EX X O W 0 a ta) (hb : EX X O W 0 b tb) : EX X O W lv (.BinOp a .Mult b pos) (d2 opMulI ta tb) :=
  eBin op_mul (v_int fun d1 d2 d e => by
    unfold opMulI at e
    split at e
    · split at e
      · rename_i i j h
        cases e
        refine ⟨_, _, rfl, rfl, ?_, rfl⟩
        simp only [mulOk, Bool.or_eq_true, decide_eq_true_eq] at h
        exact h
      · cases e
    · cases e) ha hb
theorem eNeg (ha : EX X O W 0 a ta) : EX X O W lv (.UnaryOp .USub a pos) (d1 opNeg ta) := by
  refine EX.up (PE.imp (pe_un un_neg ha) fun σ H Q h => ?_)
  refine lift_d1 (f := opNeg) (r := rU fun i => .int (-i)) (lv := 2) ?_ h
  intro O av H₀ own ds σ H x d1 d Q R r1 e q
  unfold opNeg at e
  split at e
  · cases e
    exact ⟨_, r1.int, q _ H (Same.refl _) (RepLv.fl (d := .int _) rfl)⟩
  · cases e
/-! ### comparisons -/
theorem eCm {op : CmpOp} {f : D → D → Option D} {r : R2} (ho : OpR X (compareOp op) r) (hv : V2 X.K l1 l2 2 f r) (ha : EX X O W l1 a ta) (hb : EX X O W l2 b tb) (hm : behindInMarks op b = false) : EX X O W lv (.Compare a [op] [b] pos) (d2 f ta tb) :=
  EX.up (PE.imp (pe_cmpR ho ha hb hm) fun σ H Q h => lift_d2 hv h)
theorem tCm {op : CmpOp} {f : D → D → Option D} {r : R2} (ho : OpR X (compareOp op) r) (hv : V2 X.K l1 l2 2 f r) (ha : EX X O W l1 a ta) (hb : EX X O W l2 b tb) (hm : behindInMarks op b = false) : TX X O W (.Compare a [op] [b] pos) (dB (d2 f ta tb)) := by
  refine PT.imp (pt_cmpR ho ha hb hm) fun σ H Q h => ?_
  obtain ⟨av, H₀, own, ds, R, m⟩ := h
  refine lift_d2 (mg := X.mg) (W := W) (lv := 2) (O := O) (Q := fun x H' => ∃ k, x = .bl k ∧ Q k H') hv ⟨av, H₀, own, ds, R, (FinP.bind m).later (Same.refl _) fun x1 m1 v H1 s1 r1 => ?_⟩
  cases x1 with
  | bl b => exact ⟨b, r1.bl, m1 H1 s1⟩
  | _ => exact m1.elim
theorem v_cmp {g : Int → Int → Bool} : V2 X.K 0 0 2 (opCmp g) (rI0 fun i j => .bl (g i j)) := v_int0 (k := fun i j => .bl (g i j)) (fun _ _ => ⟨rfl, rfl⟩) fun d1 d2 d e => by
  unfold opCmp at e
  split at e
  · cases e; exact ⟨_, _, rfl, rfl, rfl⟩
  · cases e
theorem eLt (ha : EX X O W 0 a ta) (hb : EX X O W 0 b tb) : EX X O W lv (.Compare a [.Lt] [b] pos) (d2 opLt ta tb) := eCm op_lt v_cmp ha hb (nomark _)
theorem eLe (ha : EX X O W 0 a ta) (hb : EX X O W 0 b tb) : EX X O W lv (.Compare a [.LtE] [b] pos) (d2 opLe ta tb) := eCm op_le v_cmp ha hb (nomark _)
theorem eGt (ha : EX X O W 0 a ta) (hb : EX X O W 0 b tb) : EX X O W lv (.Compare a [.Gt] [b] pos) (d2 opGt ta tb) := eCm op_gt v_cmp ha hb (nomark _)
theorem eGe (ha : EX X O W 0 a ta) (hb : EX X O W 0 b tb) : EX X O W lv (.Compare a [.GtE] [b] pos) (d2 opGe ta tb) := eCm op_ge v_cmp ha hb (nomark _)
theorem tLt (ha : EX X O W 0 a ta) (hb : EX X O W 0 b tb) : TX X O W (.Compare a [.Lt] [b] pos) (dB (d2 opLt ta tb)) := tCm op_lt v_cmp ha hb (nomark _)
theorem tLe (ha : EX X O W 0 a ta) (hb : EX X O W 0 b tb) : TX X O W (.Compare a [.LtE] [b] pos) (dB (d2 opLe ta tb)) := tCm op_le v_cmp ha hb (nomark _)
theorem tGt (ha : EX X O W 0 a ta) (hb : EX X O W 0 b tb) : TX X O W (.Compare a [.Gt] [b] pos) (dB (d2 opGt ta tb)) := tCm op_gt v_cmp ha hb (nomark _)
theorem tGe (ha : EX X O W 0 a ta) (hb : EX X O W 0 b tb) : TX X O W (.Compare a [.GtE] [b] pos) (dB (d2 opGe ta tb)) := tCm op_ge v_cmp ha hb (nomark _)
/-- a op b op' c -/
theorem lift_chain {f g : D → D → Option D} {r r' : R2} (hf : V2 X.K 0 0 2 f r) (hg : V2 X.K 0 0 2 g r') (hb : ∀ x y d, f x y = some d → ∃ k, d = .bl k) {σ : L2.St} {H : Hp} {Q : VK} (h : liftE X.K X.mg O W 2 (dChain f g ta tb tc) σ H Q) :
    tChain r r' (liftE X.K X.mg O W 0 ta) (liftE X.K X.mg O W 0 tb) (liftE X.K X.mg O W 0 tc) σ H Q := by
  obtain ⟨av, H₀, own, ds, R, m⟩ := h
  refine ⟨av, H₀, own, ds, R, (FinP.bind m).later (Same.refl _) fun x1 m1 v H1 s1 r1 => ?_⟩
  refine ⟨av, H₀, own, ds, R.same s1, (FinP.bind m1).later s1 fun x2 m2 y H2 s2 r2 => ?_⟩
  obtain ⟨d, e, q⟩ := FinP.ofO (FinP.bind m2)
  obtain ⟨k, rfl⟩ := hb _ _ _ e
  have s12 := s1.trans s2
  refine hf (R.same s12) (r1.same s2) r2 e fun z H3 s3 r3 => ⟨k, r3.bl, ?_⟩
  have s13 := s12.trans s3
  cases k with
  | false => exact iteF (q (.bl false) H3 s13 (RepLv.fl (d := .bl false) rfl))
  | true =>
    refine iteT ⟨av, H₀, own, ds, R.same s13, FinP.later s13 (FinP.bind q) fun x3 m3 w H4 s4 r4 => ?_⟩
    obtain ⟨d', e', q'⟩ := m3.ofO
    have s14 := s13.trans s4
    exact hg (R.same s14) (r2.same (s3.trans s4)) r4 e' fun z H5 s5 r5 => q' z H5 (s14.trans s5) r5
theorem cmp_bl {g : Int → Int → Bool} : ∀ x y d, opCmp g x y = some d → ∃ k, d = .bl k := fun x y d e => by
  unfold opCmp at e
  split at e
  · cases e; exact ⟨_, rfl⟩
  · cases e
theorem eCh {op op' : CmpOp} {g g' : Int → Int → Bool} (ho : OpR X (compareOp op) (rI0 fun i j => .bl (g i j))) (ho' : OpR X (compareOp op') (rI0 fun i j => .bl (g' i j))) (ha : EX X O W 0 a ta) (hb : EX X O W 0 b tb) (hc : EX X O W 0 c tc)
    (hm : lastMarks [op, op'] [b, c] = false := by with_unfolding_all rfl) : EX X O W lv (.Compare a [op, op'] [b, c] pos) (dChain (opCmp g) (opCmp g') ta tb tc) :=
  EX.up (PE.imp (pe_chain ho ho' ha hb hc hm) fun σ H Q h => lift_chain v_cmp v_cmp cmp_bl h)
theorem tCh {op op' : CmpOp} {g g' : Int → Int → Bool} (ho : OpR X (compareOp op) (rI0 fun i j => .bl (g i j))) (ho' : OpR X (compareOp op') (rI0 fun i j => .bl (g' i j))) (ha : EX X O W 0 a ta) (hb : EX X O W 0 b tb) (hc : EX X O W 0 c tc)
    (hm : lastMarks [op, op'] [b, c] = false := by with_unfolding_all rfl) : TX X O W (.Compare a [op, op'] [b, c] pos) (dB (dChain (opCmp g) (opCmp g') ta tb tc)) := by
  refine PT.imp (pt_chain ho ho' ha hb hc hm) fun σ H Q h => ?_
  obtain ⟨av, H₀, own, ds, R, m⟩ := h
  refine lift_chain (W := W) (O := O) (Q := fun x H' => ∃ k, x = .bl k ∧ Q k H') v_cmp v_cmp cmp_bl ⟨av, H₀, own, ds, R, (FinP.bind m).later (Same.refl _) fun x1 m1 v H1 s1 r1 => ?_⟩
  cases x1 with
  | bl b => exact ⟨b, r1.bl, m1 H1 s1⟩
  | _ => exact m1.elim
end
end DL
/-! DL4: equality, membership, subscripts, calls of defs, built-ins over plain data. -/
namespace DL
open PySem PySem.Spec L2
section
variable {K : PySem.W.Frag} {M H : Hp}
theorem TAt.up {a : Addr} {xs : List V} (h : TAt K H a xs) : SqT K H a xs := h.sq
mutual
theorem Rep.dp : ∀ (d : D) (v : V), Rep K H d v → d.p.canLay0 = true → Dp K H v d.p
  | .non, v, h, _ => by simp only [Rep] at h; subst h; exact .non
  | .bl b, v, h, _ => by simp only [Rep] at h; subst h; exact .bl b
  | .int i, v, h, _ => by simp only [Rep] at h; subst h; exact .int i
  | .str x, v, h, _ => by simp only [Rep] at h; subst h; exact .str x
  | .tup ds, v, h, c => by
    simp only [Rep] at h
    obtain ⟨a, xs, rfl, t, r⟩ := h
    simp only [D.p, PyData.canLay0] at c ⊢
    exact .tup t.sq (Reps.dp ds xs r c)
  | .lst ds, v, h, c => by
    simp only [Rep] at h
    obtain ⟨a, xs, rfl, t, r⟩ := h
    simp only [D.p, PyData.canLay0] at c ⊢
    exact .lst (SqL.of t) (Reps.dp ds xs r c)
  | .dct ds, v, h, c => by simp only [D.p, PyData.canLay0] at c; cases c
  | .scr ds, v, h, c => by simp only [D.p, PyData.canLay0] at c; cases c
theorem Reps.dp : ∀ (ds : List D) (xs : List V), Reps K H ds xs → PyData.canLayAll0 (D.ps ds) = true → DpAll K H xs (D.ps ds)
  | [], xs, h, _ => by simp only [Reps] at h; subst h; exact .nil
  | d :: ds, xs, h, c => by
    simp only [Reps] at h
    obtain ⟨x, r, rfl, h1, h2⟩ := h
    simp only [D.ps, PyData.canLayAll0, Bool.and_eq_true] at c ⊢
    exact .cons (Rep.dp d x h1 c.1) (Reps.dp ds r h2 c.2)
end
theorem eqV_fv {d e : D} (f : d.flat = true) (g : e.flat = true) : eqV d.fv e.fv = D.eqv d e := by
  cases d <;> cases e <;> first | rfl | exact (Bool.false_ne_true f).elim | exact (Bool.false_ne_true g).elim
theorem fv_flat {d : D} (f : d.flat = true) : flatV d.fv = true := by
  cases d <;> first | rfl | exact (Bool.false_ne_true f).elim
/-! ### dicts compared -/
theorem hits_of {A : Around} {s : Shared} {b : List (Key × D)} {ls : List (Key × V)} {vb : List (Key × Value)} (rb : KV ls vb) (Rb : RepK K H b ls) (fb : dctFlat b = true) : ∀ {a : List (Key × D)} {ks : List (Key × V)} {va : List (Key × Value)}, KV ks va → RepK K H a ks → dctFlat a = true →
    PySem.W.KeqHits A s vb va (a.all fun kv => match lk b kv.1 with
      | some w => D.eqv kv.2 w
      | none => false)
  | [], ks, va, ra, Ra, _ => by
    simp only [RepK] at Ra
    subst Ra
    cases ra
    exact .nil
  | (k, d) :: a, ks, va, ra, Ra, fa => by
    simp only [RepK] at Ra
    obtain ⟨x, r, rfl, h1, h2⟩ := Ra
    cases ra with
    | @cons p q ps qs h t =>
      obtain ⟨k', v⟩ := q
      obtain ⟨e1, rx⟩ := h
      have e1 : k = k' := e1
      subst e1
      have fa' : d.flat = true ∧ dctFlat a = true := by
        unfold dctFlat at fa ⊢
        simp only [List.all_cons, Bool.and_eq_true] at fa
        exact ⟨fa.1.1, fa.2⟩
      have ih := hits_of (A := A) (s := s) rb Rb fb t h2 fa'.2
      have rv := rb.val k
      have lv := RepK.val k Rb
      rw [List.all_cons]
      cases e : lk b k with
      | none =>
        rw [e] at lv
        have lv' : valV ls k = none := lv
        rw [lv'] at rv
        exact .miss (RelO.none_of rv)
      | some w =>
        rw [e] at lv
        obtain ⟨y, e2, ry⟩ := lv
        rw [e2] at rv
        obtain ⟨u, eu, ru⟩ := RelO.some_of rv
        have fw : w.flat = true := by
          unfold lk at e
          obtain ⟨kv, hk, rfl⟩ := Option.map_eq_some_iff.mp e
          have hm := List.mem_of_find?_eq_some hk
          unfold dctFlat at fb
          have := List.all_eq_true.mp fb kv hm
          simp only [Bool.and_eq_true] at this
          exact this.1
        have ex := h1.flat fa'.1
        have ey := ry.flat fw
        have q := eqAt_V (A := A) (s := s) rx ru (by rw [ex]; exact fv_flat fa'.1) (by rw [ey]; exact fv_flat fw)
        rw [ex, ey, eqV_fv fa'.1 fw] at q
        exact .hit eu q ih
end
def rEqDi (K : PySem.W.Frag) (neg : Bool) : R2 := fun x y H Q => ∃ a b ks ls A B, x = .ref a ∧ y = .ref b ∧ vw (H a) = some (.dK ks) ∧ vw (H b) = some (.dK ls) ∧ RepK K H A ks ∧ RepK K H B ls ∧ dctFlat A = true ∧ dctFlat B = true ∧ Q (.bl (if neg = true then !dctEq A B else dctEq A B)) H
section
variable {X : Cx}
theorem op_eqDi (hu : X.A.units + 64 < cLine) : OpR X (compareOp .Eq) (rEqDi X.K false) := by
  intro pins s σ H x y v u Q I rx ry h
  obtain ⟨a, b, ks, ls, A, B, rfl, rfl, ea, eb, Ra, Rb, fa, fb, q⟩ := h
  obtain rfl : v = Value.ref a := rx
  obtain rfl : u = Value.ref b := ry
  obtain ⟨_, ya, va, ra, da⟩ := dk_rd I.hok (rd_of_vw ea)
  obtain ⟨_, yb, vb, rb, db⟩ := dk_rd I.hok (rd_of_vw eb)
  refine PySem.W.keq_eq (knd := mixKind X.prog X.w) ya yb da db (by omega) (fun _ => hits_of rb Rb fb ra Ra fa) (fin_bl I q ?_)
  unfold dctEq
  have e1 : va.length = A.length := by rw [← ra.length, Ra.length]
  have e2 : vb.length = B.length := by rw [← rb.length, Rb.length]
  rw [e1, e2]
  rfl
theorem op_neDi (hu : X.A.units + 64 < cLine) : OpR X (compareOp .NotEq) (rEqDi X.K true) := by
  intro pins s σ H x y v u Q I rx ry h
  obtain ⟨a, b, ks, ls, A, B, rfl, rfl, ea, eb, Ra, Rb, fa, fb, q⟩ := h
  obtain rfl : v = Value.ref a := rx
  obtain rfl : u = Value.ref b := ry
  obtain ⟨_, ya, va, ra, da⟩ := dk_rd I.hok (rd_of_vw ea)
  obtain ⟨_, yb, vb, rb, db⟩ := dk_rd I.hok (rd_of_vw eb)
  refine PySem.W.keq_ne (knd := mixKind X.prog X.w) ya yb da db (by omega) (fun _ => hits_of rb Rb fb ra Ra fa) (fin_bl I q ?_)
  unfold dctEq
  have e1 : va.length = A.length := by rw [← ra.length, Ra.length]
  have e2 : vb.length = B.length := by rw [← rb.length, Rb.length]
  rw [e1, e2]
  rfl
end
theorem opEqB_cases {d e : D} {k : Bool} (h : opEqB d e = some k) : (∃ a b, d = .dct a ∧ e = .dct b ∧ dctFlat a = true ∧ dctFlat b = true ∧ k = dctEq a b) ∨ (d.okE = true ∧ e.okE = true ∧ k = D.eqv d e) := by
  unfold opEqB at h
  split at h
  · split at h
    · rename_i q
      simp only [Bool.and_eq_true] at q
      cases h
      exact .inl ⟨_, _, rfl, rfl, q.1, q.2, rfl⟩
    · cases h
  · split at h
    · rename_i q
      simp only [Bool.and_eq_true] at q
      cases h
      exact .inr ⟨q.1, q.2, rfl⟩
    · cases h
section
variable {X : Cx} {O : List Nat} {W : WX} {a b c e : Expr} {ta tb tc : DE} {ua ub uc : DT} {pos : Pos} {lv l1 l2 : Nat}
theorem v_eq : V2 X.K 0 0 2 opEq (fun x y H Q => rEqD X.K x y H Q ∨ rEqDi X.K false x y H Q) := by
  intro O av H₀ own ds σ H x y d1 d2 d Q R r1 r2 e q
  unfold opEq at e
  split at e
  · rename_i k hk
    cases e
    have q' := q _ H (Same.refl _) (RepLv.fl (d := .bl k) rfl)
    rcases opEqB_cases hk with ⟨A, B, rfl, rfl, fa, fb, rfl⟩ | ⟨o1, o2, rfl⟩
    · obtain ⟨p, us, rfl, h1, rs1⟩ := r1.dct0
      obtain ⟨p', us', rfl, h1', rs1'⟩ := r2.dct0
      exact .inr ⟨p, p', us, us', A, B, rfl, rfl, h1, h1', rs1, rs1', fa, fb, q'⟩
    · exact .inl ⟨d1.p, d2.p, r1.any.dp _ _ (SeqAt.canLay_of_shaped (D.okE_sh o1)), r2.any.dp _ _ (SeqAt.canLay_of_shaped (D.okE_sh o2)), D.okE_sh o1, D.okE_sh o2, q'⟩
  · cases e
theorem v_ne : V2 X.K 0 0 2 opNe (fun x y H Q => rNeD X.K x y H Q ∨ rEqDi X.K true x y H Q) := by
  intro O av H₀ own ds σ H x y d1 d2 d Q R r1 r2 e q
  unfold opNe at e
  split at e
  · rename_i k hk
    cases e
    have q' := q _ H (Same.refl _) (RepLv.fl (d := .bl (!k)) rfl)
    rcases opEqB_cases hk with ⟨A, B, rfl, rfl, fa, fb, rfl⟩ | ⟨o1, o2, rfl⟩
    · obtain ⟨p, us, rfl, h1, rs1⟩ := r1.dct0
      obtain ⟨p', us', rfl, h1', rs1'⟩ := r2.dct0
      exact .inr ⟨p, p', us, us', A, B, rfl, rfl, h1, h1', rs1, rs1', fa, fb, q'⟩
    · exact .inl ⟨d1.p, d2.p, r1.any.dp _ _ (SeqAt.canLay_of_shaped (D.okE_sh o1)), r2.any.dp _ _ (SeqAt.canLay_of_shaped (D.okE_sh o2)), D.okE_sh o1, D.okE_sh o2, q'⟩
  · cases e
theorem eEq (hu : X.A.units + 64 < cLine) (ha : EX X O W 0 a ta) (hb : EX X O W 0 b tb) : EX X O W lv (.Compare a [.Eq] [b] pos) (d2 opEq ta tb) := eCm ((op_eqD hu).or (op_eqDi hu)) v_eq ha hb (nomark _)
theorem eNe (hu : X.A.units + 64 < cLine) (ha : EX X O W 0 a ta) (hb : EX X O W 0 b tb) : EX X O W lv (.Compare a [.NotEq] [b] pos) (d2 opNe ta tb) := eCm ((op_neD hu).or (op_neDi hu)) v_ne ha hb (nomark _)
theorem tEq (hu : X.A.units + 64 < cLine) (ha : EX X O W 0 a ta) (hb : EX X O W 0 b tb) : TX X O W (.Compare a [.Eq] [b] pos) (dB (d2 opEq ta tb)) := tCm ((op_eqD hu).or (op_eqDi hu)) v_eq ha hb (nomark _)
theorem tNe (hu : X.A.units + 64 < cLine) (ha : EX X O W 0 a ta) (hb : EX X O W 0 b tb) : TX X O W (.Compare a [.NotEq] [b] pos) (dB (d2 opNe ta tb)) := tCm ((op_neD hu).or (op_neDi hu)) v_ne ha hb (nomark _)
/-! ### is -/
theorem isNon_ok {K : PySem.W.Frag} {av : Addr → Prop} {own : Nat → Option Addr} {H : Hp} {d : D} {v : V} (r : RepLv K av own H lv d v) : decide (v = V.non) = d.isNon := by
  cases d with
  | non => rw [r.non]; rfl
  | bl b => rw [r.bl]; rfl
  | int b => rw [r.int]; rfl
  | str b => rw [r.str]; rfl
  | tup b => obtain ⟨p, _, e, _⟩ := r.tup0; rw [e]; rfl
  | lst b => obtain ⟨p, _, e, _⟩ := r.lst0; rw [e]; rfl
  | dct b => obtain ⟨p, _, e, _⟩ := r.dct0; rw [e]; rfl
  | scr b => obtain ⟨p, e, _⟩ := r.scr0; rw [e]; rfl
theorem v_is : V2 X.K 0 0 2 opIs (fun x y H Q => (y = .non ∧ Q (.bl (decide (x = .non))) H) ∨ rIsB x y H Q) := by
  intro O av H₀ own ds σ H x y d1 d2 d Q R r1 r2 e q
  unfold opIs at e
  split at e
  · refine .inl ⟨r2.non, ?_⟩
    cases e
    rw [isNon_ok r1]
    exact q _ H (Same.refl _) (RepLv.fl (d := .bl _) rfl)
  · cases e
    rename_i i j
    refine .inr ⟨i, j, r1.bl, r2.bl, ?_⟩
    have q' := q _ H (Same.refl _) (RepLv.fl (d := .bl _) rfl)
    rw [Bool.beq_eq_decide_eq] at q'
    exact q'
  · cases e
theorem v_isn : V2 X.K 0 0 2 opIsN (fun x y H Q => (y = .non ∧ Q (.bl (!decide (x = .non))) H) ∨ rNotB x y H Q) := by
  intro O av H₀ own ds σ H x y d1 d2 d Q R r1 r2 e q
  unfold opIsN at e
  split at e
  · refine .inl ⟨r2.non, ?_⟩
    cases e
    rw [isNon_ok r1]
    exact q _ H (Same.refl _) (RepLv.fl (d := .bl _) rfl)
  · cases e
    rename_i i j
    refine .inr ⟨i, j, r1.bl, r2.bl, ?_⟩
    have q' := q _ H (Same.refl _) (RepLv.fl (d := .bl _) rfl)
    rw [Bool.beq_eq_decide_eq] at q'
    exact q'
  · cases e
theorem eIs (ha : EX X O W 0 a ta) (hb : EX X O W 0 b tb) : EX X O W lv (.Compare a [.Is] [b] pos) (d2 opIs ta tb) := eCm (op_isN.or op_isBl) v_is ha hb (nomark _)
theorem eIsN (ha : EX X O W 0 a ta) (hb : EX X O W 0 b tb) : EX X O W lv (.Compare a [.IsNot] [b] pos) (d2 opIsN ta tb) := eCm (op_notN.or op_notBl) v_isn ha hb (nomark _)
theorem tIs (ha : EX X O W 0 a ta) (hb : EX X O W 0 b tb) : TX X O W (.Compare a [.Is] [b] pos) (dB (d2 opIs ta tb)) := tCm (op_isN.or op_isBl) v_is ha hb (nomark _)
theorem tIsN (ha : EX X O W 0 a ta) (hb : EX X O W 0 b tb) : TX X O W (.Compare a [.IsNot] [b] pos) (dB (d2 opIsN ta tb)) := tCm (op_notN.or op_notBl) v_isn ha hb (nomark _)
/-! ### in -/
def rDIn (neg : Bool) : R2 := fun x y H Q => ∃ a o, y = .ref a ∧ DGet H a x o ∧ Q (.bl (if neg = true then !o.isSome else o.isSome)) H
theorem op_inDi (hu : X.A.units + 64 < cLine) : OpR X (compareOp .In) (rDIn false) := by
  intro pins s σ H x y v u Q I rx ry h
  obtain ⟨a, o, rfl, g, q⟩ := h
  obtain rfl : u = Value.ref a := ry
  exact d_in (by omega) I g rx fun s3 I3 => ⟨.bl o.isSome, H, I3, rfl, q⟩
theorem op_ninDi (hu : X.A.units + 64 < cLine) : OpR X (compareOp .NotIn) (rDIn true) := by
  intro pins s σ H x y v u Q I rx ry h
  obtain ⟨a, o, rfl, g, q⟩ := h
  obtain rfl : u = Value.ref a := ry
  exact d_notIn (by omega) I g rx fun s3 I3 => ⟨.bl (!o.isSome), H, I3, rfl, q⟩
theorem kV_of {d : D} {k : Key} (h : keyOf d = some k) : d.fv = kV k ∧ d.flat = true := by
  cases d <;> simp only [keyOf] at h <;> first | (cases h; exact ⟨rfl, rfl⟩) | cases h
theorem inV_of {K : PySem.W.Frag} {M : Hp} {d : D} (f : d.flat = true) : ∀ {xs : List D} {us : List V}, Reps K M xs us → xs.all D.flat = true → us.all flatV = true ∧ inV d.fv us = xs.any fun y => D.eqv y d
  | [], _, h, _ => by simp only [Reps] at h; subst h; exact ⟨rfl, rfl⟩
  | e :: xs, _, h, g => by
    simp only [Reps] at h
    obtain ⟨x, r, rfl, h1, h2⟩ := h
    simp only [List.all_cons, Bool.and_eq_true] at g
    obtain ⟨i1, i2⟩ := inV_of f h2 g.2
    have ex := h1.flat g.1
    refine ⟨?_, ?_⟩
    · simp only [List.all_cons, Bool.and_eq_true]
      exact ⟨by rw [ex]; exact fv_flat g.1, i1⟩
    · unfold inV at i2 ⊢
      simp only [List.any_cons]
      rw [ex, eqV_fv g.1 f, i2]
theorem dget_of {K : PySem.W.Frag} {M H : Hp} {p : Addr} {us : List (Key × V)} {kvs : List (Key × D)} {k : Key} (h : vw (H p) = some (.dK us)) (r : RepK K M kvs us) : ∃ o, DGet H p (kV k) o ∧ match lk kvs k with
    | some d => ∃ x, o = some x ∧ Rep K M d x
    | none => o = none := by
  refine ⟨valV us k, .inl ⟨us, k, rd_of_vw h, rfl, rfl⟩, ?_⟩
  exact RepK.val k r
theorem in_ok {K : PySem.W.Frag} {O : List Nat} {av : Addr → Prop} {H₀ H : Hp} {own : Nat → Option Addr} {ds : DSt} {σ : L2.St} {d1 d2 : D} {x y : V} {k : Bool} (R : Rel K O av H₀ own ds σ H) (r1 : RepLv K av own H 0 d1 x) (r2 : RepLv K av own H 0 d2 y) (e : opInB d1 d2 = some k) :
    (∃ p us, y = .ref p ∧ (SqL K H p us ∨ SqT K H p us) ∧ flatV x = true ∧ us.all flatV = true ∧ inV x us = k) ∨ ∃ a o, y = .ref a ∧ DGet H a x o ∧ o.isSome = k := by
  unfold opInB at e
  split at e
  · split at e
    · rename_i kvs kk hk
      cases e
      obtain ⟨h1, h2⟩ := kV_of hk
      obtain ⟨p, us, rfl, hp, rs⟩ := r2.dct0
      obtain ⟨o, g, lo⟩ := dget_of (k := kk) hp rs
      refine .inr ⟨p, o, rfl, by rw [r1.any.flat h2, h1]; exact g, ?_⟩
      split at lo
      · rename_i e1
        obtain ⟨x, e2, _⟩ := lo
        rw [e1, e2]; rfl
      · rename_i e1
        rw [e1, lo]; rfl
    · cases e
  · split at e
    · rename_i xs hz
      simp only [Bool.and_eq_true] at hz
      cases e
      obtain ⟨p, us, rfl, hp, rs⟩ := r2.tup0
      obtain ⟨i1, i2⟩ := inV_of hz.1 rs hz.2
      have ex := r1.any.flat hz.1
      exact .inl ⟨p, us, rfl, .inr hp.sq, by rw [ex]; exact fv_flat hz.1, i1, by rw [ex, i2]⟩
    · cases e
  · split at e
    · rename_i xs hz
      simp only [Bool.and_eq_true] at hz
      cases e
      obtain ⟨p, us, rfl, hp, rs⟩ := r2.lst0
      obtain ⟨i1, i2⟩ := inV_of hz.1 rs hz.2
      have ex := r1.any.flat hz.1
      exact .inl ⟨p, us, rfl, .inl (SqL.of hp), by rw [ex]; exact fv_flat hz.1, i1, by rw [ex, i2]⟩
    · cases e
  · cases e
theorem v_in : V2 X.K 0 0 2 opIn (fun x y H Q => rIn X.K false x y H Q ∨ rDIn false x y H Q) := by
  intro O av H₀ own ds σ H x y d1 d2 d Q R r1 r2 e q
  unfold opIn at e
  split at e
  · rename_i k hk
    cases e
    have q' := q _ H (Same.refl _) (RepLv.fl (d := .bl k) rfl)
    rcases in_ok R r1 r2 hk with ⟨p, us, rfl, h1, h2, h3, h4⟩ | ⟨p, o, rfl, h1, h2⟩
    · refine .inl ⟨p, us, rfl, h1, h2, h3, ?_⟩
      rw [if_neg Bool.false_ne_true, h4]
      exact q'
    · refine .inr ⟨p, o, rfl, h1, ?_⟩
      rw [if_neg Bool.false_ne_true, h2]
      exact q'
  · cases e
theorem v_nin : V2 X.K 0 0 2 opNotIn (fun x y H Q => rIn X.K true x y H Q ∨ rDIn true x y H Q) := by
  intro O av H₀ own ds σ H x y d1 d2 d Q R r1 r2 e q
  unfold opNotIn at e
  split at e
  · rename_i k hk
    cases e
    have q' := q _ H (Same.refl _) (RepLv.fl (d := .bl (!k)) rfl)
    rcases in_ok R r1 r2 hk with ⟨p, us, rfl, h1, h2, h3, h4⟩ | ⟨p, o, rfl, h1, h2⟩
    · refine .inl ⟨p, us, rfl, h1, h2, h3, ?_⟩
      rw [if_pos rfl, h4]
      exact q'
    · refine .inr ⟨p, o, rfl, h1, ?_⟩
      rw [if_pos rfl, h2]
      exact q'
  · cases e
theorem eIn (hu : X.A.units + 64 < cLine) (ha : EX X O W 0 a ta) (hb : EX X O W 0 b tb) (hm : behindInMarks .In b = false := by rfl) : EX X O W lv (.Compare a [.In] [b] pos) (d2 opIn ta tb) := eCm (op_in_seq.or (op_inDi hu)) v_in ha hb hm
theorem eNin (hu : X.A.units + 64 < cLine) (ha : EX X O W 0 a ta) (hb : EX X O W 0 b tb) (hm : behindInMarks .NotIn b = false := by rfl) : EX X O W lv (.Compare a [.NotIn] [b] pos) (d2 opNotIn ta tb) := eCm (op_notIn_seq.or (op_ninDi hu)) v_nin ha hb hm
theorem tIn (hu : X.A.units + 64 < cLine) (ha : EX X O W 0 a ta) (hb : EX X O W 0 b tb) (hm : behindInMarks .In b = false := by rfl) : TX X O W (.Compare a [.In] [b] pos) (dB (d2 opIn ta tb)) := tCm (op_in_seq.or (op_inDi hu)) v_in ha hb hm
theorem tNin (hu : X.A.units + 64 < cLine) (ha : EX X O W 0 a ta) (hb : EX X O W 0 b tb) (hm : behindInMarks .NotIn b = false := by rfl) : TX X O W (.Compare a [.NotIn] [b] pos) (dB (d2 opNotIn ta tb)) := tCm (op_notIn_seq.or (op_ninDi hu)) v_nin ha hb hm
/-! ### subscripts -/
def rIxD : R2 := fun x y H Q => ∃ a v, x = .ref a ∧ DGet H a y (some v) ∧ Q v H
theorem ix_dct (hu : X.A.units + 64 < cLine) : IxR X rIxD := by
  intro value slice pins s σ H x y v u Q I rx ry h hs
  obtain ⟨a, w, rfl, g, q⟩ := h
  obtain rfl : v = Value.ref a := rx
  refine PyProof.Rows.tail_any (dict_typeIs I g) PySem.F.slot_dict_getitem.lookup ?_ hs
  exact d_getItem (by omega) I g ry fun w' s3 I3 rw' => ⟨w, H, I3, rw', q⟩
theorem atI_reps {K : PySem.W.Frag} {M : Hp} {xs : List D} {us : List V} {i : Int} {d : D} (r : Reps K M xs us) (h : atI xs i = some d) : ∃ x, atI us i = some x ∧ Rep K M d x := by
  unfold atI at h ⊢
  rw [r.length]
  cases e : ixN xs.length i with
  | none => rw [e] at h; cases h
  | some j =>
    rw [e] at h
    exact r.get h
theorem v_ix : V2 X.K 1 0 2 opIx (fun x y H Q => (rIxL X.K x y H Q ∨ rIxT X.K x y H Q) ∨ rIxD x y H Q) := by
  intro O av H₀ own ds σ H x y d1 d2 d Q R r1 r2 e q
  unfold opIx at e
  split at e
  · split at e
    · rename_i h
      cases e
      obtain ⟨p, us, rfl, hp, rs⟩ := r1.lst
      obtain ⟨z, e1, e2⟩ := atI_reps rs h
      exact .inl (.inl ⟨p, us, _, z, rfl, r2.int, SqL.of hp, e1, q z H (Same.refl _) (RepLv.up e2)⟩)
    · cases e
  · split at e
    · rename_i h
      cases e
      obtain ⟨p, us, rfl, hp, rs⟩ := r1.tup
      obtain ⟨z, e1, e2⟩ := atI_reps rs h
      exact .inl (.inr ⟨p, us, _, z, rfl, r2.int, hp.sq, e1, q z H (Same.refl _) (RepLv.up e2)⟩)
    · cases e
  · rename_i ns i
    split at e
    · rename_i n h
      cases e
      obtain ⟨p, rfl, hp⟩ := r1.scr0
      refine .inl (.inl ⟨p, _, _, .int n, rfl, r2.int, hp, ?_, q _ H (Same.refl _) (RepLv.fl (d := .int n) rfl)⟩)
      unfold atI at h ⊢
      rw [List.length_map]
      cases e : ixN ns.length i with
      | none => rw [e] at h; cases h
      | some j =>
        rw [e] at h
        have h' : ns[j]? = some n := h
        show (ns.map V.int)[j]? = _
        rw [List.getElem?_map, h']
        rfl
    · cases e
  · split at e
    · rename_i kvs k kk hk
      split at e
      · rename_i w hw
        cases e
        obtain ⟨h1, h2⟩ := kV_of hk
        obtain ⟨p, us, rfl, hp, rs⟩ := r1.dct
        obtain ⟨o, g, lo⟩ := dget_of (k := kk) hp rs
        rw [hw] at lo
        obtain ⟨z, rfl, rz⟩ := lo
        exact .inr ⟨p, z, rfl, by rw [r2.any.flat h2, h1]; exact g, q z H (Same.refl _) (RepLv.up rz)⟩
      · cases e
    · cases e
  · cases e
theorem eIx (hu : X.A.units + 64 < cLine) (ha : EX X O W 1 a ta) (hb : EX X O W 0 b tb) (hs : PlainIx b := by exact fun _ _ => rfl) : EX X O W lv (.Subscript a b pos) (d2 opIx ta tb) :=
  EX.up (PE.imp (pe_ix ((ix_list.or ix_tup).or (ix_dct hu)) ha hb hs) fun σ H Q h => lift_d2 v_ix h)
/-! ### slices -/
def liftO (K : PySem.W.Frag) (mg : Str → Option Value) (O : List Nat) (W : WX) (t : DO) : TO := fun σ H Q =>
  ∃ av H₀ own ds, Rel K O av H₀ own ds σ H ∧ FinP mg W σ H (fun b => ∀ H', Same H H' → Q b H') (t ds)
def OX (X : Cx) (O : List Nat) (W : WX) (e : Option Expr) (t : DO) : Prop := PO X e (liftO X.K X.mg O W t)
theorem PO.imp {e : Option Expr} {t t' : TO} (h : PO X e t) (i : ∀ σ H Q, t' σ H Q → t σ H Q) : PO X e t' := ⟨fun pins s σ H Q I q => h.run pins s σ H Q I (i σ H Q q)⟩
theorem oN : OX X O W none doN := by
  refine PO.imp po_none fun σ H Q h => ?_
  obtain ⟨av, H₀, own, ds, R, m⟩ := h
  exact m H (Same.refl _)
theorem oS (ha : EX X O W 0 a ta) : OX X O W (some a) (doS ta) := by
  refine PO.imp (po_some ha) fun σ H Q h => ?_
  obtain ⟨av, H₀, own, ds, R, m⟩ := h
  refine ⟨av, H₀, own, ds, R, (FinP.bind m).later (Same.refl _) fun x1 m1 v H1 s1 r1 => ?_⟩
  cases x1 with
  | int i => exact ⟨i, r1.int, m1 H1 s1⟩
  | _ => exact m1.elim
theorem eSl {lo hi : Option Expr} {tl th : DO} {p2 : Pos} (ha : EX X O W 1 a ta) (hl : OX X O W lo tl) (hh : OX X O W hi th) : EX X O W lv (.Subscript a (.Slice lo hi none p2) pos) (dSl ta tl th) := by
  refine EX.up (PE.imp (pe_slice ((sl_list.or sl_tupA).or sl_str) ha hl hh) fun σ H Q h => ?_)
  obtain ⟨av, H₀, own, ds, R, m⟩ := h
  refine ⟨av, H₀, own, ds, R, (FinP.bind m).later (Same.refl _) fun x1 m1 v H1 s1 r1 => ?_⟩
  refine ⟨av, H₀, own, ds, R.same s1, (FinP.bind m1).later s1 fun l m2 H2 s2 => ?_⟩
  have s12 := s1.trans s2
  refine ⟨av, H₀, own, ds, R.same s12, (FinP.bind m2).later s12 fun u m3 H3 s3 => ?_⟩
  have s13 := s12.trans s3
  obtain ⟨d, e, q⟩ := m3.ofO
  have r3 : RepLv X.K av own H3 1 x1 v := r1.same (s2.trans s3)
  have R3 := R.same s13
  unfold opSl at e
  split at e
  · cases e
    obtain ⟨p, us, rfl, hp, rs⟩ := r3.lst
    exact .inl (.inl ⟨p, us, rfl, SqL.of hp, fun n hn => q _ _ (s13.trans (same_upd hn)) (R3.newL hn (rs.cutV l u))⟩)
  · cases e
    rename_i xs
    have z1 : Rep X.K (clean av own H3) (.tup xs) v := by
      rcases r3 with z | ⟨i, p, _, _, z⟩
      · exact z
      · simp only [OwnAt] at z
    obtain ⟨p, us, rfl, hp, rs⟩ := r3.tup
    refine .inl (.inr ⟨p, us, rfl, hp.sq, fun hw => ?_, fun _ n hn => q _ _ (s13.trans (same_upd hn)) (R3.newT hn (rs.cutV l u))⟩)
    have ec : cut xs l u = xs := by
      unfold cut
      rw [← rs.length, hw.1, hw.2, List.drop_zero, Nat.sub_zero, rs.length]
      exact List.take_length
    rw [ec] at q
    exact q _ H3 s13 (RepLv.up z1)
  · split at e
    · rename_i hz
      cases e
      exact .inr ⟨_, r3.str, by rw [sizeLine_eq]; exact hz, q _ H3 s13 (RepLv.fl (d := .str _) rfl)⟩
    · cases e
  · cases e
theorem eRev {k : Nat} {p1 p2 p3 : Pos} (ha : EX X O W 1 a ta) : EX X O W lv (.Subscript a (.Slice none none (some (.UnaryOp .USub (.Constant (.int 1) k p1) p2)) p3) pos) (d1 opRev ta) := by
  refine EX.up (PE.imp (pe_revL ha) fun σ H Q h => ?_)
  refine lift_d1 (f := opRev) (r := fun x H1 Q => ∃ a xs, x = .ref a ∧ SqL X.K H1 a xs ∧ ∀ p, H1 p = none → Q (.ref p) (upd H1 p (.lst xs.reverse))) (lv := 2) ?_ h
  intro O av H₀ own ds σ H x d1 d Q R r1 e q
  unfold opRev at e
  split at e
  · cases e
    obtain ⟨p, us, rfl, hp, rs⟩ := r1.lst
    exact ⟨p, us, rfl, SqL.of hp, fun n hn => q _ _ (same_upd hn) (R.newL hn rs.reverse)⟩
  · cases e
end
end DL
/-! DL5: calls of defs and of built-ins over plain data. -/
namespace DL
open PySem PySem.Spec L2
abbrev W0 : WX := fun _ _ _ _ => False
/-- what the rules ask of a place in the text -/
structure CT (X : Cx) (W : WX) (k : Nat) : Prop where
  hr : Room k X.A
  calm : X.calm = true
  ps : ∀ σ, PassesAt (L2.CX X.prog X.w) X σ (WE W σ)
  po : PassesOwn (model X.prog X.w) X.A X.env X.xe
  tk : Takes X W
theorem CT.hu {X : Cx} {W : WX} {k : Nat} (C : CT X W k) : X.A.units + 64 < cLine := C.hr.units
/-- within a comprehension nothing is raised -/
theorem CT.blk {X : Cx} {W : WX} {k : Nat} (C : CT X W k) (s : Shared) (H : Hp) (sc : Scope) (ce : Env) (fp : List Addr) : CT (X.blk s H sc ce fp) W0 k where
  hr := C.hr
  calm := C.calm
  ps := fun σ _ _ _ _ _ _ h => by
    obtain ⟨_, _, _, _, _, _, _, _, _, _, _, _, z⟩ := h
    exact z.elim
  po := PassesOwn.never
  tk := takes0
section
variable {X : Cx} {O : List Nat} {W : WX} {a b c e : Expr} {es : List Expr} {ta tb tc : DE} {t : DA} {p pos : Pos} {lv l1 l2 k n : Nat} {x : Str} {f : Addr} {fd : FuncData} {ps : List Str} {M : List D → Res D}
/-- a def as it is to be called -/
structure FD (X : Cx) (k : Nat) (x : Str) (ps : List Str) (M : List D → Res D) : Prop where
  ex : ∃ f fd, FnOk X.prog X.w X.K X.mg X.base (L2.CX X.prog X.w) k f fd ps (spD X.K X.mg M) ∧ X.mg x = some (.ref f) ∧ PySem.W.keepIn X.K (.ref f) = true ∧ Binds X.K fd ps []
theorem eCall (C : CT X W k) (F : FD X n x ps M) (ha : AX X O W 2 (e :: es) t) (hk : n ≤ k := by decide) (hg : Gl X x := by rfl) (hdb : (x == ("__debug__" : Str)) = false := by decide)
    (he : starEach (e :: es) X.env = (false, eval e X.env) :: starEach es X.env := by rfl) (hpl : (backTo pos (starEach es X.env)).any (·.1) = false := by rfl) :
    EX X O W lv (.Call (.Name x p) (e :: es) [] pos) (dCall M t) := by
  obtain ⟨f, fd, F, hm, hkp, hb⟩ := F.ex
  refine EX.up (PE.imp (pe_callS F (C.hr.mono hk) hg hm hkp hb C.ps ha hdb he hpl) fun σ H Q h => ?_)
  obtain ⟨av, H₀, own, ds, R, m⟩ := h
  refine ⟨av, H₀, own, ds, R, (FinP.bind m).later (Same.refl _) fun xs m1 vs H1 s1 r1 => ?_⟩
  have R1 := R.same s1
  have ec : ∀ G : Hp, clean (fun a => av a ∨ ∃ i, own i = some a) noOwn G = clean av own G := fun G => by
    funext a
    unfold clean
    by_cases q : av a ∨ ∃ i, own i = some a
    · rw [if_pos q, if_pos (.inl q)]
    · rw [if_neg q, if_neg]
      rintro (z | ⟨i, z⟩)
      · exact q z
      · cases z
  refine ⟨xs, fun a => av a ∨ ∃ i, own i = some a, ?_, ?_, ?_⟩
  · rintro a (z | ⟨i, z⟩)
    · exact R1.av0 a z
    · exact R1.live i a z
  · rw [ec]; exact r1.reps
  · cases em : M xs with
    | ok d =>
      rw [em] at m1
      intro v H2 s2 r2
      rw [ec] at r2
      exact m1 v H2 (s1.trans s2) (RepLv.up r2)
    | err er =>
      rw [em] at m1
      exact fun c dd H2 s2 z => m1 c dd H2 (s1.trans s2) z
    | stuck =>
      rw [em] at m1
      exact m1.elim
theorem eCall0 (C : CT X W k) (F : FD X n x ps M) (ha : AX X O W 0 (e :: es) t) (hk : n ≤ k := by decide) (hg : Gl X x := by rfl) (hdb : (x == ("__debug__" : Str)) = false := by decide)
    (he : starEach (e :: es) X.env = (false, eval e X.env) :: starEach es X.env := by rfl) (hpl : (backTo pos (starEach es X.env)).any (·.1) = false := by rfl) :
    EX X O W 0 (.Call (.Name x p) (e :: es) [] pos) (dCall M t) := by
  obtain ⟨f, fd, F, hm, hkp, hb⟩ := F.ex
  refine PE.imp (pe_callS F (C.hr.mono hk) hg hm hkp hb C.ps ha hdb he hpl) fun σ H Q h => ?_
  obtain ⟨av, H₀, own, ds, R, m⟩ := h
  refine ⟨av, H₀, own, ds, R, (FinP.bind m).later (Same.refl _) fun xs m1 vs H1 s1 r1 => ?_⟩
  have R1 := R.same s1
  refine ⟨xs, av, R1.av0, r1.reps0 R1, ?_⟩
  · cases em : M xs with
    | ok d =>
      rw [em] at m1
      exact fun v H2 s2 r2 => m1 v H2 (s1.trans s2) r2
    | err er =>
      rw [em] at m1
      exact fun c dd H2 s2 z => m1 c dd H2 (s1.trans s2) z
    | stuck =>
      rw [em] at m1
      exact m1.elim
/-- lent arguments, a flat answer -/
theorem eCallF (C : CT X W k) (F : FD X n x ps M) (ha : AX X O W 0 (e :: es) t) (hk : n ≤ k := by decide) (hg : Gl X x := by rfl) (hdb : (x == ("__debug__" : Str)) = false := by decide)
    (he : starEach (e :: es) X.env = (false, eval e X.env) :: starEach es X.env := by rfl) (hpl : (backTo pos (starEach es X.env)).any (·.1) = false := by rfl) :
    EX X O W lv (.Call (.Name x p) (e :: es) [] pos) (dCallF M t) := by
  have h0 : EX X O W 0 (.Call (.Name x p) (e :: es) [] pos) (dCall M t) := eCall0 C F ha hk hg hdb he hpl
  refine EX.up (PE.imp h0 fun σ H Q h => ?_)
  obtain ⟨av, H₀, own, ds, R, m⟩ := h
  refine ⟨av, H₀, own, ds, R, ?_⟩
  unfold dCallF at m
  unfold dCall
  cases e1 : t ds with
  | ok xs =>
    rw [e1] at m
    have m : FinP X.mg W σ H _ ((M xs).bind fun d => if d.flat = true then .ok d else .stuck) := m
    show FinP X.mg W σ H _ (M xs)
    refine (FinP.bind m).later (Same.refl _) fun d md v H2 s2 r2 => ?_
    split at md
    · rename_i hf
      have ev := r2.any.flat hf
      rw [ev]
      exact md _ H2 s2 (RepLv.fl hf)
    · exact md.elim
  | err er => rw [e1] at m; exact m
  | stuck => rw [e1] at m; exact m
/-! ### built-ins of one argument -/
theorem CallR.or {f : Value} {r r' : List V → Hp → VK → Prop} (h : CallR X f r) (h' : CallR X f r') : CallR X f (fun xs H Q => r xs H Q ∨ r' xs H Q) := by
  intro pins s σ H xs us Q I rs q
  rcases q with q | q
  · exact h pins s σ H xs us Q I rs q
  · exact h' pins s σ H xs us Q I rs q
theorem eB1 {id : String} {r : List V → Hp → VK → Prop} {g : D → Option D} (hc : CallR X (.builtin id) r) (hv : V1 X.K l1 2 g fun x H Q => r [x] H Q) (hm : X.mg x = none) (hv' : bootBuiltins x = some (.builtin id)) (ha : EX X O W l1 a ta)
    (hg : Gl X x := by rfl) (hn : x ≠ "__name__" := by decide) (hdb : (x == ("__debug__" : Str)) = false := by decide)
    (he : starEach (a :: []) X.env = (false, eval a X.env) :: starEach [] X.env := by rfl) (hpl : (backTo pos (starEach [] X.env)).any (·.1) = false := by rfl) : EX X O W lv (.Call (.Name x p) [a] [] pos) (d1 g ta) :=
  EX.up (PE.imp (pe_callB hc hg hm hv' (pa_cons ha pa_nil he) hn hdb he hpl) fun σ H Q h => lift_d1 hv h)
theorem eT1 {id : String} {r : List V → Hp → VK → Prop} {g : D → Option D} (hc : CallR X (.type id) r) (hv : V1 X.K l1 2 g fun x H Q => r [x] H Q) (hm : X.mg x = none) (hv' : bootBuiltins x = some (.type id)) (ha : EX X O W l1 a ta)
    (hg : Gl X x := by rfl) (hn : x ≠ "__name__" := by decide) (hdb : (x == ("__debug__" : Str)) = false := by decide)
    (he : starEach (a :: []) X.env = (false, eval a X.env) :: starEach [] X.env := by rfl) (hpl : (backTo pos (starEach [] X.env)).any (·.1) = false := by rfl) : EX X O W lv (.Call (.Name x p) [a] [] pos) (d1 g ta) :=
  EX.up (PE.imp (pe_callTy hc hg hm hv' (pa_cons ha pa_nil he) hn hdb he hpl) fun σ H Q h => lift_d1 hv h)
theorem call_lenDi : CallR X (.builtin "len") (fun xs H Q => ∃ a kvs, xs = [V.ref a] ∧ vw (H a) = some (.dK kvs) ∧ Q (.int kvs.length) H) := by
  intro pins s σ H xs us Q I r h
  obtain ⟨a, kvs, rfl, ha, q⟩ := h
  obtain ⟨u, rfl, r1⟩ := vals1 r
  obtain rfl : u = Value.ref a := r1
  exact d_len I (rd_of_vw ha) fun t s' I' => ⟨.int kvs.length, H, I', ⟨t, rfl⟩, q⟩
theorem eLen (hm : X.mg "len" = none) (ha : EX X O W 0 a ta) (hg : Gl X "len" := by rfl) (he : starEach (a :: []) X.env = (false, eval a X.env) :: starEach [] X.env := by rfl) (hpl : (backTo pos (starEach [] X.env)).any (·.1) = false := by rfl) :
    EX X O W lv (.Call (.Name "len" p) [a] [] pos) (d1 fLen ta) := by
  refine eB1 (call_len.or call_lenDi) ?_ hm boot_len ha hg (by decide) (by decide) he hpl
  intro O av H₀ own ds σ H x d1 d Q R r1 e q
  unfold fLen at e
  split at e
  · split at e
    · rename_i hz
      cases e
      exact .inl ⟨_, _, rfl, by rw [r1.str]; exact ⟨by rw [sizeLine_eq]; exact hz, rfl⟩, q _ H (Same.refl _) (RepLv.fl (d := .int _) rfl)⟩
    · cases e
  · cases e
    obtain ⟨p, us, rfl, hp, rs⟩ := r1.lst0
    exact .inl ⟨_, us.length, rfl, .inl ⟨us, SqL.of hp, rfl⟩, by rw [rs.length]; exact q _ H (Same.refl _) (RepLv.fl (d := .int _) rfl)⟩
  · cases e
    obtain ⟨p, us, rfl, hp, rs⟩ := r1.tup0
    exact .inl ⟨_, us.length, rfl, .inr ⟨us, hp.sq, rfl⟩, by rw [rs.length]; exact q _ H (Same.refl _) (RepLv.fl (d := .int _) rfl)⟩
  · cases e
    obtain ⟨p, rfl, hp⟩ := r1.scr0
    exact .inl ⟨_, _, rfl, .inl ⟨_, hp, rfl⟩, by rw [List.length_map]; exact q _ H (Same.refl _) (RepLv.fl (d := .int _) rfl)⟩
  · cases e
    obtain ⟨p, us, rfl, hp, rs⟩ := r1.dct0
    exact .inr ⟨p, us, rfl, hp, by rw [rs.length]; exact q _ H (Same.refl _) (RepLv.fl (d := .int _) rfl)⟩
  · cases e
theorem eStr (hm : X.mg "str" = none) (ha : EX X O W 0 a ta) (hg : Gl X "str" := by rfl) (he : starEach (a :: []) X.env = (false, eval a X.env) :: starEach [] X.env := by rfl) (hpl : (backTo pos (starEach [] X.env)).any (·.1) = false := by rfl) :
    EX X O W lv (.Call (.Name "str" p) [a] [] pos) (d1 fStr ta) := by
  refine eT1 (call_str_int.or SkE.call_str_str) ?_ hm PyProof.Rows.boot_str ha hg (by decide) (by decide) he hpl
  intro O av H₀ own ds σ H x d1 d Q R r1 e q
  unfold fStr at e
  split at e
  · split at e
    · rename_i hz
      cases e
      exact .inl ⟨_, by rw [r1.int], hz, q _ H (Same.refl _) (RepLv.fl (d := .str _) rfl)⟩
    · cases e
  · cases e
    exact .inr ⟨_, by rw [r1.str], q _ H (Same.refl _) (RepLv.fl (d := .str _) rfl)⟩
  · cases e
theorem eInt (hm : X.mg "int" = none) (ha : EX X O W 0 a ta) (hg : Gl X "int" := by rfl) (he : starEach (a :: []) X.env = (false, eval a X.env) :: starEach [] X.env := by rfl) (hpl : (backTo pos (starEach [] X.env)).any (·.1) = false := by rfl) :
    EX X O W lv (.Call (.Name "int" p) [a] [] pos) (d1 fInt ta) := by
  refine eT1 (call_int1.or call_int_str) ?_ hm PyProof.Rows.boot_int ha hg (by decide) (by decide) he hpl
  intro O av H₀ own ds σ H x d1 d Q R r1 e q
  unfold fInt at e
  split at e
  · cases e
    exact .inl (.inl ⟨_, by rw [r1.int], q _ H (Same.refl _) (RepLv.fl (d := .int _) rfl)⟩)
  · cases e
    exact .inl (.inr ⟨_, by rw [r1.bl], q _ H (Same.refl _) (RepLv.fl (d := .int _) rfl)⟩)
  · split at e
    · rename_i n hn
      split at e
      · rename_i hz
        cases e
        exact .inr ⟨_, n, by rw [r1.str], hn, hz, q _ H (Same.refl _) (RepLv.fl (d := .int _) rfl)⟩
      · cases e
    · cases e
  · cases e
theorem eAbs (hm : X.mg "abs" = none) (ha : EX X O W 0 a ta) (hg : Gl X "abs" := by rfl) (he : starEach (a :: []) X.env = (false, eval a X.env) :: starEach [] X.env := by rfl) (hpl : (backTo pos (starEach [] X.env)).any (·.1) = false := by rfl) :
    EX X O W lv (.Call (.Name "abs" p) [a] [] pos) (d1 fAbs ta) := by
  refine eB1 call_abs ?_ hm PyProof.Rows.boot_abs ha hg (by decide) (by decide) he hpl
  intro O av H₀ own ds σ H x d1 d Q R r1 e q
  unfold fAbs at e
  split at e
  · cases e
    exact ⟨_, by rw [r1.int], q _ H (Same.refl _) (RepLv.fl (d := .int _) rfl)⟩
  · cases e
theorem eOrd (hm : X.mg "ord" = none) (ha : EX X O W 0 a ta) (hg : Gl X "ord" := by rfl) (he : starEach (a :: []) X.env = (false, eval a X.env) :: starEach [] X.env := by rfl) (hpl : (backTo pos (starEach [] X.env)).any (·.1) = false := by rfl) :
    EX X O W lv (.Call (.Name "ord" p) [a] [] pos) (d1 fOrd ta) := by
  refine eB1 call_ord ?_ hm PyProof.Rows.boot_ord ha hg (by decide) (by decide) he hpl
  intro O av H₀ own ds σ H x d1 d Q R r1 e q
  unfold fOrd at e
  split at e
  · split at e
    · rename_i hz
      cases e
      exact ⟨_, by rw [r1.str], hz, q _ H (Same.refl _) (RepLv.fl (d := .int _) rfl)⟩
    · cases e
  · cases e
theorem ints_reps {K : PySem.W.Frag} {M : Hp} : ∀ {xs : List D} {us : List V} {ns : List Int}, Reps K M xs us → intsOf xs = some ns → us = ns.map V.int
  | [], _, _, h, e => by simp only [Reps] at h; subst h; cases e; rfl
  | d :: xs, _, ns, h, e => by
    simp only [Reps] at h
    obtain ⟨x, r, rfl, h1, h2⟩ := h
    cases d <;> simp only [intsOf] at e <;> first | cases e | skip
    obtain ⟨ms, e1, rfl⟩ := Option.map_eq_some_iff.mp e
    simp only [Rep] at h1
    subst h1
    rw [ints_reps h2 e1]
    rfl
theorem bools_reps {K : PySem.W.Frag} {M : Hp} : ∀ {xs : List D} {us : List V} {ns : List Bool}, Reps K M xs us → boolsOf xs = some ns → us = ns.map V.bl
  | [], _, _, h, e => by simp only [Reps] at h; subst h; cases e; rfl
  | d :: xs, _, ns, h, e => by
    simp only [Reps] at h
    obtain ⟨x, r, rfl, h1, h2⟩ := h
    cases d <;> simp only [boolsOf] at e <;> first | cases e | skip
    obtain ⟨ms, e1, rfl⟩ := Option.map_eq_some_iff.mp e
    simp only [Rep] at h1
    subst h1
    rw [bools_reps h2 e1]
    rfl
theorem strs_reps {K : PySem.W.Frag} {M : Hp} : ∀ {xs : List D} {us : List V} {ns : List Str}, Reps K M xs us → strsOf xs = some ns → us = ns.map V.str
  | [], _, _, h, e => by simp only [Reps] at h; subst h; cases e; rfl
  | d :: xs, _, ns, h, e => by
    simp only [Reps] at h
    obtain ⟨x, r, rfl, h1, h2⟩ := h
    cases d <;> simp only [strsOf] at e <;> first | cases e | skip
    obtain ⟨ms, e1, rfl⟩ := Option.map_eq_some_iff.mp e
    simp only [Rep] at h1
    subst h1
    rw [strs_reps h2 e1]
    rfl
theorem eSum (hc : X.calm = true) (hm : X.mg "sum" = none) (ha : EX X O W 0 a ta) (hg : Gl X "sum" := by rfl) (he : starEach (a :: []) X.env = (false, eval a X.env) :: starEach [] X.env := by rfl) (hpl : (backTo pos (starEach [] X.env)).any (·.1) = false := by rfl) :
    EX X O W lv (.Call (.Name "sum" p) [a] [] pos) (d1 fSum ta) := by
  refine eB1 (cr_sum hc) ?_ hm PyProof.Rows.boot_sum ha hg (by decide) (by decide) he hpl
  intro O av H₀ own ds σ H x d1 d Q R r1 e q
  unfold fSum at e
  split at e
  · split at e
    · rename_i ns hn
      cases e
      obtain ⟨p, us, rfl, hp, rs⟩ := r1.lst0
      exact ⟨p, ns, rfl, by rw [← ints_reps rs hn]; exact SqL.of hp, q _ H (Same.refl _) (RepLv.fl (d := .int _) rfl)⟩
    · cases e
  · cases e
theorem eAll (hc : X.calm = true) (hm : X.mg "all" = none) (ha : EX X O W 0 a ta) (hg : Gl X "all" := by rfl) (he : starEach (a :: []) X.env = (false, eval a X.env) :: starEach [] X.env := by rfl) (hpl : (backTo pos (starEach [] X.env)).any (·.1) = false := by rfl) :
    EX X O W lv (.Call (.Name "all" p) [a] [] pos) (d1 fAll ta) := by
  refine eB1 (cr_all hc) ?_ hm PyProof.Rows.boot_all ha hg (by decide) (by decide) he hpl
  intro O av H₀ own ds σ H x d1 d Q R r1 e q
  unfold fAll at e
  split at e
  · split at e
    · rename_i ns hn
      cases e
      obtain ⟨p, us, rfl, hp, rs⟩ := r1.lst0
      exact ⟨p, ns, rfl, by rw [← bools_reps rs hn]; exact SqL.of hp, q _ H (Same.refl _) (RepLv.fl (d := .bl _) rfl)⟩
    · cases e
  · cases e
theorem eAny (hc : X.calm = true) (hm : X.mg "any" = none) (ha : EX X O W 0 a ta) (hg : Gl X "any" := by rfl) (he : starEach (a :: []) X.env = (false, eval a X.env) :: starEach [] X.env := by rfl) (hpl : (backTo pos (starEach [] X.env)).any (·.1) = false := by rfl) :
    EX X O W lv (.Call (.Name "any" p) [a] [] pos) (d1 fAny ta) := by
  refine eB1 (cr_any hc) ?_ hm PyProof.Rows.boot_any ha hg (by decide) (by decide) he hpl
  intro O av H₀ own ds σ H x d1 d Q R r1 e q
  unfold fAny at e
  split at e
  · split at e
    · rename_i ns hn
      cases e
      obtain ⟨p, us, rfl, hp, rs⟩ := r1.lst0
      exact ⟨p, ns, rfl, by rw [← bools_reps rs hn]; exact SqL.of hp, q _ H (Same.refl _) (RepLv.fl (d := .bl _) rfl)⟩
    · cases e
  · cases e
theorem eList (hm : X.mg "list" = none) (ha : EX X O W 1 a ta) (hg : Gl X "list" := by rfl) (he : starEach (a :: []) X.env = (false, eval a X.env) :: starEach [] X.env := by rfl) (hpl : (backTo pos (starEach [] X.env)).any (·.1) = false := by rfl) :
    EX X O W lv (.Call (.Name "list" p) [a] [] pos) (d1 fList ta) := by
  refine eT1 call_list_of ?_ hm PyProof.Rows.boot_list ha hg (by decide) (by decide) he hpl
  intro O av H₀ own ds σ H x d1 d Q R r1 e q
  unfold fList at e
  split at e
  · cases e
    obtain ⟨p, us, rfl, hp, rs⟩ := r1.lst
    exact ⟨p, us, rfl, .inl (SqL.of hp), fun n hn => q _ _ (same_upd hn) (R.newL hn rs)⟩
  · cases e
    obtain ⟨p, us, rfl, hp, rs⟩ := r1.tup
    exact ⟨p, us, rfl, .inr hp.sq, fun n hn => q _ _ (same_upd hn) (R.newL hn rs)⟩
  · cases e
theorem eTuple (hm : X.mg "tuple" = none) (ha : EX X O W 1 a ta) (hg : Gl X "tuple" := by rfl) (he : starEach (a :: []) X.env = (false, eval a X.env) :: starEach [] X.env := by rfl) (hpl : (backTo pos (starEach [] X.env)).any (·.1) = false := by rfl) :
    EX X O W lv (.Call (.Name "tuple" p) [a] [] pos) (d1 fTup ta) := by
  refine eT1 call_tuple_of ?_ hm PyProof.Rows.boot_tuple ha hg (by decide) (by decide) he hpl
  intro O av H₀ own ds σ H x d1 d Q R r1 e q
  unfold fTup at e
  split at e
  · cases e
    obtain ⟨p, us, rfl, hp, rs⟩ := r1.lst
    exact ⟨p, us, rfl, .inl ⟨SqL.of hp, fun n hn => q _ _ (same_upd hn) (R.newT hn rs)⟩⟩
  · cases e
    rename_i xs
    have z1 : Rep X.K (clean av own H) (.tup xs) x := by
      rcases r1 with z | ⟨i, p, _, _, z⟩
      · exact z
      · simp only [OwnAt] at z
    obtain ⟨p, us, rfl, hp, rs⟩ := r1.tup
    exact ⟨p, us, rfl, .inr ⟨hp.sq, q _ H (Same.refl _) (RepLv.up z1)⟩⟩
  · cases e
theorem call_dictCopy : CallR X (.type "dict") (fun xs H Q => ∃ a kvs, xs = [V.ref a] ∧ vw (H a) = some (.dK kvs) ∧ ∀ p, H p = none → Q (.ref p) (upd H p (.dK kvs))) := by
  intro pins s σ H xs us Q I r h
  obtain ⟨a, kvs, rfl, ha, q⟩ := h
  obtain ⟨u, rfl, r1⟩ := vals1 r
  obtain rfl : u = Value.ref a := r1
  exact d_copyOf I (rd_of_vw ha) fun n s' hn I' => ⟨.ref n, _, I', rfl, q n hn⟩
theorem pairs_reps {K : PySem.W.Frag} {M : Hp} : ∀ {xs : List D} {us : List V} {kvs : List (Key × D)}, Reps K M xs us → pairsOf xs = some kvs → ∃ (as : List Addr) (ks : List (Key × V)), us = as.map V.ref ∧ RepK K M kvs ks ∧ Paired (fun p kv => TAt K M p [kV kv.1, kv.2]) as ks
  | [], _, _, h, e => by simp only [Reps] at h; subst h; cases e; exact ⟨[], [], rfl, RepK.nil, .nil⟩
  | d :: xs, _, kvs, h, e => by
    simp only [Reps] at h
    obtain ⟨x, r, rfl, h1, h2⟩ := h
    unfold pairsOf at e
    split at e
    · rename_i heq
      cases heq
    · rename_i k v xs' heq
      obtain ⟨rfl, rfl⟩ := List.cons.inj heq
      split at e
      · rename_i kk hk
        obtain ⟨kvs', e1, rfl⟩ := Option.map_eq_some_iff.mp e
        obtain ⟨as, ks, rfl, r2, r3⟩ := pairs_reps h2 e1
        simp only [Rep] at h1
        obtain ⟨p, vs, rfl, hp, rs⟩ := h1
        simp only [Reps] at rs
        obtain ⟨y1, t1, rfl, q1, y2, t2, rfl, q2, rfl⟩ := rs
        obtain ⟨h3, h4⟩ := kV_of hk
        have e4 := q1.flat h4
        rw [h3] at e4
        subst e4
        exact ⟨p :: as, (kk, y2) :: ks, rfl, RepK.cons q2 r2, .cons hp r3⟩
      · cases e
    · cases e
theorem Paired.imp2 {α β : Type} {F G : α → β → Prop} (i : ∀ a b, F a b → G a b) : ∀ {l₁ : List α} {l₂ : List β}, Paired F l₁ l₂ → Paired G l₁ l₂
  | _, _, .nil => .nil
  | _, _, .cons r t => .cons (i _ _ r) (Paired.imp2 i t)
theorem eDict (hc : X.calm = true) (hm : X.mg "dict" = none) (ha : EX X O W 1 a ta) (hg : Gl X "dict" := by rfl) (he : starEach (a :: []) X.env = (false, eval a X.env) :: starEach [] X.env := by rfl) (hpl : (backTo pos (starEach [] X.env)).any (·.1) = false := by rfl) :
    EX X O W lv (.Call (.Name "dict" p) [a] [] pos) (d1 fDict ta) := by
  refine eT1 (call_dictCopy.or (call_dictP hc)) ?_ hm PyProof.Rows.boot_dict ha hg (by decide) (by decide) he hpl
  intro O av H₀ own ds σ H x d1 d Q R r1 e q
  unfold fDict at e
  split at e
  · cases e
    obtain ⟨p, us, rfl, hp, rs⟩ := r1.dct
    exact .inl ⟨p, us, rfl, hp, fun n hn => q _ _ (same_upd hn) (R.newD hn rs)⟩
  · split at e
    · rename_i kvs hk
      cases e
      obtain ⟨p, us, rfl, hp, rs⟩ := r1.lst
      obtain ⟨as, ks, rfl, r2, r3⟩ := pairs_reps rs hk
      exact .inr ⟨p, as, ks, rfl, SqL.of hp, Paired.imp2 (fun _ _ z => (z.sub clean_le).sq) r3, fun n hn => q _ _ (same_upd hn) (R.newD hn (RepK.merge r2 RepK.nil))⟩
    · cases e
  · cases e
/-! ### isinstance -/
def tyN : D → String
  | .non => "NoneType" | .bl _ => "bool" | .int _ => "int" | .str _ => "str" | .tup _ => "tuple" | .lst _ => "list" | .dct _ => "dict" | .scr _ => "list"
theorem tyx_of {K : PySem.W.Frag} {av : Addr → Prop} {own : Nat → Option Addr} {H : Hp} {d : D} {v : V} (r : RepLv K av own H lv d v) : TyX K H v (.type (tyN d)) := by
  cases d with
  | non => rw [r.non]; exact .base .non
  | bl b => rw [r.bl]; exact .base (.bl b)
  | int b => rw [r.int]; exact .base (.int b)
  | str b => rw [r.str]; exact .base (.str b)
  | tup b =>
    obtain ⟨p, us, e, t, _⟩ := r.tup0
    rw [e]
    rcases t with t | ⟨o, its, n, h1, h2, _⟩
    · exact .base (.tup t)
    · exact .kTuple h1 h2
  | lst b => obtain ⟨p, us, e, t, _⟩ := r.lst0; rw [e]; exact .base (.lst t)
  | dct b =>
    obtain ⟨p, us, e, t, _⟩ := r.dct0
    rw [e]
    rcases rd_of_vw t with t | ⟨o, t⟩
    · exact .base (.dK t)
    · exact .fDict t
  | scr b =>
    obtain ⟨p, e, t⟩ := r.scr0
    rw [e]
    rcases t with (t | ⟨o, t⟩) | ⟨o, its, n, h1, h2, _⟩
    · exact .base (.lst t)
    · exact .base (.frz t)
    · exact .kList h1 h2
theorem eIsi {T : Str} {c : V} {u : Value} {g : D → Option D} {p2 : Pos} (hT : PE X (.Name T p2) (tC c)) (hcv : ClsV c u) (hgb : ∀ d r, g d = some r → ∃ b, r = .bl b ∧ PySem.W.kitOne X.K (.type (tyN d)) u = some b) (hm : X.mg "isinstance" = none) (ha : EX X O W 0 a ta) (hg : Gl X "isinstance" := by rfl)
    (he : starEach (a :: [.Name T p2]) X.env = (false, eval a X.env) :: starEach [.Name T p2] X.env := by rfl) (he2 : starEach [.Name T p2] X.env = (false, eval (.Name T p2) X.env) :: starEach [] X.env := by rfl) (hpl : (backTo pos (starEach [.Name T p2] X.env)).any (·.1) = false := by rfl) :
    EX X O W lv (.Call (.Name "isinstance" p) [a, .Name T p2] [] pos) (d1 g ta) := by
  refine EX.up (PE.imp (pe_callB call_isi hg hm PyProof.Rows.boot_isinstance (pa_cons ha (pa_cons hT pa_nil he2) he) (by decide) (by decide) he hpl) fun σ H Q h => ?_)
  refine lift_d1 (f := g) (r := fun x H1 Q => rIsi X.K [x, c] H1 Q) (lv := 2) ?_ h
  intro O av H₀ own ds σ H x d1 d Q R r1 e q
  obtain ⟨b, rfl, hb⟩ := hgb _ _ e
  exact ⟨x, c, _, u, b, rfl, hcv, tyx_of r1, hb, q _ H (Same.refl _) (RepLv.fl (d := .bl b) rfl)⟩
theorem isi_ty {T : String} {g : D → Option D} (h : ∀ d, ∃ b, g d = some (.bl b) ∧ kitB (tyN d) T = some b) : ∀ d r, g d = some r → ∃ b, r = .bl b ∧ PySem.W.kitOne X.K (.type (tyN d)) (.type T) = some b := fun d r e => by
  obtain ⟨b, e1, e2⟩ := h d
  rw [e1] at e
  cases e
  exact ⟨b, rfl, kit_ty e2⟩
theorem is_int (d : D) : ∃ b, fIsInt d = some (.bl b) ∧ kitB (tyN d) "int" = some b := by cases d <;> refine ⟨_, rfl, ?_⟩ <;> simp only [tyN] <;> decide +kernel
theorem is_bool (d : D) : ∃ b, fIsBool d = some (.bl b) ∧ kitB (tyN d) "bool" = some b := by cases d <;> refine ⟨_, rfl, ?_⟩ <;> simp only [tyN] <;> decide +kernel
theorem is_str (d : D) : ∃ b, fIsStr d = some (.bl b) ∧ kitB (tyN d) "str" = some b := by cases d <;> refine ⟨_, rfl, ?_⟩ <;> simp only [tyN] <;> decide +kernel
theorem is_tup (d : D) : ∃ b, fIsTup d = some (.bl b) ∧ kitB (tyN d) "tuple" = some b := by cases d <;> refine ⟨_, rfl, ?_⟩ <;> simp only [tyN] <;> decide +kernel
theorem is_lst (d : D) : ∃ b, fIsLst d = some (.bl b) ∧ kitB (tyN d) "list" = some b := by cases d <;> refine ⟨_, rfl, ?_⟩ <;> simp only [tyN] <;> decide +kernel
theorem is_dct (d : D) : ∃ b, fIsDct d = some (.bl b) ∧ kitB (tyN d) "dict" = some b := by cases d <;> refine ⟨_, rfl, ?_⟩ <;> simp only [tyN] <;> decide +kernel
end
end DL
/-! DL6: what is walked; comprehensions. -/
namespace DL
open PySem PySem.Spec L2
open Classical in
/-- the heap without one's own -/
noncomputable def nonOwn (own : Nat → Option Addr) (H : Hp) : Hp := fun b => if ∃ i, own i = some b then none else H b
section
variable {K : PySem.W.Frag} {O : List Nat} {av av' : Addr → Prop} {H₀ H H' H1 : Hp} {own own' : Nat → Option Addr} {ds ds' : DSt} {σ σ' : L2.St}
theorem nonOwn_some {b : Addr} {o : HO} (h : nonOwn own H b = some o) : (∀ i, own i ≠ some b) ∧ H b = some o := by
  unfold nonOwn at h
  split at h
  · cases h
  · rename_i q
    exact ⟨fun i z => q ⟨i, z⟩, h⟩
theorem nonOwn_of {b : Addr} {o : HO} (h : ∀ i, own i ≠ some b) (e : H b = some o) : nonOwn own H b = some o := by
  unfold nonOwn
  rw [if_neg (fun ⟨i, z⟩ => h i z)]
  exact e
theorem nonOwn_own {b : Addr} {i : Nat} (h : own i = some b) : nonOwn own H b = none := by
  unfold nonOwn
  rw [if_pos ⟨i, h⟩]
theorem Rel.rebase (R : Rel K O av H₀ own ds σ H) : Rel K O av (nonOwn own H) own ds σ H :=
  { R with base := fun b o h => (nonOwn_some h).2, fresh := fun i p h => nonOwn_own h }
theorem Rel.unbase (R0 : Rel K O av H₀ own ds σ H) (R : Rel K O av (nonOwn own H) own' ds' σ' H') : Rel K O av H₀ own' ds' σ' H' :=
  have h0 : ∀ b o, H₀ b = some o → nonOwn own H b = some o := fun b o e => nonOwn_of (fun i z => by have := R0.fresh i b z; rw [e] at this; cases this) (R0.base b o e)
  { R with
    base := fun b o e => R.base b o (h0 b o e)
    fresh := fun i p e => by
      cases q : H₀ p with
      | none => rfl
      | some o =>
        have := R.fresh i p e
        rw [h0 p o q] at this
        cases this }
theorem vw_ex {o : Option HO} {u : HO} (h : vw o = some u) : ∃ o', o = some o' := by
  cases o with
  | none => cases h
  | some o => exact ⟨o, rfl⟩
/-- what is clean stays so -/
theorem Rel.keep (R : Rel K O av (nonOwn own H) own' ds' σ' H') : Sub (clean av own H) (clean av own' H') := fun b u h => by
  obtain ⟨h1, h2, h3⟩ := clean_get h
  obtain ⟨o, e⟩ := vw_ex h3
  have e1 := nonOwn_of h2 e
  rw [clean_some h1 (fun i z => by have := R.fresh i b z; rw [e1] at this; cases this), R.base b o e1, ← e]
  exact h3
/-- xs are given, one at each turn, as long as what B tells stands -/
structure Gives (K : PySem.W.Frag) (M0 B : Hp) (xs : List D) (J : It) : Prop where
  ex : ∃ G Y, Walk J xs.length G Y ∧ ∀ (av' : Addr → Prop) (own' : Nat → Option Addr) (H : Hp), Same B H → Sub M0 (clean av' own' H) → (∀ i p, own' i = some p → H p ≠ none) → (∀ a, av' a → H a ≠ none) →
    G H ∧ ∀ i x H', i < xs.length → Y i H x H' → Same H H' ∧ ∃ d, xs[i]? = some d ∧ Rep K (clean av' own' H') d x
theorem gives_list {M0 B : Hp} {a : Addr} {us : List V} {xs : List D} (h : B a = some (.lst us)) (r : Reps K M0 xs us) : Gives K M0 B xs (Itl K a) := by
  refine ⟨fun H => SqL K H a us, YAt us, ?_, ?_⟩
  · rw [← r.length]; exact walk_list
  · intro av' own' H sb sm _ _
    refine ⟨SqL.of (sb a _ h), fun i x H' hi y => ?_⟩
    obtain ⟨rfl, y⟩ := y
    obtain ⟨d, e, q⟩ := r.get' y
    exact ⟨Same.refl _, d, e, q.sub sm _ _⟩
theorem gives_tup {M0 B : Hp} {a : Addr} {us : List V} {xs : List D} (h : TAt K B a us) (r : Reps K M0 xs us) : Gives K M0 B xs (Itt K a) := by
  refine ⟨fun H => SqT K H a us, YAt us, ?_, ?_⟩
  · rw [← r.length]; exact walk_tup
  · intro av' own' H sb sm _ _
    refine ⟨(h.sub (Sub.of sb)).sq, fun i x H' hi y => ?_⟩
    obtain ⟨rfl, y⟩ := y
    obtain ⟨d, e, q⟩ := r.get' y
    exact ⟨Same.refl _, d, e, q.sub sm _ _⟩
theorem gives_str {M0 B : Hp} {z : Str} : Gives K M0 B (z.cps.toList.map fun c => .str ⟨#[c]⟩) (Its z) := by
  refine ⟨fun _ => True, fun i H v H' => H' = H ∧ ∃ c, z.cps[i]? = some c ∧ v = .str ⟨#[c]⟩, ?_, ?_⟩
  · have e : (z.cps.toList.map fun c => D.str ⟨#[c]⟩).length = z.cps.size := by simp
    rw [e]; exact walk_str
  · intro av' own' H sb sm _ _
    refine ⟨True.intro, fun i x H' hi y => ?_⟩
    obtain ⟨rfl, c, e, rfl⟩ := y
    refine ⟨Same.refl _, .str ⟨#[c]⟩, by simp [e], ?_⟩
    simp only [Rep]
theorem rg_at {lo c : Int} {n i : Nat} (hi : i < (rg lo n c).length) : (rg lo n c)[i]? = some (.int (lo + (i : Int) * c)) := by
  have h : i < n := by simpa [rg] using hi
  simp [rg, h]
theorem gives_range {M0 B : Hp} {lo : Int} {n : Nat} : Gives K M0 B (rg lo n 1) (Itr lo n) := by
  refine ⟨fun _ => True, YFn fun i => .int (lo + i), ?_, ?_⟩
  · have e : (rg lo n 1).length = n := by simp [rg]
    rw [e]; exact walk_range
  · intro av' own' H sb sm _ _
    refine ⟨True.intro, fun i x H' hi y => ?_⟩
    obtain ⟨rfl, rfl⟩ := y
    refine ⟨Same.refl _, _, rg_at hi, ?_⟩
    simp only [Rep, Int.mul_one]
theorem gives_rangeC {M0 B : Hp} {lo c : Int} {n : Nat} : Gives K M0 B (rg lo n c) (Itc lo c n) := by
  refine ⟨fun _ => True, YFn fun i => .int (lo + (i : Nat) * c), ?_, ?_⟩
  · have e : (rg lo n c).length = n := by simp [rg]
    rw [e]; exact walk_rangeC
  · intro av' own' H sb sm _ _
    refine ⟨True.intro, fun i x H' hi y => ?_⟩
    obtain ⟨rfl, rfl⟩ := y
    refine ⟨Same.refl _, _, rg_at hi, ?_⟩
    simp only [Rep]
/-- a new pair -/
theorem rep_pair {own' : Nat → Option Addr} {av' : Addr → Prop} {T : Addr} {x y : V} {d e : D} (hT : H T = none) (ho : ∀ i p, own' i = some p → H p ≠ none) (ha : ∀ a, av' a → H a ≠ none) (r1 : Rep K (clean av' own' H) d x) (r2 : Rep K (clean av' own' H) e y) :
    Rep K (clean av' own' (upd H T (.tup [x, y]))) (.tup [d, e]) (.ref T) := by
  have s := clean_sub (av := av') (own := own') (Sub.of (same_upd (o := .tup [x, y]) hT))
  simp only [Rep]
  refine ⟨T, [x, y], rfl, .inl ?_, Reps.cons (r1.sub s _ _) (Reps.one (r2.sub s _ _))⟩
  rw [clean_some (fun z => ha T z hT) (fun i z => ho i T z hT), upd_same]
theorem gives_pair {M0 B : Hp} {J : It} {n : Nat} {xs ys : Nat → Option V} {es : List D} (w : Walk J n (fun _ => True) (YPair xs ys)) (hn : es.length = n)
    (h : ∀ (M : Hp), Sub M0 M → ∀ i x y, i < n → xs i = some x → ys i = some y → ∃ d e, es[i]? = some (.tup [d, e]) ∧ Rep K M d x ∧ Rep K M e y) : Gives K M0 B es J := by
  refine ⟨_, _, by rw [hn]; exact w, ?_⟩
  intro av' own' H sb sm ho ha
  refine ⟨True.intro, fun i x H' hi y => ?_⟩
  obtain ⟨T, x1, y1, rfl, hT, rfl, e1, e2⟩ := y
  obtain ⟨d, e, q1, q2, q3⟩ := h _ sm i x1 y1 (by omega) e1 e2
  exact ⟨same_upd hT, _, q1, rep_pair hT ho ha q2 q3⟩
theorem gives_keys {M0 B : Hp} {d : Addr} {o : Obj} {ks : List (Key × V)} {kvs : List (Key × D)} (h : B d = some (.frz o (.dK ks))) (r : RepK K M0 kvs ks) : Gives K M0 B (kvs.map fun kv => ofKey kv.1) (Itk d o ks) := by
  refine ⟨_, _, by rw [List.length_map, ← r.length]; exact walk_keys, ?_⟩
  intro av' own' H sb sm ho ha
  refine ⟨sb d _ h, fun i x H' hi y => ?_⟩
  obtain ⟨rfl, k, v, e, rfl⟩ := y
  obtain ⟨dd, e1, q⟩ := r.get' e
  refine ⟨Same.refl _, ofKey k, by simp [e1], ?_⟩
  cases k <;> simp only [ofKey, Rep] <;> rfl
theorem gives_vals {M0 B : Hp} {d : Addr} {o : Obj} {ks : List (Key × V)} {kvs : List (Key × D)} (h : B d = some (.frz o (.dK ks))) (r : RepK K M0 kvs ks) : Gives K M0 B (kvs.map fun kv => kv.2) (Itd d o ks) := by
  refine ⟨_, _, by rw [List.length_map, ← r.length]; exact walk_values, ?_⟩
  intro av' own' H sb sm ho ha
  refine ⟨sb d _ h, fun i x H' hi y => ?_⟩
  obtain ⟨rfl, k, e⟩ := y
  obtain ⟨dd, e1, q⟩ := r.get' e
  exact ⟨Same.refl _, dd, by simp [e1], q.sub sm _ _⟩
theorem gives_items {M0 B : Hp} {d : Addr} {o : Obj} {ks : List (Key × V)} {kvs : List (Key × D)} (h : B d = some (.frz o (.dK ks))) (r : RepK K M0 kvs ks) : Gives K M0 B (kvs.map pairD) (Iti d o ks) := by
  refine ⟨_, _, by rw [List.length_map, ← r.length]; exact walk_items, ?_⟩
  intro av' own' H sb sm ho ha
  refine ⟨sb d _ h, fun i x H' hi y => ?_⟩
  obtain ⟨T, x1, y1, rfl, hT, rfl, e1, e2⟩ := y
  have hi' : i < ks.length := by rw [r.length]; simpa using hi
  have e0 : ks[i]? = some ks[i] := by simp [hi']
  simp only [e0, Option.map_some, Option.some.injEq] at e1 e2
  subst e1
  subst e2
  obtain ⟨dd, e3, q⟩ := r.get' (k := ks[i].1) (x := ks[i].2) e0
  refine ⟨same_upd hT, .tup [ofKey ks[i].1, dd], by simp [e3, pairD], rep_pair hT ho ha ?_ (q.sub sm _ _)⟩
  cases ks[i].1 <;> simp only [ofKey, Rep] <;> rfl
end
/-! ### readings of what is walked -/
/-- c: nothing of one's own changes meanwhile -/
noncomputable def baseC (c : Bool) (own : Nat → Option Addr) (H : Hp) : Hp := if c = true then H else nonOwn own H
def liftI (K : PySem.W.Frag) (mg : Str → Option Value) (O : List Nat) (W : WX) (c : Bool) (t : DI) : TI := fun σ H R =>
  ∃ av H₀ own ds, Rel K O av H₀ own ds σ H ∧ FinP mg W σ H (fun xs => ∀ J H1, Same H H1 → Gives K (clean av own H1) (baseC c own H1) xs J → R J H1) (t ds)
def IX (X : Cx) (O : List Nat) (W : WX) (c : Bool) (tg e : Expr) (t : DI) : Prop := PI X tg e (liftI X.K X.mg O W c t)
section
variable {X : Cx} {O : List Nat} {W : WX} {tg a b c e : Expr} {ta tb tc : DE} {pos : Pos} {cc : Bool}
theorem PI.imp {t t' : TI} (h : PI X tg e t) (i : ∀ σ H R, t' σ H R → t σ H R) : PI X tg e t' := ⟨fun pins s σ H R I q => h.run pins s σ H R I (i σ H R q)⟩
theorem PI.or {t t' : TI} (h : PI X tg e t) (h' : PI X tg e t') : PI X tg e (fun σ H R => t σ H R ∨ t' σ H R) := ⟨fun pins s σ H R I q => by
  rcases q with q | q
  · exact h.run pins s σ H R I q
  · exact h'.run pins s σ H R I q⟩
theorem base_clean {own : Nat → Option Addr} {av : Addr → Prop} {H : Hp} : Sub (clean av own H) (baseC cc own H) := fun b u h => by
  obtain ⟨h1, h2, h3⟩ := clean_get h
  unfold baseC
  split
  · exact h3
  · obtain ⟨o, e⟩ := vw_ex h3
    rw [nonOwn_of h2 e, ← e]
    exact h3
theorem iL (h : EX X O W 2 e ta) : IX X O W cc tg e (diL ta) := by
  refine PI.imp (PI.or (pi_list h) (pi_tup h)) fun σ H R hq => ?_
  obtain ⟨av, H₀, own, ds, Rl, m⟩ := hq
  unfold diL at m
  cases ea : ta ds with
  | ok d =>
    rw [ea] at m
    cases d with
    | lst xs =>
      refine .inl ⟨av, H₀, own, ds, Rl, ?_⟩
      rw [ea]
      intro v H1 s1 r1
      have r1 : Rep X.K (clean av own H1) (.lst xs) v := r1
      simp only [Rep] at r1
      obtain ⟨p, us, rfl, hp, rs⟩ := r1
      have hb : baseC cc own H1 p = some (.lst us) := vw_lst (base_clean p _ (by rw [hp]; rfl))
      exact ⟨p, rfl, ⟨us, SqL.of (vw_lst (clean_le p _ (by rw [hp]; rfl)))⟩, m _ H1 s1 (gives_list hb rs)⟩
    | tup xs =>
      refine .inr ⟨av, H₀, own, ds, Rl, ?_⟩
      rw [ea]
      intro v H1 s1 r1
      have r1 : Rep X.K (clean av own H1) (.tup xs) v := r1
      simp only [Rep] at r1
      obtain ⟨p, us, rfl, hp, rs⟩ := r1
      exact ⟨p, rfl, ⟨us, (hp.sub clean_le).sq⟩, m _ H1 s1 (gives_tup (hp.sub base_clean) rs)⟩
    | _ => exact m.elim
  | err er =>
    rw [ea] at m
    refine .inl ⟨av, H₀, own, ds, Rl, ?_⟩
    rw [ea]
    exact m
  | stuck =>
    rw [ea] at m
    exact m.elim
/-- one's own list, in a comprehension -/
theorem iLo (h : EX X O W 1 e ta) : IX X O W true tg e (diL ta) := by
  refine PI.imp (PI.or (pi_list h) (pi_tup h)) fun σ H R hq => ?_
  obtain ⟨av, H₀, own, ds, Rl, m⟩ := hq
  unfold diL at m
  cases ea : ta ds with
  | ok d =>
    rw [ea] at m
    cases d with
    | lst xs =>
      refine .inl ⟨av, H₀, own, ds, Rl, ?_⟩
      rw [ea]
      intro v H1 s1 r1
      obtain ⟨p, us, rfl, hp, rs⟩ := RepLv.lst r1
      exact ⟨p, rfl, ⟨us, SqL.of hp⟩, m _ H1 s1 (gives_list hp rs)⟩
    | tup xs =>
      refine .inr ⟨av, H₀, own, ds, Rl, ?_⟩
      rw [ea]
      intro v H1 s1 r1
      obtain ⟨p, us, rfl, hp, rs⟩ := RepLv.tup r1
      exact ⟨p, rfl, ⟨us, hp.sq⟩, m _ H1 s1 (gives_tup hp rs)⟩
    | _ => exact m.elim
  | err er =>
    rw [ea] at m
    refine .inl ⟨av, H₀, own, ds, Rl, ?_⟩
    rw [ea]
    exact m
  | stuck =>
    rw [ea] at m
    exact m.elim
theorem iS (h : EX X O W 0 e ta) : IX X O W cc tg e (diStr ta) := by
  refine PI.imp (pi_str h) fun σ H R hq => ?_
  obtain ⟨av, H₀, own, ds, Rl, m⟩ := hq
  refine ⟨av, H₀, own, ds, Rl, (FinP.bind m).later (Same.refl _) fun d md v H1 s1 r1 => ?_⟩
  cases d with
  | str z => exact ⟨z, r1.str, md _ H1 s1 gives_str⟩
  | _ => exact md.elim
theorem RepLvs.one {K : PySem.W.Frag} {av : Addr → Prop} {own : Nat → Option Addr} {H : Hp} {lv : Nat} {d : D} {us : List V} (h : RepLvs K av own H lv [d] us) : ∃ v, us = [v] ∧ RepLv K av own H lv d v := by
  simp only [RepLvs] at h
  obtain ⟨x, r, rfl, h1, rfl⟩ := h
  exact ⟨x, rfl, h1⟩
theorem RepLvs.two {K : PySem.W.Frag} {av : Addr → Prop} {own : Nat → Option Addr} {H : Hp} {lv : Nat} {d d2 : D} {us : List V} (h : RepLvs K av own H lv [d, d2] us) : ∃ v w, us = [v, w] ∧ RepLv K av own H lv d v ∧ RepLv K av own H lv d2 w := by
  simp only [RepLvs] at h
  obtain ⟨x, r, rfl, h1, y, r2, rfl, h2, rfl⟩ := h
  exact ⟨x, y, rfl, h1, h2⟩
/-- what two readings in a row are as one of arguments -/
theorem lift_a1 {K : PySem.W.Frag} {mg : Str → Option Value} {lv : Nat} {σ : L2.St} {H : Hp} {Q : List V → Hp → Prop} {P : D → Prop}
    (h : ∃ av H₀ own ds, Rel K O av H₀ own ds σ H ∧ FinP mg W σ H P (ta ds) ∧ ∀ d, P d → ∀ v H1, Same H H1 → Rel K O av H₀ own ds σ H1 → RepLv K av own H1 lv d v → Q [v] H1) : liftA K mg O W lv (daC ta daN) σ H Q := by
  obtain ⟨av, H₀, own, ds, R, m, q⟩ := h
  refine ⟨av, H₀, own, ds, R, ?_⟩
  unfold daC
  cases ea : ta ds with
  | ok d =>
    rw [ea] at m
    intro us H1 s1 r1
    obtain ⟨v, rfl, r⟩ := RepLvs.one r1
    exact q d m v H1 s1 (R.same s1) r
  | err er => rw [ea] at m; exact m
  | stuck => rw [ea] at m; exact m
theorem lift_a2 {K : PySem.W.Frag} {mg : Str → Option Value} {lv : Nat} {σ : L2.St} {H : Hp} {Q : List V → Hp → Prop} {P : D → D → Prop}
    (h : ∃ av H₀ own ds, Rel K O av H₀ own ds σ H ∧ FinP mg W σ H (fun d => FinP mg W σ H (P d) (tb ds)) (ta ds) ∧ ∀ d e, P d e → ∀ v w H1, Same H H1 → Rel K O av H₀ own ds σ H1 → RepLv K av own H1 lv d v → RepLv K av own H1 lv e w → Q [v, w] H1) : liftA K mg O W lv (daC ta (daC tb daN)) σ H Q := by
  obtain ⟨av, H₀, own, ds, R, m, q⟩ := h
  refine ⟨av, H₀, own, ds, R, ?_⟩
  unfold daC
  cases ea : ta ds with
  | ok d =>
    rw [ea] at m
    show FinP mg W σ H _ (((tb ds).bind fun x => Res.ok [x]).bind fun xs => Res.ok (d :: xs))
    have m : FinP mg W σ H (P d) (tb ds) := m
    cases eb : tb ds with
    | ok d2 =>
      rw [eb] at m
      intro us H1 s1 r1
      obtain ⟨v, w, rfl, r, r2⟩ := RepLvs.two r1
      exact q d d2 m v w H1 s1 (R.same s1) r r2
    | err er => rw [eb] at m; exact m
    | stuck => rw [eb] at m; exact m
  | err er => rw [ea] at m; exact m
  | stuck => rw [ea] at m; exact m
theorem iR1 {p : Pos} (hm : X.mg "range" = none) (ha : EX X O W 0 a ta) (hg : Gl X "range" := by rfl) (hs : starEach [a] X.env = [(false, eval a X.env)] := by rfl) : IX X O W cc tg (.Call (.Name "range" p) [a] [] pos) (diR1 ta) := by
  refine PI.imp (pi_range1 hg hm (aC ha aN hs) hs) fun σ H R hq => ?_
  obtain ⟨av, H₀, own, ds, Rl, m⟩ := hq
  refine lift_a1 ⟨av, H₀, own, ds, Rl, FinP.bind m, fun d md v H1 s1 R1 r1 => ?_⟩
  cases d with
  | int j =>
    simp only at md
    split at md
    · rename_i hj
      simp only [smallB, Bool.and_eq_true, decide_eq_true_eq] at hj
      exact ⟨j, by rw [r1.int], hj.1, hj.2, md _ H1 s1 gives_range⟩
    · exact md.elim
  | _ => exact md.elim
theorem iR2 {p : Pos} (hm : X.mg "range" = none) (ha : EX X O W 0 a ta) (hb : EX X O W 0 b tb) (hg : Gl X "range" := by rfl) (hs : starEach [a, b] X.env = [(false, eval a X.env), (false, eval b X.env)] := by rfl) (hs2 : starEach [b] X.env = [(false, eval b X.env)] := by rfl) : IX X O W cc tg (.Call (.Name "range" p) [a, b] [] pos) (diR2 ta tb) := by
  refine PI.imp (pi_range2 hg hm (aC ha (aC hb aN hs2) (by rw [hs, hs2])) hs hs2) fun σ H R hq => ?_
  obtain ⟨av, H₀, own, ds, Rl, m⟩ := hq
  refine lift_a2 ⟨av, H₀, own, ds, Rl, (FinP.bind m).later (Same.refl _) fun d md => FinP.bind md, fun d e md v w H1 s1 R1 r1 r2 => ?_⟩
  split at md
  · rename_i i j
    split at md
    · rename_i hj
      simp only [smallB, Bool.and_eq_true, decide_eq_true_eq] at hj
      exact ⟨i, j, by rw [r1.int, r2.int], ⟨hj.1.1, hj.1.2, hj.2.1, hj.2.2⟩, md _ H1 s1 gives_range⟩
    · exact md.elim
  · exact md.elim
theorem iR3 {p : Pos} (hm : X.mg "range" = none) (ha : EX X O W 0 a ta) (hb : EX X O W 0 b tb) (hc : EX X O W 0 c tc) (hg : Gl X "range" := by rfl) (h3 : starEach [a, b, c] X.env = (false, eval a X.env) :: starEach [b, c] X.env := by rfl)
    (h2 : starEach [b, c] X.env = (false, eval b X.env) :: starEach [c] X.env := by rfl) (h1 : starEach [c] X.env = (false, eval c X.env) :: starEach [] X.env := by rfl) (hpl : (backTo pos (starEach [b, c] X.env)).any (·.1) = false := by rfl) : IX X O W cc tg (.Call (.Name "range" p) [a, b, c] [] pos) (diR3 ta tb tc) := by
  refine PI.imp (pi_range3 hg hm (aC ha (aC hb (aC hc aN h1) h2) h3) h3 hpl) fun σ H R hq => ?_
  obtain ⟨av, H₀, own, ds, Rl, m⟩ := hq
  refine ⟨av, H₀, own, ds, Rl, (FinP.bind m).later (Same.refl _) fun xs md vs H1 s1 r1 => ?_⟩
  split at md
  · rename_i i j k
    split at md
    · rename_i hj
      obtain ⟨c0, c1, c2, c3⟩ := hj
      simp only [RepLvs] at r1
      obtain ⟨x, r, rfl, q1, y, r2, rfl, q2, z, r3, rfl, q3, rfl⟩ := r1
      exact ⟨i, j, k, _, by rw [q1.int, q2.int, q3.int], ⟨c0, c1, c2, by omega⟩, md _ H1 s1 gives_rangeC⟩
    · exact md.elim
  · exact md.elim
/-! ### targets -/
def liftG (K : PySem.W.Frag) (O : List Nat) (is : List Nat) (g : DG) : TG := fun v σ H Q =>
  ∃ av H₀ own ds d ds', Rel K O av H₀ own ds σ H ∧ Rep K (clean av own H) d v ∧ g d ds = .ok ds' ∧ ∀ σ', Rel K O av H₀ own ds' σ' H → (∀ vs, (∀ i ∈ is, i ∈ vs) → wipe σ' vs = wipe σ vs) → Q σ' H
def GX (X : Cx) (O : List Nat) (is : List Nat) (tg : Expr) (g : DG) : Prop := PG X tg (liftG X.K O is g)
theorem Rel.set {K : PySem.W.Frag} {av : Addr → Prop} {H₀ H : Hp} {own : Nat → Option Addr} {ds : DSt} {σ : L2.St} {i : Nat} {d : D} {v : V} (R : Rel K O av H₀ own ds σ H) (hi : i ∉ O) (r : Rep K (clean av own H) d v) : Rel K O av H₀ own (ds.set i (some d)) (σ.set i (some v)) H :=
  { R with
    len := by rw [List.length_set, List.length_set]; exact R.len
    val := fun j e hj h => by
      by_cases q : i = j
      · subst q
        rw [List.getElem?_set] at h ⊢
        rw [if_pos rfl] at h ⊢
        split at h
        · rename_i hl
          rw [if_pos (by rw [R.len]; exact hl)]
          cases h
          exact ⟨v, rfl, r⟩
        · cases h
      · rw [List.getElem?_set_ne q] at h
        rw [List.getElem?_set_ne q]
        exact R.val j e hj h
    ownv := fun j e hj h => by
      have q : i ≠ j := fun z => hi (z ▸ hj)
      rw [List.getElem?_set_ne q] at h
      rw [List.getElem?_set_ne q]
      exact R.ownv j e hj h }
theorem wipe_set {σ : L2.St} {i : Nat} {v : Option V} : ∀ {vs : List Nat}, i ∈ vs → wipe (σ.set i v) vs = wipe σ vs
  | [], h => by cases h
  | w :: vs, h => by
    unfold wipe
    by_cases q : i ∈ vs
    · rw [wipe_set q]
    · have e : i = w := by simpa [q] using h
      subst e
      have z : ∀ (us : List Nat), i ∉ us → wipe (σ.set i v) us = (wipe σ us).set i v := by
        intro us
        induction us with
        | nil => intro _; rfl
        | cons u us ih =>
          intro hn
          have h1 : i ≠ u := fun z => hn (by simp [z])
          have h2 : i ∉ us := fun z => hn (by simp [z])
          unfold wipe
          rw [ih h2, List.set_comm _ _ h1]
      rw [z vs q, List.set_set]
theorem gxN (i : Nat) {x : Str} (hN : X.N.Nodup) (hi : i ∉ O := by decide) (hx : X.N[i]? = some x := by rfl) (hl : Loc X.env.scope x := by first | exact Or.inl rfl | exact Or.inr rfl) (hf : X.fn x = true ∨ X.env.scope.names.lookup x = some .local := by first | exact .inl rfl | exact .inr rfl) : GX X O [i] (.Name x pos) (gN i) := by
  refine ⟨fun pins s σ H v u Q I r h => (pg_name hN hx hl hf).run pins s σ H v u Q I r ?_⟩
  obtain ⟨av, H₀, own, ds, d, ds', R, rr, e, q⟩ := h
  cases e
  exact q _ (R.set hi rr) fun vs hv => wipe_set (hv i (by simp))
theorem setAll_ok {K : PySem.W.Frag} {av : Addr → Prop} {H₀ H : Hp} {own : Nat → Option Addr} : ∀ {is : List Nat} {es : List D} {xs : List V} {ds ds' : DSt} {σ : L2.St}, Rel K O av H₀ own ds σ H → (∀ i ∈ is, i ∉ O) → Reps K (clean av own H) es xs → setAll is es ds = .ok ds' →
    ∃ σ', Rel K O av H₀ own ds' σ' H ∧ (∀ vs, (∀ i ∈ is, i ∈ vs) → wipe σ' vs = wipe σ vs) ∧ xs.length = is.length ∧ σ' = (is.zip xs).foldl (fun s p => s.set p.1 (some p.2)) σ
  | [], [], xs, ds, ds', σ, R, _, rs, e => by
    simp only [Reps] at rs
    subst rs
    cases e
    exact ⟨σ, R, fun _ _ => rfl, rfl, rfl⟩
  | i :: is, d :: es, xs, ds, ds', σ, R, ho, rs, e => by
    simp only [Reps] at rs
    obtain ⟨x, r, rfl, h1, h2⟩ := rs
    obtain ⟨σ', R', hw, hl, hs⟩ := setAll_ok (R.set (ho i (by simp)) h1) (fun j hj => ho j (by simp [hj])) h2 e
    refine ⟨σ', R', fun vs hv => ?_, by simp [hl], hs⟩
    rw [hw vs fun j hj => hv j (by simp [hj]), wipe_set (hv i (by simp))]
  | [], _ :: _, _, _, _, _, _, _, _, e => by cases e
  | _ :: _, [], _, _, _, _, _, _, _, e => by cases e
/-- several names -/
def setsV (is : List Nat) (vs : List V) (σ : L2.St) : L2.St := (is.zip vs).foldl (fun s p => s.set p.1 (some p.2)) σ
def TN (X : Cx) (es : List Expr) (is : List Nat) : Prop := PGs X es (fun vs σ H Q => vs.length = is.length ∧ Q (setsV is vs σ) H)
theorem tnN : TN X [] [] := by
  refine ⟨fun pins s σ H vs us Q I r h => pgs_nil.run pins s σ H vs us Q I r ?_⟩
  exact ⟨List.eq_nil_of_length_eq_zero h.1, by have := h.2; simpa [setsV] using this⟩
theorem tnC (i : Nat) {x : Str} {p : Pos} {es : List Expr} {is : List Nat} (hN : X.N.Nodup) (h : TN X es is) (hx : X.N[i]? = some x := by rfl) (hl : Loc X.env.scope x := by first | exact Or.inl rfl | exact Or.inr rfl) (hf : X.fn x = true ∨ X.env.scope.names.lookup x = some .local := by first | exact .inl rfl | exact .inr rfl)
    (hs : (assignEach (.Name x p :: es) X.env).map (·.2) = assign (.Name x p) X.env :: (assignEach es X.env).map (·.2) := by rfl) : TN X (.Name x p :: es) (i :: is) := by
  refine ⟨fun pins s σ H vs us Q I r q => (pgs_cons (pg_name hN hx hl hf) h hs).run pins s σ H vs us Q I r ?_⟩
  obtain ⟨q1, q2⟩ := q
  cases vs with
  | nil => cases q1
  | cons v vs => exact ⟨v, vs, rfl, by simpa using q1, q2⟩
theorem gxT {is : List Nat} {es : List Expr} {k : Nat} (hc : X.calm = true) (h : TN X es is) (ho : ∀ i ∈ is, i ∉ O := by decide) (hn : (assignEach es X.env).length = is.length := by rfl) (hst : (assignEach es X.env).findIdx? (·.1) = none := by rfl) : GX X O is (.Tuple es k pos) (gT is) := by
  refine ⟨fun pins s σ H v u Q I r q => (pg_tup hc h hn hst).run pins s σ H v u Q I r ?_⟩
  obtain ⟨av, H₀, own, ds, d, ds', R, rr, e, q⟩ := q
  unfold gT at e
  split at e
  · simp only [Rep] at rr
    obtain ⟨a, xs, rfl, ht, rs⟩ := rr
    obtain ⟨σ', R', hw, hl, hs⟩ := setAll_ok R ho rs e
    refine ⟨a, xs, rfl, (ht.sub clean_le).sq, hl, hl, ?_⟩
    have hs : σ' = setsV is xs σ := hs
    rw [← hs]
    exact q σ' R' hw
  · cases e
/-! ### comprehensions -/
section
variable {K : PySem.W.Frag} {av av' : Addr → Prop} {H₀ H H' H1 : Hp} {own own' : Nat → Option Addr} {ds ds' : DSt} {σ σ' : L2.St} {L : Addr}
theorem clean_inner (hD : H1 L = none) (s : Same H1 H) : Sub (clean av own H1) (clean (fun a => av a ∨ a = L) own H) := fun b u h => by
  obtain ⟨h1, h2, h3⟩ := clean_get h
  obtain ⟨o, e⟩ := vw_ex h3
  rw [clean_some (fun z => z.elim h1 fun z => by rw [z, hD] at e; cases e) h2, s b o e, ← e]
  exact h3
theorem clean_outer : Sub (clean (fun a => av a ∨ a = L) own H) (clean av own H) := fun b u h => by
  obtain ⟨h1, h2, h3⟩ := clean_get h
  rw [clean_some (fun z => h1 (.inl z)) h2]
  exact h3
theorem Rel.inner (R : Rel K O av H₀ own ds σ H1) (hD : H1 L = none) (s : Same H1 H) (hl : H L ≠ none) : Rel K O (fun a => av a ∨ a = L) H₀ own ds σ H where
  len := R.len
  base := R.base.trans s
  av0 := fun a z => z.elim (fun z => same_ne s (R.av0 a z)) fun z => z ▸ hl
  avo := fun i p e z => z.elim (R.avo i p e) fun z => R.live i p e (z ▸ hD)
  dom := R.dom
  fresh := R.fresh
  live := fun i p e => same_ne s (R.live i p e)
  inj := R.inj
  val := fun i d hi e => by
    obtain ⟨v, e1, e2⟩ := R.val i d hi e
    exact ⟨v, e1, e2.sub (clean_inner hD s) _ _⟩
  ownv := fun i d hi e => by
    obtain ⟨p, e1, e2, e3⟩ := R.ownv i d hi e
    exact ⟨p, e1, e2, e3.sub (clean_inner hD s) (s p)⟩
theorem dwipe_some {i : Nat} {d : D} : ∀ {vs : List Nat}, (dwipe ds vs)[i]? = some (some d) → ds[i]? = some (some d) ∧ i ∉ vs
  | [], h => ⟨h, by simp⟩
  | v :: vs, h => by
    unfold dwipe at h
    by_cases q : v = i
    · subst q
      rw [List.getElem?_set] at h
      rw [if_pos rfl] at h
      split at h <;> cases h
    · rw [List.getElem?_set_ne q] at h
      obtain ⟨h1, h2⟩ := dwipe_some h
      exact ⟨h1, by simp [h2, Ne.symm q]⟩
theorem dwipe_length : ∀ (vs : List Nat), (dwipe ds vs).length = ds.length
  | [] => rfl
  | v :: vs => by unfold dwipe; rw [List.length_set, dwipe_length vs]
theorem Rel.wipe (R : Rel K O av H₀ own ds σ H) (vs : List Nat) : Rel K O av H₀ own (dwipe ds vs) (L2.wipe σ vs) H :=
  { R with
    len := by rw [wipe_length, dwipe_length]; exact R.len
    val := fun i d hi e => by
      obtain ⟨e1, e2⟩ := dwipe_some e
      rw [wipe_out e2]
      exact R.val i d hi e1
    ownv := fun i d hi e => by
      obtain ⟨e1, e2⟩ := dwipe_some e
      rw [wipe_out e2]
      exact R.ownv i d hi e1 }
end
theorem wipe_in {σ : L2.St} {i : Nat} : ∀ {vs : List Nat}, i ∈ vs → (wipe σ vs)[i]? = if i < σ.length then some none else none
  | [], h => by cases h
  | v :: vs, h => by
    unfold wipe
    rw [List.getElem?_set, wipe_length]
    by_cases q : v = i
    · rw [if_pos q, q]
    · rw [if_neg q]
      have : i ∈ vs := by
        rcases List.mem_cons.mp h with z | z
        · exact absurd z.symm q
        · exact z
      exact wipe_in this
theorem wipe_wipe (σ : L2.St) (vs : List Nat) : wipe (wipe σ vs) vs = wipe σ vs := by
  refine List.ext_getElem? fun i => ?_
  by_cases q : i ∈ vs
  · rw [wipe_in q, wipe_in q, wipe_length]
  · rw [wipe_out q]
section
variable {scope : Scope} {own : List (Str × Nat)} {ifs : List Expr} {is : List Nat} {g : DG} {it : DI} {tt : DT} {te tk tv : DE} {lv : Nat} {elt kx vx : Expr}
/-- a comprehension's tests -/
def QX (X : Cx) (O : List Nat) (W : WX) (ifs : List Expr) (t : DT) : Prop := PTs X ifs (liftT X.K X.mg O W t)
theorem q0 : QX X O W [] tT := ⟨fun pins s σ H Q I h => pts_nil.run pins s σ H Q I (by
  obtain ⟨av, H₀, own, ds, R, m⟩ := h
  exact m H (Same.refl _))⟩
theorem q1 {u : DT} (h : TX X O W c u) : QX X O W [c] u := pts_one h
theorem lcL_ok (s : DSt) : ∀ {d : D} {xs : List D} {r : List D}, lcL g tt te s (d :: xs) = .ok r → ∃ s1 b, g d s = .ok s1 ∧ tt s1 = .ok b ∧ ((b = true ∧ ∃ x r', te s1 = .ok x ∧ lcL g tt te s xs = .ok r' ∧ r = x :: r') ∨ (b = false ∧ lcL g tt te s xs = .ok r)) := by
  intro d xs r h
  unfold lcL at h
  cases e1 : g d s with
  | ok s1 =>
    rw [e1] at h
    have h : (tt s1).bind _ = _ := h
    cases e2 : tt s1 with
    | ok b =>
      rw [e2] at h
      refine ⟨s1, b, rfl, e2, ?_⟩
      cases b with
      | true =>
        have h : (te s1).bind _ = _ := h
        cases e3 : te s1 with
        | ok x =>
          rw [e3] at h
          have h : (lcL g tt te s xs).bind _ = _ := h
          cases e4 : lcL g tt te s xs with
          | ok r' =>
            rw [e4] at h
            cases h
            exact .inl ⟨rfl, x, r', rfl, rfl, rfl⟩
          | err er => rw [e4] at h; cases h
          | stuck => rw [e4] at h; cases h
        | err er => rw [e3] at h; cases h
        | stuck => rw [e3] at h; cases h
      | false => exact .inr ⟨rfl, h⟩
    | err er => rw [e2] at h; cases h
    | stuck => rw [e2] at h; cases h
  | err er => rw [e1] at h; cases h
  | stuck => rw [e1] at h; cases h
theorem nE_ok {α : Type} {mg : Str → Option Value} {σ : L2.St} {H : Hp} {P : α → Prop} {x : Res α} (h : FinP mg W σ H P (nE x)) : ∃ a, x = .ok a ∧ P a := by
  cases x with
  | ok a => exact ⟨a, rfl, h⟩
  | err e => exact h.elim
  | stuck => exact h.elim
/-- what a comprehension needs of the block -/
theorem lc_lift {K : PySem.W.Frag} {mg : Str → Option Value} {vs : List Nat} (hiv : ∀ i ∈ is, i ∈ vs) {σ : L2.St} {H : Hp} {Q : VK} (h : liftE K mg O W lv (dLc it vs g tt te) σ H Q) :
    tLc (liftI K mg O W true it) (liftG K O is g) (liftT K mg O W0 tt) (liftE K mg O W0 2 te) vs σ H Q := by
  obtain ⟨av, H₀, own, ds, R, m⟩ := h
  refine ⟨av, H₀, own, ds, R, (FinP.bind m).later (Same.refl _) fun xs m1 J H1 s1 gv Dd hD => ?_⟩
  split at m1
  · rename_i hz
    obtain ⟨r, er, m2⟩ := nE_ok (FinP.bind m1)
    have R1 := R.same s1
    obtain ⟨G, Y, w, gy⟩ := gv.ex
    have gy := fun av' own' H => gy av' own' H
    let Pv : Nat → Hp → Prop := fun i H => Same H1 H ∧ ∃ acc ads r2, H Dd = some (.lst acc) ∧ Reps K (clean (fun a => av a ∨ a = Dd) own H) ads acc ∧ ads.length ≤ i ∧ lcL g tt te (dwipe ds vs) (xs.drop i) = .ok r2 ∧ r = ads ++ r2
    refine lc_it w Pv ⟨same_upd hD, [], [], r, upd_same, Reps.nil, Nat.le_refl _, er, rfl⟩ (fun i H hi p => ?_) (fun i x H2 H3 hi p y => ?_) (fun H2 p => ?_)
    · obtain ⟨s2, acc, ads, r2, e1, _⟩ := p
      exact (gy (fun a => av a ∨ a = Dd) own H (by simpa [baseC] using s2) (clean_inner hD s2) (fun i p e => same_ne s2 (R1.live i p e)) fun a z => z.elim (fun z => same_ne s2 (R1.av0 a z)) fun z => by rw [z, e1]; simp).1
    · obtain ⟨s2, acc, ads, r2, e1, rs, hl, el, rr⟩ := p
      obtain ⟨s3, d, ed, rd⟩ := (gy (fun a => av a ∨ a = Dd) own H2 (by simpa [baseC] using s2) (clean_inner hD s2) (fun i p e => same_ne s2 (R1.live i p e)) fun a z => z.elim (fun z => same_ne s2 (R1.av0 a z)) fun z => by rw [z, e1]; simp).2 i x H3 hi y
      have edrop : xs.drop i = d :: xs.drop (i + 1) := by
        have := List.getElem?_eq_some_iff.mp ed
        obtain ⟨hlt, rfl⟩ := this
        exact List.drop_eq_getElem_cons hlt
      rw [edrop] at el
      obtain ⟨s1', b, eg, et, rest⟩ := lcL_ok _ el
      have hl3 : H3 Dd ≠ none := same_ne s3 (by rw [e1]; simp)
      have R3 := (R1.inner hD (s2.trans s3) hl3).wipe vs
      refine ⟨_, H₀, own, dwipe ds vs, d, s1', R3, rd, eg, fun σ' R4 hw => ⟨by rw [hw vs hiv, wipe_wipe], ?_⟩⟩
      refine ⟨_, H₀, own, s1', R4, ?_⟩
      rw [et]
      intro H4 s4
      have keep : ∀ H5, Same H3 H5 → Same H1 H5 ∧ H5 Dd = some (.lst acc) ∧ Reps K (clean (fun a => av a ∨ a = Dd) own H5) ads acc := fun H5 s5 =>
        ⟨(s2.trans s3).trans s5, s5 _ _ (s3 _ _ e1), Reps.sub (clean_sub (Sub.of (s3.trans s5))) _ _ rs⟩
      rcases rest with ⟨rfl, x', r', ee, er', rfl⟩ | ⟨rfl, er'⟩
      · rw [if_pos rfl]
        refine ⟨_, H₀, own, s1', R4.same s4, ?_⟩
        rw [ee]
        intro v H5 s5 rv
        obtain ⟨k1, k2, k3⟩ := keep H5 (s4.trans s5)
        refine ⟨acc, k2, ?_, fun b o e => ?_, acc ++ [v], ads ++ [x'], r', upd_same, ?_, ?_, er', ?_⟩
        · have hz : xs.length ≤ 16777216 := hz
          rw [sizeLine_eq, rs.length]; omega
        · rw [upd_ne (fun z => by rw [z, hD] at e; cases e)]
          exact k1 b o e
        · have sb : Sub (clean (fun a => av a ∨ a = Dd) own H5) (clean (fun a => av a ∨ a = Dd) own (upd H5 Dd (.lst (acc ++ [v])))) := fun b u h => by
            obtain ⟨h1, h2, h3⟩ := clean_get h
            rw [clean_some h1 h2, upd_ne (fun z => h1 (.inr z))]
            exact h3
          exact (Reps.sub sb _ _ k3).append (Reps.one (Rep.sub sb _ _ rv))
        · rw [List.length_append, List.length_singleton]; omega
        · rw [rr, List.append_assoc]; rfl
      · rw [if_neg Bool.false_ne_true]
        obtain ⟨k1, k2, k3⟩ := keep H4 s4
        exact ⟨k1, acc, ads, r2, k2, k3, by omega, er', rr⟩
    · obtain ⟨s2, acc, ads, r2, e1, rs, hl, el, rr⟩ := p
      rw [List.drop_length] at el
      cases el
      rw [List.append_nil] at rr
      subst rr
      refine m2 _ _ (s1.trans s2) (RepLv.up ?_)
      simp only [Rep]
      refine ⟨Dd, acc, rfl, ?_, Reps.sub clean_outer _ _ rs⟩
      rw [clean_some (fun z => R1.av0 _ z hD) (fun i z => R1.live i _ z hD), e1]
  · exact m1.elim
theorem eLc {k : Nat} (C : CT X W k) (hN : X.N.Nodup) (hi : IX X O W true tg e it) (ok : BlkOk X.N X.env.scope scope own)
    (hg : ∀ (s : Shared) (H : Hp) (C : Addr) (cl : List (Str × Addr)) (fp : List Addr), GX (X.blk s H scope (compEnvC scope cl C X.env) fp) O is tg g)
    (ht : ∀ (s : Shared) (H : Hp) (C : Addr) (cl : List (Str × Addr)) (fp : List Addr), CT (X.blk s H scope (compEnvC scope cl C X.env) fp) W0 k → QX (X.blk s H scope (compEnvC scope cl C X.env) fp) O W0 ifs tt)
    (he : ∀ (s : Shared) (H : Hp) (C : Addr) (cl : List (Str × Addr)) (fp : List Addr), CT (X.blk s H scope (compEnvC scope cl C X.env) fp) W0 k → EX (X.blk s H scope (compEnvC scope cl C X.env) fp) O W0 2 elt te)
    (hv : ∀ i ∈ is, i ∈ own.map (·.2) := by decide) (hs : ∀ x, foldedSetIterable e X.env x = pure x := by intro _; rfl) :
    EX X O W lv (.ListComp elt [⟨tg, e, ifs, 0⟩] scope pos) (dLc it (own.map (·.2)) g tt te) :=
  PE.imp (pe_lc (g := liftG X.K O is g) (tt := liftT X.K X.mg O W0 tt) (te := liftE X.K X.mg O W0 2 te) C.calm hN hi ok hg (fun s H D cl fp => ht s H D cl fp (C.blk s H scope _ fp)) (fun s H D cl fp => he s H D cl fp (C.blk s H scope _ fp)) hs) fun σ H Q hq => lc_lift hv hq
/-! ### comprehensions of dicts -/
theorem dcL_ok (s : DSt) : ∀ {d : D} {xs : List D} {acc r : List (Key × D)}, dcL g tt tk tv s (d :: xs) acc = .ok r → ∃ s1 b, g d s = .ok s1 ∧ tt s1 = .ok b ∧
    ((b = true ∧ ∃ kd x kk, tk s1 = .ok kd ∧ tv s1 = .ok x ∧ keyOf kd = some kk ∧ dcL g tt tk tv s xs (pt acc kk x) = .ok r) ∨ (b = false ∧ dcL g tt tk tv s xs acc = .ok r)) := by
  intro d xs acc r h
  unfold dcL at h
  cases e1 : g d s with
  | ok s1 =>
    rw [e1] at h
    have h : (tt s1).bind _ = _ := h
    cases e2 : tt s1 with
    | ok b =>
      rw [e2] at h
      refine ⟨s1, b, rfl, e2, ?_⟩
      cases b with
      | true =>
        have h : (tk s1).bind _ = _ := h
        cases e3 : tk s1 with
        | ok kd =>
          rw [e3] at h
          have h : (tv s1).bind _ = _ := h
          cases e4 : tv s1 with
          | ok x =>
            rw [e4] at h
            have h : (match keyOf kd with | some kk => dcL g tt tk tv s xs (pt acc kk x) | none => .stuck) = _ := h
            split at h
            · rename_i kk hk
              exact .inl ⟨rfl, kd, x, kk, rfl, rfl, hk, h⟩
            · cases h
          | err er => rw [e4] at h; cases h
          | stuck => rw [e4] at h; cases h
        | err er => rw [e3] at h; cases h
        | stuck => rw [e3] at h; cases h
      | false => exact .inr ⟨rfl, h⟩
    | err er => rw [e2] at h; cases h
    | stuck => rw [e2] at h; cases h
  | err er => rw [e1] at h; cases h
  | stuck => rw [e1] at h; cases h
theorem pt_length (kvs : List (Key × D)) (k : Key) (v : D) : (pt kvs k v).length ≤ kvs.length + 1 := by
  unfold pt
  split
  · rw [List.length_map]; omega
  · rw [List.length_append, List.length_singleton]; exact Nat.le_refl _
theorem keyOf_kV {K : PySem.W.Frag} {M : Hp} {kd : D} {kk : Key} {v : V} (h : keyOf kd = some kk) (r : Rep K M kd v) : v = kV kk := by
  cases kd <;> simp only [keyOf] at h <;> first | cases h | skip
  · simp only [Rep] at r; rw [r]; rfl
  · simp only [Rep] at r; rw [r]; rfl
/-- what is new, and nobody's yet -/
def NewAt (K : PySem.W.Frag) (av : Addr → Prop) (own : Nat → Option Addr) (H H' : Hp) (d : D) (v : V) : Prop := ∃ p, v = .ref p ∧ H p = none ∧ OwnAt K (clean (fun a => av a ∨ a = p) own H') H' p d
def liftN (K : PySem.W.Frag) (mg : Str → Option Value) (O : List Nat) (W : WX) (t : DE) : TE := fun σ H Q =>
  ∃ av H₀ own ds, Rel K O av H₀ own ds σ H ∧ FinP mg W σ H (fun d => ∀ v H', Same H H' → NewAt K av own H H' d v → Q v H') (t ds)
/-- an expression whose answer is a new list or dict -/
def EN (X : Cx) (O : List Nat) (W : WX) (e : Expr) (t : DE) : Prop := PE X e (liftN X.K X.mg O W t)
theorem NewAt.rep {K : PySem.W.Frag} {av : Addr → Prop} {H₀ H H' : Hp} {own : Nat → Option Addr} {ds : DSt} {σ : L2.St} {d : D} {v : V} (R : Rel K O av H₀ own ds σ H) (h : NewAt K av own H H' d v) : Rep K (clean av own H') d v := by
  obtain ⟨p, rfl, hp, o⟩ := h
  have e : clean av own H' p = H' p := clean_some (fun z => R.av0 p z hp) (fun i z => R.live i p z hp)
  cases d <;> simp only [OwnAt] at o <;> simp only [Rep]
  · obtain ⟨xs, h1, h2⟩ := o
    exact ⟨p, xs, rfl, by rw [e]; exact h1, Reps.sub clean_outer _ _ h2⟩
  · obtain ⟨xs, h1, h2⟩ := o
    exact ⟨p, xs, rfl, by rw [e, h1]; rfl, RepK.sub clean_outer _ _ h2⟩
theorem EN.ex {t : DE} (h : EN X O W e t) : EX X O W lv e t := PE.imp h fun σ H Q hq => by
  obtain ⟨av, H₀, own, ds, R, m⟩ := hq
  exact ⟨av, H₀, own, ds, R, m.later (Same.refl _) fun d q v H' s n => q v H' s (RepLv.up (n.rep R))⟩
theorem dc_it {J : It} {n : Nat} {G : Hp → Prop} {Y : Nat → Hp → V → Hp → Prop} (w : Walk J n G Y) {g : TG} {tt : TT} {tk tv : TE} {vs : List Nat} {σ : L2.St} {H1 : Hp} {D : Addr} {Qd : Hp → Prop} (Pv : Nat → Hp → Prop) (h0 : Pv 0 (upd H1 D (.dK []))) (hG : ∀ i H, i ≤ n → Pv i H → G H)
    (hs : ∀ i x H H', i < n → Pv i H → Y i H x H' → g x (wipe σ vs) H' fun σ2 H2 => wipe σ2 vs = wipe σ vs ∧ tt σ2 H2 fun b H3 =>
      if b = true then tk σ2 H3 fun y H4 => tv σ2 H4 fun z H5 => ∃ kvs k, y = kV k ∧ H5 D = some (.dK kvs) ∧ kvs.length < sizeLine ∧ Pv (i + 1) (upd H5 D (.dK (putK kvs k z))) else Pv (i + 1) H3) (hd : ∀ H, Pv n H → Qd H) :
    ∃ W : Nat → Nat → Hp → Prop, (∃ m, W 0 m (upd H1 D (.dK []))) ∧ ∀ i m H, W i m H →
      (J.stop i H ∧ Qd H) ∨ (J.go i H ∧ ∃ Nx : Hp → Prop, (∀ H', Nx H' → ∃ m', m' < m ∧ W (i + 1) m' H') ∧ ∀ x H', J.yld i H x H' → g x (wipe σ vs) H' fun σ2 H2 => wipe σ2 vs = wipe σ vs ∧ tt σ2 H2 fun b H3 =>
        if b = true then tk σ2 H3 fun y H4 => tv σ2 H4 fun z H5 => ∃ kvs k, y = kV k ∧ H5 D = some (.dK kvs) ∧ kvs.length < sizeLine ∧ Nx (upd H5 D (.dK (putK kvs k z))) else Nx H3) := by
  refine ⟨fun i m H => m = n - i ∧ i ≤ n ∧ Pv i H, ⟨n, by simp, Nat.zero_le _, h0⟩, ?_⟩
  rintro i m H ⟨rfl, hi, p⟩
  have q := hG i H hi p
  by_cases hlt : i < n
  · exact .inr ⟨w.goes i H hlt q, Pv (i + 1), fun H' p' => ⟨n - (i + 1), by omega, rfl, hlt, p'⟩, fun x H' y => hs i x H H' hlt p (w.yields i H x H' hlt q y)⟩
  · have e : i = n := by omega
    subst e
    exact .inl ⟨w.stops H q, hd H p⟩
theorem dc_lift {K : PySem.W.Frag} {mg : Str → Option Value} {vs : List Nat} (hiv : ∀ i ∈ is, i ∈ vs) {σ : L2.St} {H : Hp} {Q : VK} (h : liftN K mg O W (dDc it vs g tt tk tv) σ H Q) :
    tDc (liftI K mg O W true it) (liftG K O is g) (liftT K mg O W0 tt) (liftE K mg O W0 0 tk) (liftE K mg O W0 2 tv) vs σ H Q := by
  obtain ⟨av, H₀, own, ds, R, m⟩ := h
  refine ⟨av, H₀, own, ds, R, (FinP.bind m).later (Same.refl _) fun xs m1 J H1 s1 gv Dd hD => ?_⟩
  split at m1
  · rename_i hz
    obtain ⟨r, er, m2⟩ := nE_ok (FinP.bind m1)
    have R1 := R.same s1
    obtain ⟨G, Y, w, gy⟩ := gv.ex
    let Pv : Nat → Hp → Prop := fun i H => Same H1 H ∧ ∃ acc ads, H Dd = some (.dK acc) ∧ RepK K (clean (fun a => av a ∨ a = Dd) own H) ads acc ∧ ads.length ≤ i ∧ dcL g tt tk tv (dwipe ds vs) (xs.drop i) ads = .ok r
    refine dc_it w Pv ⟨same_upd hD, [], [], upd_same, RepK.nil, Nat.le_refl _, er⟩ (fun i H hi p => ?_) (fun i x H2 H3 hi p y => ?_) (fun H2 p => ?_)
    · obtain ⟨s2, acc, ads, e1, _⟩ := p
      exact (gy (fun a => av a ∨ a = Dd) own H (by simpa [baseC] using s2) (clean_inner hD s2) (fun i p e => same_ne s2 (R1.live i p e)) fun a z => z.elim (fun z => same_ne s2 (R1.av0 a z)) fun z => by rw [z, e1]; simp).1
    · obtain ⟨s2, acc, ads, e1, rs, hl, el⟩ := p
      obtain ⟨s3, d, ed, rd⟩ := (gy (fun a => av a ∨ a = Dd) own H2 (by simpa [baseC] using s2) (clean_inner hD s2) (fun i p e => same_ne s2 (R1.live i p e)) fun a z => z.elim (fun z => same_ne s2 (R1.av0 a z)) fun z => by rw [z, e1]; simp).2 i x H3 hi y
      have edrop : xs.drop i = d :: xs.drop (i + 1) := by
        have := List.getElem?_eq_some_iff.mp ed
        obtain ⟨hlt, rfl⟩ := this
        exact List.drop_eq_getElem_cons hlt
      rw [edrop] at el
      obtain ⟨s1', b, eg, et, rest⟩ := dcL_ok _ el
      have hl3 : H3 Dd ≠ none := same_ne s3 (by rw [e1]; simp)
      have R3 := (R1.inner hD (s2.trans s3) hl3).wipe vs
      refine ⟨_, H₀, own, dwipe ds vs, d, s1', R3, rd, eg, fun σ' R4 hw => ⟨by rw [hw vs hiv, wipe_wipe], ?_⟩⟩
      refine ⟨_, H₀, own, s1', R4, ?_⟩
      rw [et]
      intro H4 s4
      have keep : ∀ H5, Same H3 H5 → Same H1 H5 ∧ H5 Dd = some (.dK acc) ∧ RepK K (clean (fun a => av a ∨ a = Dd) own H5) ads acc := fun H5 s5 =>
        ⟨(s2.trans s3).trans s5, s5 _ _ (s3 _ _ e1), RepK.sub (clean_sub (Sub.of (s3.trans s5))) _ _ rs⟩
      rcases rest with ⟨rfl, kd, x', kk, ek, ee, hk, er'⟩ | ⟨rfl, er'⟩
      · rw [if_pos rfl]
        refine ⟨_, H₀, own, s1', R4.same s4, ?_⟩
        rw [ek]
        intro kv H5 s5 rk
        refine ⟨_, H₀, own, s1', (R4.same s4).same s5, ?_⟩
        rw [ee]
        intro v H6 s6 rv
        obtain ⟨k1, k2, k3⟩ := keep H6 ((s4.trans s5).trans s6)
        refine ⟨acc, kk, keyOf_kV hk rk.any, k2, ?_, fun b o e => ?_, putK acc kk v, pt ads kk x', upd_same, ?_, ?_, er'⟩
        · have hz : xs.length ≤ 16777216 := hz
          rw [sizeLine_eq, rs.length]; omega
        · rw [upd_ne (fun z => by rw [z, hD] at e; cases e)]
          exact k1 b o e
        · have sb : Sub (clean (fun a => av a ∨ a = Dd) own H6) (clean (fun a => av a ∨ a = Dd) own (upd H6 Dd (.dK (putK acc kk v)))) := fun b u h => by
            obtain ⟨h1, h2, h3⟩ := clean_get h
            rw [clean_some h1 h2, upd_ne (fun z => h1 (.inr z))]
            exact h3
          exact (RepK.sub sb _ _ k3).put kk (Rep.sub sb _ _ rv)
        · have := pt_length ads kk x'; omega
      · rw [if_neg Bool.false_ne_true]
        obtain ⟨k1, k2, k3⟩ := keep H4 s4
        exact ⟨k1, acc, ads, k2, k3, by omega, er'⟩
    · obtain ⟨s2, acc, ads, e1, rs, hl, el⟩ := p
      rw [List.drop_length] at el
      cases el
      refine m2 _ _ (s1.trans s2) ⟨Dd, rfl, ?_, acc, e1, rs⟩
      cases q : H Dd with
      | none => rfl
      | some o =>
        rw [s1 _ _ q] at hD
        cases hD
  · exact m1.elim
theorem nDc {k : Nat} (C : CT X W k) (hN : X.N.Nodup) (hi : IX X O W true tg e it) (ok : BlkOk X.N X.env.scope scope own)
    (hg : ∀ (s : Shared) (H : Hp) (C : Addr) (cl : List (Str × Addr)) (fp : List Addr), GX (X.blk s H scope (compEnvC scope cl C X.env) fp) O is tg g)
    (ht : ∀ (s : Shared) (H : Hp) (C : Addr) (cl : List (Str × Addr)) (fp : List Addr), CT (X.blk s H scope (compEnvC scope cl C X.env) fp) W0 k → QX (X.blk s H scope (compEnvC scope cl C X.env) fp) O W0 ifs tt)
    (hk : ∀ (s : Shared) (H : Hp) (C : Addr) (cl : List (Str × Addr)) (fp : List Addr), CT (X.blk s H scope (compEnvC scope cl C X.env) fp) W0 k → EX (X.blk s H scope (compEnvC scope cl C X.env) fp) O W0 0 kx tk)
    (he : ∀ (s : Shared) (H : Hp) (C : Addr) (cl : List (Str × Addr)) (fp : List Addr), CT (X.blk s H scope (compEnvC scope cl C X.env) fp) W0 k → EX (X.blk s H scope (compEnvC scope cl C X.env) fp) O W0 2 vx tv)
    (hv : ∀ i ∈ is, i ∈ own.map (·.2) := by decide) (hs : ∀ x, foldedSetIterable e X.env x = pure x := by intro _; rfl) :
    EN X O W (.DictComp kx vx [⟨tg, e, ifs, 0⟩] scope pos) (dDc it (own.map (·.2)) g tt tk tv) :=
  PE.imp (pe_dc (g := liftG X.K O is g) (tt := liftT X.K X.mg O W0 tt) (tk := liftE X.K X.mg O W0 0 tk) (tv := liftE X.K X.mg O W0 2 tv) C.calm hN hi ok hg (fun s H D cl fp => ht s H D cl fp (C.blk s H scope _ fp)) (fun s H D cl fp => hk s H D cl fp (C.blk s H scope _ fp)) (fun s H D cl fp => he s H D cl fp (C.blk s H scope _ fp)) hs) fun σ H Q hq => dc_lift hv hq
end
end
end DL
/-! DL7: statements over plain data. -/
namespace DL
open PySem PySem.Spec L2
/-- what is wanted behind a statement, by plain data -/
def PostS (K : PySem.W.Frag) (mg : Str → Option Value) (O : List Nat) (W : WX) (av : Addr → Prop) (H₀ : Hp) (N : Ends) : RS → Prop
  | .nx ds' => ∀ own' σ' H', Rel K O av H₀ own' ds' σ' H' → N.nx σ' H'
  | .rt d => ∀ v H', Same H₀ H' → Rep K (clean av noOwn H') d v → N.rt v H'
  | .bk ds' => ∀ own' σ' H', Rel K O av H₀ own' ds' σ' H' → N.bk σ' H'
  | .ct ds' => ∀ own' σ' H', Rel K O av H₀ own' ds' σ' H' → N.ct σ' H'
  | .er e ds' => ∀ own' c dd σ' H', Rel K O av H₀ own' ds' σ' H' → ErrAt mg H' c dd e → W c dd σ' H'
  | .stuck => False
theorem liftS_iff {K : PySem.W.Frag} {mg : Str → Option Value} {O : List Nat} {W : WX} {t : DS} {N : Ends} {σ : L2.St} {H : Hp} :
    liftS K mg O W t N σ H ↔ ∃ av H₀ own ds, Rel K O av H₀ own ds σ H ∧ PostS K mg O W av H₀ N (t ds) := by
  constructor
  · rintro ⟨av, H₀, own, ds, R, m⟩
    refine ⟨av, H₀, own, ds, R, ?_⟩
    cases e : t ds <;> rw [e] at m <;> exact m
  · rintro ⟨av, H₀, own, ds, R, m⟩
    refine ⟨av, H₀, own, ds, R, ?_⟩
    cases e : t ds <;> rw [e] at m <;> exact m
/-- an expression's outcome, ahead of a statement -/
theorem fin_of {α : Type} {K : PySem.W.Frag} {mg : Str → Option Value} {O : List Nat} {W : WX} {av : Addr → Prop} {H₀ H : Hp} {own : Nat → Option Addr} {ds : DSt} {σ : L2.St} {N : Ends} {P : α → Prop} {x : Res α} {y : RS}
    (R : Rel K O av H₀ own ds σ H) (m : PostS K mg O W av H₀ N y) (he : ∀ e, x = .err e → y = .er e ds) (hs : x = .stuck → y = .stuck) (hp : ∀ a, x = .ok a → P a) : FinP mg W σ H P x := by
  cases x with
  | ok a => exact hp a rfl
  | err e =>
    rw [he e rfl] at m
    exact fun c dd H' s er => m own c dd σ H' (R.same s) er
  | stuck =>
    rw [hs rfl] at m
    exact m
section
variable {X : Cx} {O : List Nat} {W : WX} {a b c e : Expr} {ta tb tc : DE} {uc : DT} {pos : Pos} {st : Stmt} {rest body orelse : List Stmt} {t u : DS}
theorem bNil : BX X O W [] sNx := PSs.imp pss_nil fun N σ H h => by
  obtain ⟨av, H₀, own, ds, R, m⟩ := liftS_iff.mp h
  exact m own σ H R
theorem bC (h1 : SX X O W st t) (h2 : BX X O W rest u) : BX X O W (st :: rest) (sSq t u) := PSs.imp (pss_cons h1 h2) fun N σ H h => by
  obtain ⟨av, H₀, own, ds, R, m⟩ := liftS_iff.mp h
  refine liftS_iff.mpr ⟨av, H₀, own, ds, R, ?_⟩
  unfold sSq at m
  cases e : t ds with
  | nx s1 =>
    rw [e] at m
    exact fun own' σ' H' R' => liftS_iff.mpr ⟨av, H₀, own', s1, R', m⟩
  | _ => rw [e] at m; exact m
theorem sPs : SX X O W (.Pass pos) sNx := PS.imp ps_pass fun N σ H h => by
  obtain ⟨av, H₀, own, ds, R, m⟩ := liftS_iff.mp h
  exact m own σ H R
theorem sBk : SX X O W (.Break pos) sBrk := PS.imp ps_break fun N σ H h => by
  obtain ⟨av, H₀, own, ds, R, m⟩ := liftS_iff.mp h
  exact m own σ H R
theorem sCt : SX X O W (.Continue pos) sCnt := PS.imp ps_continue fun N σ H h => by
  obtain ⟨av, H₀, own, ds, R, m⟩ := liftS_iff.mp h
  exact m own σ H R
theorem sNv : SX X O W st sNo := PS.imp ps_never fun N σ H h => by
  obtain ⟨av, H₀, own, ds, R, m⟩ := liftS_iff.mp h
  exact m
theorem bNv : BX X O W rest sNo := PSs.imp pss_never fun N σ H h => by
  obtain ⟨av, H₀, own, ds, R, m⟩ := liftS_iff.mp h
  exact m
theorem sEx (h : EX X O W 0 e ta) (hs : swapsWith e none pos.line X.env = pure false := by rfl) : SX X O W (.Expr e pos) (sE ta) := PS.imp (ps_expr h hs) fun N σ H h => by
  obtain ⟨av, H₀, own, ds, R, m⟩ := liftS_iff.mp h
  unfold sE at m
  exact ⟨av, H₀, own, ds, R, fin_of R m (fun e h => by rw [h]) (fun h => by rw [h]) fun a ha v H' s _ => by rw [ha] at m; exact m own σ H' (R.same s)⟩
theorem sRt (h : EX X O W 0 e ta) : SX X O W (.Return (some e) pos) (sRet ta) := PS.imp (ps_ret h) fun N σ H h => by
  obtain ⟨av, H₀, own, ds, R, m⟩ := liftS_iff.mp h
  unfold sRet at m
  exact ⟨av, H₀, own, ds, R, fin_of R m (fun e h => by rw [h]) (fun h => by rw [h]) fun a ha v H' s r => by rw [ha] at m; exact m v H' (R.base.trans s) r⟩
theorem sIfE (hc : TX X O W c uc) (ha : BX X O W body t) (hb : BX X O W orelse u) : SX X O W (.If c body orelse pos) (sIf uc t u) := PS.imp (ps_if hc ha hb) fun N σ H h => by
  obtain ⟨av, H₀, own, ds, R, m⟩ := liftS_iff.mp h
  refine ⟨av, H₀, own, ds, R, ?_⟩
  unfold sIf at m
  cases ec : uc ds with
  | ok bb =>
    rw [ec] at m
    intro H' s
    cases bb with
    | true => exact iteT (liftS_iff.mpr ⟨av, H₀, own, ds, R.same s, m⟩)
    | false => exact iteF (liftS_iff.mpr ⟨av, H₀, own, ds, R.same s, m⟩)
  | err er =>
    rw [ec] at m
    exact fun c dd H' s z => m own c dd σ H' (R.same s) z
  | stuck =>
    rw [ec] at m
    exact m
/-! ### assignments -/
theorem sN (i : Nat) {x : Str} {p : Pos} (hN : X.N.Nodup) (h : EX X O W 2 e ta) (hi : i ∉ O := by decide) (hx : X.N[i]? = some x := by rfl) (hl : Loc X.env.scope x := by first | exact Or.inl rfl | exact Or.inr rfl) (hs : swapsWith e (some (.Name x p)) pos.line X.env = pure false := by rfl)
    (hf : X.fn x = true ∨ X.env.scope.names.lookup x = some .local := by first | exact .inl rfl | exact .inr rfl) : SX X O W (.Assign [.Name x p] e pos) (sAs (gN i) ta) := PS.imp (ps_set hN hx hl h hs hf) fun N σ H h => by
  obtain ⟨av, H₀, own, ds, R, m⟩ := liftS_iff.mp h
  unfold sAs at m
  exact ⟨av, H₀, own, ds, R, fin_of R m (fun e h => by rw [h]) (fun h => by rw [h]) fun d ha v H' s r => by rw [ha] at m; exact m own _ H' ((R.same s).set hi r)⟩
/-- a, b = .. -/
theorem sT {is : List Nat} {es : List Expr} {k : Nat} {p : Pos} (h : EX X O W 2 e ta) (hg : GX X O is (.Tuple es k p) (gT is)) (hs : swapsWithSole [.Tuple es k p] e pos.line X.env = pure false := by rfl) (hw : swappedStores [.Tuple es k p] e X.env = pure none := by rfl)
    (h1 : (assignEach [.Tuple es k p] X.env).map (·.2) = [assign (.Tuple es k p) X.env] := by rfl) : SX X O W (.Assign [.Tuple es k p] e pos) (sAs (gT is) ta) := PS.imp (ps_asg h hg hs hw h1) fun N σ H h => by
  obtain ⟨av, H₀, own, ds, R, m⟩ := liftS_iff.mp h
  unfold sAs at m
  refine ⟨av, H₀, own, ds, R, fin_of R m (fun e h => by rw [h]) (fun h => by rw [h]) fun d ha v H' s r => ?_⟩
  rw [ha] at m
  simp only at m
  cases eg : gT is d ds with
  | ok s1 =>
    rw [eg] at m
    exact ⟨av, H₀, own, ds, d, s1, R.same s, r, eg, fun σ' R' _ => m own σ' H' R'⟩
  | _ => rw [eg] at m; exact m.elim
section
variable {K : PySem.W.Frag} {av : Addr → Prop} {H₀ H H' : Hp} {own : Nat → Option Addr} {ds : DSt} {σ : L2.St} {i : Nat} {d : D} {p : Addr} {v : V}
/-- one's own, made anew -/
theorem Rel.fresh_own (R : Rel K O av H₀ own ds σ H) (s : Same H H') (hi : i ∈ O) (h : NewAt K av own H H' d v) :
    ∃ own', Rel K O av H₀ own' (ds.set i (some d)) (σ.set i (some v)) H' := by
  obtain ⟨p, rfl, hp, o⟩ := h
  have R' := R.same s
  have np : ∀ j, own j ≠ some p := fun j z => R.live j p z hp
  have nav : ¬ av p := fun z => R.av0 p z hp
  have hH' : H' p ≠ none := by
    cases d <;> simp only [OwnAt] at o
    · obtain ⟨xs, e, _⟩ := o; rw [e]; simp
    · obtain ⟨xs, e, _⟩ := o; rw [e]; simp
  let own' : Nat → Option Addr := fun j => if j = i then some p else own j
  have ei : own' i = some p := if_pos rfl
  have ej : ∀ {j}, j ≠ i → own' j = own j := fun h => if_neg h
  have cs : Sub (clean av own H) (clean av own' H') := fun b u h => by
    obtain ⟨h1, h2, h3⟩ := clean_get h
    obtain ⟨o', e⟩ := vw_ex h3
    rw [clean_some h1 (fun j z => ?_), s b o' e, ← e]
    · exact h3
    · by_cases q : j = i
      · rw [q, ei] at z
        cases z
        rw [hp] at e
        cases e
      · rw [ej q] at z
        exact h2 j z
  refine ⟨own', ?_⟩
  constructor
  · rw [List.length_set, List.length_set]; exact R.len
  · exact R'.base
  · exact R'.av0
  · intro j q e
    by_cases z : j = i
    · rw [z, ei] at e; cases e; exact nav
    · rw [ej z] at e; exact R.avo j q e
  · intro j q e
    by_cases z : j = i
    · rw [z]; exact hi
    · rw [ej z] at e; exact R.dom j q e
  · intro j q e
    by_cases z : j = i
    · rw [z, ei] at e
      cases e
      cases q0 : H₀ p with
      | none => rfl
      | some o' => rw [R.base p o' q0] at hp; cases hp
    · rw [ej z] at e; exact R.fresh j q e
  · intro j q e
    by_cases z : j = i
    · rw [z, ei] at e; cases e; exact hH'
    · rw [ej z] at e; exact R'.live j q e
  · intro j k q e1 e2
    by_cases z : j = i
    · by_cases z2 : k = i
      · rw [z, z2]
      · rw [z, ei] at e1; cases e1; rw [ej z2] at e2; exact absurd e2 (np k)
    · by_cases z2 : k = i
      · rw [z2, ei] at e2; cases e2; rw [ej z] at e1; exact absurd e1 (np j)
      · rw [ej z] at e1; rw [ej z2] at e2; exact R.inj j k q e1 e2
  · intro j d' hj e
    have q : i ≠ j := fun z => hj (z ▸ hi)
    rw [List.getElem?_set_ne q] at e
    rw [List.getElem?_set_ne q]
    obtain ⟨v, e1, e2⟩ := R.val j d' hj e
    exact ⟨v, e1, e2.sub cs _ _⟩
  · intro j d' hj e
    by_cases q : i = j
    · subst q
      rw [List.getElem?_set] at e ⊢
      rw [if_pos rfl] at e ⊢
      split at e
      · rename_i hl
        rw [if_pos (by rw [R.len]; exact hl)]
        cases e
        refine ⟨p, ei, rfl, o.sub (fun b u h => ?_) fun _ z => z⟩
        obtain ⟨h1, h2, h3⟩ := clean_get h
        rw [clean_some (fun z => h1 (.inl z)) fun j z => ?_]
        · exact h3
        · by_cases q : j = i
          · rw [q, ei] at z; cases z; exact h1 (.inr rfl)
          · rw [ej q] at z; exact h2 j z
      · cases e
    · rw [List.getElem?_set_ne q] at e
      rw [List.getElem?_set_ne q]
      obtain ⟨q', e1, e2, e3⟩ := R.ownv j d' hj e
      exact ⟨q', by rw [ej (Ne.symm q)]; exact e1, e2, e3.sub cs (s q')⟩
theorem clean_own (e : own i = some p) {o : HO} : clean av own (upd H p o) = clean av own H := by
  funext b
  unfold clean
  by_cases q : av b ∨ ∃ j, own j = some b
  · rw [if_pos q, if_pos q]
  · rw [if_neg q, if_neg q]
    exact upd_ne fun z => q (.inr ⟨i, z ▸ e⟩)
/-- one's own, changed -/
theorem Rel.upd_own (R : Rel K O av H₀ own ds σ H) (hi : i ∈ O) (e : own i = some p) (es : σ[i]? = some (some (.ref p))) {o : HO} (h : OwnAt K (clean av own H) (upd H p o) p d) :
    Rel K O av H₀ own (ds.set i (some d)) σ (upd H p o) where
  len := by rw [List.length_set]; exact R.len
  base := fun b o' z => by
    rw [upd_ne (fun q => by rw [q, R.fresh i p e] at z; cases z)]
    exact R.base b o' z
  av0 := fun a z => by
    have q : a ≠ p := fun q => R.avo i p e (by rw [← q]; exact z)
    rw [upd_ne q]; exact R.av0 a z
  avo := R.avo
  dom := R.dom
  fresh := R.fresh
  live := fun j q z => by
    by_cases w : q = p
    · rw [w, upd_same]; simp
    · rw [upd_ne w]; exact R.live j q z
  inj := R.inj
  val := fun j d' hj z => by
    have q : i ≠ j := fun z => hj (z ▸ hi)
    rw [List.getElem?_set_ne q] at z
    rw [clean_own e]
    exact R.val j d' hj z
  ownv := fun j d' hj z => by
    rw [clean_own e]
    by_cases q : i = j
    · subst q
      rw [List.getElem?_set, if_pos rfl] at z
      split at z
      · cases z
        exact ⟨p, e, es, h⟩
      · cases z
    · rw [List.getElem?_set_ne q] at z
      obtain ⟨q', e1, e2, e3⟩ := R.ownv j d' hj z
      refine ⟨q', e1, e2, e3.sub (fun _ _ h => h) fun o' z' => ?_⟩
      have w : q' ≠ p := fun w => q (R.inj i j p e (by rw [← w]; exact e1))
      rw [upd_ne w]
      exact z'
end
/-- one's own gets something new -/
theorem sO (i : Nat) {x : Str} {p : Pos} (hN : X.N.Nodup) (h : EN X O W e ta) (hi : i ∈ O := by decide) (hx : X.N[i]? = some x := by rfl) (hl : Loc X.env.scope x := by first | exact Or.inl rfl | exact Or.inr rfl) (hs : swapsWith e (some (.Name x p)) pos.line X.env = pure false := by rfl)
    (hf : X.fn x = true ∨ X.env.scope.names.lookup x = some .local := by first | exact .inl rfl | exact .inr rfl) : SX X O W (.Assign [.Name x p] e pos) (sAs (gN i) ta) := PS.imp (ps_set hN hx hl h hs hf) fun N σ H h => by
  obtain ⟨av, H₀, own, ds, R, m⟩ := liftS_iff.mp h
  unfold sAs at m
  refine ⟨av, H₀, own, ds, R, fin_of R m (fun e h => by rw [h]) (fun h => by rw [h]) fun d ha v H' s r => ?_⟩
  rw [ha] at m
  obtain ⟨own', R'⟩ := R.fresh_own s hi r
  exact m own' _ H' R'
/-! ### new things -/
theorem new_lst {K : PySem.W.Frag} {av : Addr → Prop} {H0 H : Hp} {own : Nat → Option Addr} {p : Addr} {xs : List D} {us : List V} (s : Same H0 H) (hp : H p = none) (r : Reps K (clean av own H) xs us) : NewAt K av own H0 (upd H p (.lst us)) (.lst xs) (.ref p) := by
  refine ⟨p, rfl, ?_, us, upd_same, Reps.sub (clean_inner hp (same_upd hp)) _ _ r⟩
  cases q : H0 p with
  | none => rfl
  | some o => rw [s p o q] at hp; cases hp
theorem new_dct {K : PySem.W.Frag} {av : Addr → Prop} {H0 H : Hp} {own : Nat → Option Addr} {p : Addr} {xs : List (Key × D)} {us : List (Key × V)} (s : Same H0 H) (hp : H p = none) (r : RepK K (clean av own H) xs us) : NewAt K av own H0 (upd H p (.dK us)) (.dct xs) (.ref p) := by
  refine ⟨p, rfl, ?_, us, upd_same, RepK.sub (clean_inner hp (same_upd hp)) _ _ r⟩
  cases q : H0 p with
  | none => rfl
  | some o => rw [s p o q] at hp; cases hp
theorem nLst {es : List Expr} {t : DA} (h : AX X O W 2 es t) : EN X O W (.List es pos) (dLst t) := by
  refine PE.imp (pe_lst h) fun σ H Q hq => ?_
  obtain ⟨av, H₀, own, ds, R, m⟩ := hq
  refine ⟨av, H₀, own, ds, R, (FinP.bind m).later (Same.refl _) fun x1 m1 v H1 s1 r1 => ?_⟩
  split at m1
  · rename_i hz
    exact ⟨by rw [r1.length]; rw [sizeLine_eq]; exact hz, fun p hp => m1 (.ref p) _ (s1.trans (same_upd hp)) (new_lst s1 hp r1.reps)⟩
  · exact m1.elim
theorem nD0 : EN X O W (.Dict [] [] pos) (dC (.dct [])) := by
  refine PE.imp pe_dnewK fun σ H Q hq => ?_
  obtain ⟨av, H₀, own, ds, R, m⟩ := hq
  exact fun p hp => m (.ref p) _ (same_upd hp) (new_dct (Same.refl _) hp RepK.nil)
theorem own_lst {K : PySem.W.Frag} {av : Addr → Prop} {H₀ H : Hp} {own : Nat → Option Addr} {ds : DSt} {σ : L2.St} {i : Nat} {xs : List D} (R : Rel K O av H₀ own ds σ H) (hi : i ∈ O) (h : ownL ds i = some xs) :
    ∃ p us, own i = some p ∧ σ[i]? = some (some (.ref p)) ∧ H p = some (.lst us) ∧ Reps K (clean av own H) xs us := by
  unfold ownL at h
  split at h
  · rename_i xs' e
    cases h
    obtain ⟨p, e1, e2, e3⟩ := R.ownv i _ hi e
    simp only [OwnAt] at e3
    obtain ⟨us, q1, q2⟩ := e3
    exact ⟨p, us, e1, e2, q1, q2⟩
  · cases h
theorem own_dct {K : PySem.W.Frag} {av : Addr → Prop} {H₀ H : Hp} {own : Nat → Option Addr} {ds : DSt} {σ : L2.St} {i : Nat} {xs : List (Key × D)} (R : Rel K O av H₀ own ds σ H) (hi : i ∈ O) (h : ownD ds i = some xs) :
    ∃ p us, own i = some p ∧ σ[i]? = some (some (.ref p)) ∧ H p = some (.dK us) ∧ RepK K (clean av own H) xs us := by
  unfold ownD at h
  split at h
  · rename_i xs' e
    cases h
    obtain ⟨p, e1, e2, e3⟩ := R.ownv i _ hi e
    simp only [OwnAt] at e3
    obtain ⟨us, q1, q2⟩ := e3
    exact ⟨p, us, e1, e2, q1, q2⟩
  · cases h
theorem sAp (i : Nat) {x : Str} {p apos cpos : Pos} (h : EX X O W 2 e ta) (hi : i ∈ O := by decide) (hx : X.N[i]? = some x := by rfl) (hv : Vis X.env.scope x := by first | exact Or.inl rfl | exact Or.inr (Or.inl rfl) | exact Or.inr (Or.inr rfl)) (hd : (x == ("__debug__" : Str)) = false := by decide)
    (hcd : (x == ("__classdict__" : Str)) = false := by decide) (hbase : attributeBase (.Name x p) "append" X.env (eval (.Name x p) X.env) = eval (.Name x p) X.env := by rfl)
    (hfew : ((backTo cpos (starEach [e] X.env)).all (fun x => !x.1) && (backToKw cpos (keywordEach [] X.env)).all (fun x => x.1.isSome)
      && decide (([e]).length + ([] : List Keyword).length + (if ([] : List Keyword).isEmpty then 0 else 1) < 30)) = true := by rfl)
    (hline : (apos.endLine == cpos.line) = true := by rfl) (hst : starEach [e] X.env = (false, eval e X.env) :: starEach [] X.env := by rfl) (hplain : (backTo cpos (starEach [] X.env)).any (·.1) = false := by rfl)
    (hs : swapsWith (.Call (.Attribute (.Name x p) "append" apos) [e] [] cpos) none pos.line X.env = pure false := by rfl) :
    SX X O W (.Expr (.Call (.Attribute (.Name x p) "append" apos) [e] [] cpos) pos) (sApp i ta) := by
  refine PS.imp (ps_expr (pe_bm F.plainAttrs_list F.slot_list_append F.type_list_append mt_append (pe_var hx hv hd hcd) (pa_cons h pa_nil hst) hbase hfew hline hst hplain) hs) fun N σ H hq => ?_
  obtain ⟨av, H₀, own, ds, R, m⟩ := liftS_iff.mp hq
  unfold sApp at m
  split at m
  · rename_i xs eo
    obtain ⟨q, us, e1, e2, e3, e4⟩ := own_lst R hi eo
    refine ⟨.ref q, e2, .inl ⟨rfl, us, SqL.of e3⟩, av, H₀, own, ds, R, fin_of R m (fun e h => by rw [h]) (fun h => by rw [h]) fun d ha v H' s r => ?_⟩
    rw [ha] at m
    simp only at m
    split at m
    · rename_i hl
      have R' := R.same s
      have r : Rep X.K (clean av own H') d v := r
      have rs := Reps.sub (clean_sub (av := av) (own := own) (Sub.of s)) _ _ e4
      refine ⟨q, us, v, rfl, rfl, s _ _ e3, by rw [e4.length, sizeLine_eq]; exact hl, m own σ _ (R'.upd_own hi e1 e2 ⟨us ++ [v], upd_same, rs.append (Reps.one r)⟩)⟩
    · exact m.elim
  · exact m.elim
theorem sExE (i : Nat) {x : Str} {p apos cpos : Pos} (h : EX X O W 2 e ta) (hi : i ∈ O := by decide) (hx : X.N[i]? = some x := by rfl) (hv : Vis X.env.scope x := by first | exact Or.inl rfl | exact Or.inr (Or.inl rfl) | exact Or.inr (Or.inr rfl)) (hd : (x == ("__debug__" : Str)) = false := by decide)
    (hcd : (x == ("__classdict__" : Str)) = false := by decide) (hbase : attributeBase (.Name x p) "extend" X.env (eval (.Name x p) X.env) = eval (.Name x p) X.env := by rfl)
    (hfew : ((backTo cpos (starEach [e] X.env)).all (fun x => !x.1) && (backToKw cpos (keywordEach [] X.env)).all (fun x => x.1.isSome)
      && decide (([e]).length + ([] : List Keyword).length + (if ([] : List Keyword).isEmpty then 0 else 1) < 30)) = true := by rfl)
    (hline : (apos.endLine == cpos.line) = true := by rfl) (hst : starEach [e] X.env = (false, eval e X.env) :: starEach [] X.env := by rfl) (hplain : (backTo cpos (starEach [] X.env)).any (·.1) = false := by rfl)
    (hs : swapsWith (.Call (.Attribute (.Name x p) "extend" apos) [e] [] cpos) none pos.line X.env = pure false := by rfl) :
    SX X O W (.Expr (.Call (.Attribute (.Name x p) "extend" apos) [e] [] cpos) pos) (sExt i ta) := by
  refine PS.imp (ps_expr (pe_bm F.plainAttrs_list F.slot_list_extend F.type_list_extend mt_extend (pe_var hx hv hd hcd) (pa_cons h pa_nil hst) hbase hfew hline hst hplain) hs) fun N σ H hq => ?_
  obtain ⟨av, H₀, own, ds, R, m⟩ := liftS_iff.mp hq
  unfold sExt at m
  split at m
  · rename_i xs eo
    obtain ⟨q, us, e1, e2, e3, e4⟩ := own_lst R hi eo
    refine ⟨.ref q, e2, .inl ⟨rfl, us, SqL.of e3⟩, av, H₀, own, ds, R, fin_of R m (fun e h => by rw [h]) (fun h => by rw [h]) fun d ha v H' s r => ?_⟩
    rw [ha] at m
    cases d with
    | lst es =>
      simp only at m
      split at m
      · rename_i hl
        have R' := R.same s
        have r : Rep X.K (clean av own H') (.lst es) v := r
        simp only [Rep] at r
        obtain ⟨b, zs, rfl, hb, rz⟩ := r
        have hb := vw_lst (clean_le b _ (show vw (clean av own H' b) = some (.lst zs) by rw [hb]; rfl))
        have rs := Reps.sub (clean_sub (av := av) (own := own) (Sub.of s)) _ _ e4
        refine ⟨q, b, us, zs, rfl, rfl, s _ _ e3, hb, by rw [e4.length, rz.length, sizeLine_eq]; exact hl, m own σ _ (R'.upd_own hi e1 e2 ⟨us ++ zs, upd_same, rs.append rz⟩)⟩
      · exact m.elim
    | _ => exact m.elim
  · exact m.elim
/-- g = x.pop() -/
theorem sPp (i : Nat) {is : List Nat} {g : DG} {tg : Expr} {x : Str} {p apos cpos : Pos} (hg : GX X O is tg g) (hi : i ∈ O := by decide) (hx : X.N[i]? = some x := by rfl) (hv : Vis X.env.scope x := by first | exact Or.inl rfl | exact Or.inr (Or.inl rfl) | exact Or.inr (Or.inr rfl)) (hd : (x == ("__debug__" : Str)) = false := by decide)
    (hcd : (x == ("__classdict__" : Str)) = false := by decide) (hbase : attributeBase (.Name x p) "pop" X.env (eval (.Name x p) X.env) = eval (.Name x p) X.env := by rfl)
    (hline : (apos.endLine == cpos.line) = true := by rfl)
    (hs : swapsWithSole [tg] (.Call (.Attribute (.Name x p) "pop" apos) [] [] cpos) pos.line X.env = pure false := by rfl) (hw : swappedStores [tg] (.Call (.Attribute (.Name x p) "pop" apos) [] [] cpos) X.env = pure none := by rfl)
    (h1 : (assignEach [tg] X.env).map (·.2) = [assign tg X.env] := by rfl) :
    SX X O W (.Assign [tg] (.Call (.Attribute (.Name x p) "pop" apos) [] [] cpos) pos) (sPop g i) := by
  refine PS.imp (ps_asg (pe_bm0 F.plainAttrs_list F.slot_list_pop F.type_list_pop mt_pop (pe_var hx hv hd hcd) hbase hline) hg hs hw h1) fun N σ H hq => ?_
  obtain ⟨av, H₀, own, ds, R, m⟩ := liftS_iff.mp hq
  unfold sPop at m
  split at m
  · rename_i xs eo
    obtain ⟨q, us, e1, e2, e3, e4⟩ := own_lst R hi eo
    refine ⟨.ref q, e2, .inl ⟨rfl, us, SqL.of e3⟩, ?_⟩
    split at m
    · rename_i d ed
      obtain ⟨v, ev, rv⟩ := e4.get ed
      have R' := R.upd_own (d := .lst xs.dropLast) (o := .lst us.dropLast) hi e1 e2 ⟨us.dropLast, upd_same, by
        rw [List.dropLast_eq_take, List.dropLast_eq_take, e4.length]
        exact e4.take _⟩
      refine ⟨q, us, v, rfl, rfl, e3, by rw [e4.length]; exact ev, ?_⟩
      cases eg : g d (ds.set i (some (.lst xs.dropLast))) with
      | ok s1 =>
        rw [eg] at m
        exact ⟨av, H₀, own, _, d, s1, R', by rw [clean_own e1]; exact rv, eg, fun σ' R'' _ => m own σ' _ R''⟩
      | _ => rw [eg] at m; exact m.elim
    · exact m.elim
  · exact m.elim
/-- x[k] = e -/
theorem sPu (i : Nat) {k : Expr} {tk : DE} {x : Str} {p pos' : Pos} (hu : X.A.units + 1 < cLine) (h : EX X O W 2 e ta) (hk : EX X O W 0 k tk) (hi : i ∈ O := by decide) (hx : X.N[i]? = some x := by rfl) (hv : Vis X.env.scope x := by first | exact Or.inl rfl | exact Or.inr (Or.inl rfl) | exact Or.inr (Or.inr rfl)) (hd : (x == ("__debug__" : Str)) = false := by decide)
    (hcd : (x == ("__classdict__" : Str)) = false := by decide) (hs : swapsWith e (some (.Subscript (.Name x p) k pos')) pos.line X.env = pure false := by rfl) :
    SX X O W (.Assign [.Subscript (.Name x p) k pos'] e pos) (sPut i tk ta) := by
  refine PS.imp (ps_dput hu (pe_var hx hv hd hcd) hk h hs) fun N σ H hq => ?_
  obtain ⟨av, H₀, own, ds, R, m⟩ := liftS_iff.mp hq
  unfold sPut at m
  split at m
  · rename_i xs eo
    obtain ⟨q, us, e1, e2, e3, e4⟩ := own_dct R hi eo
    refine ⟨av, H₀, own, ds, R, fin_of R m (fun e h => by rw [h]) (fun h => by rw [h]) fun d ha v H1 s1 r1 => ?_⟩
    rw [ha] at m
    simp only at m
    refine ⟨.ref q, e2, av, H₀, own, ds, R.same s1, fin_of (R.same s1) m (fun e h => by rw [h]) (fun h => by rw [h]) fun kd hkd y H2 s2 rk => ?_⟩
    rw [hkd] at m
    simp only at m
    split at m
    · rename_i kk hkk
      split at m
      · rename_i hl
        have R' := (R.same s1).same s2
        have s := s1.trans s2
        have r : Rep X.K (clean av own H2) d v := Rep.sub (clean_sub (Sub.of s2)) _ _ r1
        have rs := RepK.sub (clean_sub (av := av) (own := own) (Sub.of s)) _ _ e4
        refine ⟨q, _, rfl, ?_, m own σ _ (R'.upd_own (o := .dK (putK us kk v)) hi e1 e2 ⟨putK us kk v, upd_same, rs.put kk r⟩)⟩
        rw [keyOf_kV hkk rk.any]
        exact DPut.k (s _ _ e3) (by rw [e4.length, sizeLine_eq]; exact hl)
      · exact m.elim
    · exact m.elim
  · exact m.elim
/-- x.pop(k) -/
theorem sDe (i : Nat) {k : Expr} {tk : DE} {x : Str} {p apos cpos : Pos} (hk : EX X O W 0 k tk) (M : M1 X (.Name x p) "pop" apos k cpos) (hi : i ∈ O := by decide) (hx : X.N[i]? = some x := by rfl) (hv : Vis X.env.scope x := by first | exact Or.inl rfl | exact Or.inr (Or.inl rfl) | exact Or.inr (Or.inr rfl)) (hd : (x == ("__debug__" : Str)) = false := by decide)
    (hcd : (x == ("__classdict__" : Str)) = false := by decide) (hs : swapsWith (.Call (.Attribute (.Name x p) "pop" apos) [k] [] cpos) none pos.line X.env = pure false := by rfl) :
    SX X O W (.Expr (.Call (.Attribute (.Name x p) "pop" apos) [k] [] cpos) pos) (sDel i tk) := by
  refine PS.imp (ps_expr (pe_dpop1 (pe_var hx hv hd hcd) hk M) hs) fun N σ H hq => ?_
  obtain ⟨av, H₀, own, ds, R, m⟩ := liftS_iff.mp hq
  unfold sDel at m
  split at m
  · rename_i xs eo
    obtain ⟨q, us, e1, e2, e3, e4⟩ := own_dct R hi eo
    refine ⟨.ref q, e2, q, rfl, .inl ⟨us, .inl e3⟩, av, H₀, own, ds, R, fin_of R m (fun e h => by rw [h]) (fun h => by rw [h]) fun kd hkd y H2 s rk => ?_⟩
    rw [hkd] at m
    simp only at m
    split at m
    · rename_i kk hkk
      split at m
      · rename_i w hw
        have R' := R.same s
        have rs := RepK.sub (clean_sub (av := av) (own := own) (Sub.of s)) _ _ e4
        have rv := rs.val kk
        rw [hw] at rv
        obtain ⟨v, ev, _⟩ := rv
        exact ⟨us, kk, v, s _ _ e3, keyOf_kV hkk rk.any, ev, m own σ _ (R'.upd_own (o := .dK (dropK us kk)) hi e1 e2 ⟨dropK us kk, upd_same, rs.drop kk⟩)⟩
      · exact m.elim
    · exact m.elim
  · exact m.elim
/-- x += e -/
theorem sAu (i : Nat) {op : Operator} {f : Int → Int → Int} {x : Str} {p : Pos} (hN : X.N.Nodup) (ho : PIp X op (ipI f)) (h : EX X O W 0 e ta) (hi : i ∉ O := by decide) (hx : X.N[i]? = some x := by rfl) (hl : Loc X.env.scope x := by first | exact Or.inl rfl | exact Or.inr rfl)
    (hf : X.fn x = true ∨ X.env.scope.names.lookup x = some .local := by first | exact .inl rfl | exact .inr rfl) : SX X O W (.AugAssign (.Name x p) op e pos) (sAug i f ta) := by
  refine PS.imp (ps_aug hN hx hl h ho hf) fun N σ H hq => ?_
  obtain ⟨av, H₀, own, ds, R, m⟩ := liftS_iff.mp hq
  unfold sAug at m
  split at m
  · rename_i n en
    obtain ⟨v, e1, e2⟩ := R.val i _ hi en
    simp only [Rep] at e2
    subst e2
    refine ⟨_, e1, av, H₀, own, ds, R, fin_of R m (fun e h => by rw [h]) (fun h => by rw [h]) fun d ha y H' s r => ?_⟩
    rw [ha] at m
    cases d with
    | int j => exact ⟨n, j, rfl, r.int, m own _ H' ((R.same s).set hi (by simp only [Rep]))⟩
    | _ => exact m.elim
  · exact m.elim
/-! ### loops -/
theorem whL (hp : PassesOwn (model X.prog X.w) X.A X.env X.xe) (hc : TX X O W c uc) (hb : BX X O W body t) : SX X O W (.While c body [] pos) (sWh uc t) := by
  refine PS.imp (ps_while hp hc hb) fun N σ H hq => ?_
  obtain ⟨av, H₀, own, ds, R, m⟩ := liftS_iff.mp hq
  refine ⟨fun n σ H => ∃ own ds, Rel X.K O av H₀ own ds σ H ∧ PostS X.K X.mg O W av H₀ N (whileN uc t n ds), ⟨FU, own, ds, R, m⟩, fun n σ H hw => ?_⟩
  obtain ⟨own, ds, R, m⟩ := hw
  refine ⟨av, H₀, own, ds, R, ?_⟩
  cases n with
  | zero => exact m.elim
  | succ n =>
    unfold whileN at m
    refine fin_of R m (fun e h => by rw [h]) (fun h => by rw [h]) fun b hbb H' s => ?_
    rw [hbb] at m
    cases b with
    | false => exact iteF (m own σ H' (R.same s))
    | true =>
      refine iteT ⟨fun σ H => ∃ own ds, Rel X.K O av H₀ own ds σ H ∧ PostS X.K X.mg O W av H₀ N (whileN uc t n ds), fun σ' H' h => ⟨n, Nat.lt_succ_self n, h⟩, ?_⟩
      refine liftS_iff.mpr ⟨av, H₀, own, ds, R.same s, ?_⟩
      simp only at m
      cases et : t ds with
      | nx s1 => rw [et] at m; exact fun own' σ' H' R' => ⟨own', s1, R', m⟩
      | ct s1 => rw [et] at m; exact fun own' σ' H' R' => ⟨own', s1, R', m⟩
      | bk s1 => rw [et] at m; exact m
      | rt d => rw [et] at m; exact m
      | er e s1 => rw [et] at m; exact m
      | stuck => rw [et] at m; exact m
theorem for_core {J : It} {is : List Nat} {g : DG} {xs : List D} {av : Addr → Prop} {H₀ H : Hp} {own : Nat → Option Addr} {ds : DSt} {σ : L2.St} {N : Ends} (R : Rel X.K O av H₀ own ds σ H) (gv : Gives X.K (clean av own H) (nonOwn own H) xs J) (m : PostS X.K X.mg O W av H₀ N (forL g t xs ds)) :
    ∃ Wi : Nat → Nat → L2.St → Hp → Prop, (∃ m, Wi 0 m σ H) ∧ ∀ i m σ H, Wi i m σ H →
      (J.stop i H ∧ N.nx σ H) ∨ (J.go i H ∧ ∃ Nx : L2.St → Hp → Prop, (∀ σ' H', Nx σ' H' → ∃ m', m' < m ∧ Wi (i + 1) m' σ' H') ∧ ∀ x H', J.yld i H x H' → liftG X.K O is g x σ H' fun σ2 H2 => liftS X.K X.mg O W t { N with nx := Nx, ct := Nx, bk := N.nx } σ2 H2) := by
  obtain ⟨G, Y, w, gy⟩ := gv.ex
  have hG : ∀ {own' ds' σ' H'}, Rel X.K O av (nonOwn own H) own' ds' σ' H' → _ := fun {own' ds' σ' H'} R' => gy av own' H' R'.base R'.keep R'.live R'.av0
  refine for_it w (fun i σ H' => ∃ own' ds', Rel X.K O av (nonOwn own H) own' ds' σ H' ∧ PostS X.K X.mg O W av H₀ N (forL g t (xs.drop i) ds')) ⟨own, ds, R.rebase, by simpa using m⟩ (fun i σ' H' hi p => ?_) (fun i x σ' H' H2 hi p y => ?_) (fun σ' H' p => ?_)
  · obtain ⟨own', ds', R', _⟩ := p
    exact (hG R').1
  · obtain ⟨own', ds', R', m⟩ := p
    obtain ⟨s2, d, ed, rd⟩ := (hG R').2 i x H2 hi y
    have edrop : xs.drop i = d :: xs.drop (i + 1) := by
      obtain ⟨hlt, rfl⟩ := List.getElem?_eq_some_iff.mp ed
      exact List.drop_eq_getElem_cons hlt
    rw [edrop] at m
    unfold forL at m
    cases eg : g d ds' with
    | ok s1 =>
      rw [eg] at m
      simp only at m
      refine ⟨av, nonOwn own H, own', ds', d, s1, R'.same s2, rd, eg, fun σ3 R3 _ => ?_⟩
      refine liftS_iff.mpr ⟨av, nonOwn own H, own', s1, R3, ?_⟩
      cases et : t s1 with
      | nx s3 => rw [et] at m; exact fun own'' σ'' H'' R'' => ⟨own'', s3, R'', m⟩
      | ct s3 => rw [et] at m; exact fun own'' σ'' H'' R'' => ⟨own'', s3, R'', m⟩
      | bk s3 => rw [et] at m; exact fun own'' σ'' H'' R'' => m own'' σ'' H'' (R.unbase R'')
      | rt e => rw [et] at m; exact fun v H'' s r => m v H'' (fun b o e => s b o (nonOwn_of (fun i z => by have := R.fresh i b z; rw [e] at this; cases this) (R.base b o e))) r
      | er e s3 => rw [et] at m; exact fun own'' c dd σ'' H'' R'' => m own'' c dd σ'' H'' (R.unbase R'')
      | stuck => rw [et] at m; exact m
    | err e => rw [eg] at m; exact m.elim
    | stuck => rw [eg] at m; exact m.elim
  · obtain ⟨own', ds', R', m⟩ := p
    rw [List.drop_length] at m
    exact m own' σ' H' (R.unbase R')
theorem foL {it : DI} {is : List Nat} {g : DG} {tg : Expr} (hp : PassesOwn (model X.prog X.w) X.A X.env X.xe) (hc : X.calm = true) (hi : IX X O W false tg e it) (hg : GX X O is tg g) (hb : BX X O W body t)
    (hs : ∀ x, foldedSetIterable e X.env x = pure x := by intro _; rfl) : SX X O W (.For tg e body [] pos) (sFor it g t) := by
  refine PS.imp (ps_for hp hc hi hg hb hs) fun N σ H hq => ?_
  obtain ⟨av, H₀, own, ds, R, m⟩ := liftS_iff.mp hq
  unfold sFor at m
  refine ⟨av, H₀, own, ds, R, fin_of R m (fun e h => by rw [h]) (fun h => by rw [h]) fun xs hx J H1 s1 gv => ?_⟩
  rw [hx] at m
  exact for_core (R.same s1) gv m
end
end DL
/-! DL8: raise, try, defs. -/
namespace DL
open PySem PySem.Spec L2
/-- an own exception class without own __init__, over ValueError -/
structure XF (K : PySem.W.Frag) (mg : Str → Option Value) (x : Str) (C : Addr) : Prop where
  m : mg x = some (.ref C)
  q : PySem.W.excIn K C [.type "ValueError", .type "Exception", .type "BaseException", .type "object"] "ValueError.__new__" = true
  k : PySem.W.keepIn K (.ref C) = true
  s : PySem.W.subIn K (.ref C) (.type "BaseException") = some true
  t : PySem.W.typeIn K (.ref C) = some (.type "type")
theorem pmk_own0 {X : Cx} {C : Addr} {bmB : List Value} {B newId initId : String} {x : Str} {p pos : Pos} (F : ExcBaseFacts B newId initId bmB) (q : PySem.W.excIn X.K C bmB newId = true) (gC : X.mg x = some (.ref C)) (kC : PySem.W.keepIn X.K (.ref C) = true) (r : Raises X (.ref C)) (hg : Gl X x)
    (hdb : (x == ("__debug__" : Str)) = false := by decide) : PMk X (.Call (.Name x p) [] [] pos) (fun _ H Q => Q (.ref C) none H) := by
  intro pins s σ H Q I h
  refine wpAny_Call_Name_kw (ld_glob I hg gC ?_ hdb)
  refine PySem.W.callWith_K0 (K := X.K) I.kIn kC ?_
  show wpAny _ _ (call (.ref C) []) _ _ _
  obtain ⟨bm, N, nm, qn, bs, hdct, sn, sub, ab, col, dd, k0, k1, k2, k3, k5, mN, hC, hN, hni, T⟩ := exc_obj I.kIn q
  refine wpAny_call_exc_subT F T hC hN hni (fun h' e hm => ?_) (by show 0 ≤ sizeLine; rw [sizeLine_eq]; omega)
  exact mk_of I hm r h (I.hok.gone hm.new)
section
variable {X : Cx} {O : List Nat} {W : WX} {a b c e : Expr} {ta tb tc : DE} {uc : DT} {pos : Pos} {st : Stmt} {rest body orelse : List Stmt} {t u : DS} {k : Nat}
theorem sRa {x : Str} {C : Addr} {p p2 : Pos} (T : CT X W k) (F : XF X.K X.mg x C) (hg : Gl X x := by rfl) (hdb : (x == ("__debug__" : Str)) = false := by decide) : SX X O W (.Raise (some (.Call (.Name x p) [] [] p2)) none pos) (sRai x [] daN) := by
  refine PS.imp (ps_raise T.calm T.tk (pmk_own0 PySem.F.excBase_ValueError F.q F.m F.k (raises_own F.s F.t) hg hdb)) fun N σ H h => ?_
  obtain ⟨av, H₀, own, ds, R, m⟩ := liftS_iff.mp h
  exact m own _ _ σ H R ⟨C, F.m, rfl, .inl ⟨rfl, rfl⟩⟩
theorem Rel.unset {K : PySem.W.Frag} {av : Addr → Prop} {H₀ H : Hp} {own : Nat → Option Addr} {ds : DSt} {σ : L2.St} {i : Nat} {v : Option V} (R : Rel K O av H₀ own ds σ H) (hi : i ∉ O) : Rel K O av H₀ own (ds.set i none) (σ.set i v) H :=
  { R with
    len := by rw [List.length_set, List.length_set]; exact R.len
    val := fun j e hj h => by
      by_cases q : i = j
      · subst q
        rw [List.getElem?_set, if_pos rfl] at h
        split at h <;> cases h
      · rw [List.getElem?_set_ne q] at h
        rw [List.getElem?_set_ne q]
        exact R.val j e hj h
    ownv := fun j e hj h => by
      have q : i ≠ j := fun z => hi (z ▸ hj)
      rw [List.getElem?_set_ne q] at h
      rw [List.getElem?_set_ne q]
      exact R.ownv j e hj h }
/-! ### an except suite: slot i holds the exception at a -/
def PostH (K : PySem.W.Frag) (O : List Nat) (i : Nat) (a : Addr) (av : Addr → Prop) (H₀ : Hp) (N : Ends) : RS → Prop
  | .nx ds' => ∀ own' σ' H', Rel K O av H₀ own' ds' σ' H' → σ'[i]? = some (some (.ref a)) → N.nx σ' H'
  | .rt d => ∀ v H', Same H₀ H' → Rep K (clean av noOwn H') d v → N.rt v H'
  | _ => False
def liftH (K : PySem.W.Frag) (O : List Nat) (i : Nat) (a : Addr) (t : DS) : TS := fun N σ H => ∃ av H₀ own ds, Rel K O av H₀ own ds σ H ∧ σ[i]? = some (some (.ref a)) ∧ PostH K O i a av H₀ N (t ds)
def HX (X : Cx) (O : List Nat) (i : Nat) (a : Addr) (st : Stmt) (t : DS) : Prop := PS X st (liftH X.K O i a t)
def HB (X : Cx) (O : List Nat) (i : Nat) (a : Addr) (st : List Stmt) (t : DS) : Prop := PSs X st (liftH X.K O i a t)
variable {i : Nat} {ad : Addr}
theorem hNil : HB X O i ad [] sNx := PSs.imp pss_nil fun N σ H h => by
  obtain ⟨av, H₀, own, ds, R, es, m⟩ := h
  exact m own σ H R es
theorem hC (h1 : HX X O i ad st t) (h2 : HB X O i ad rest u) : HB X O i ad (st :: rest) (sSq t u) := PSs.imp (pss_cons h1 h2) fun N σ H h => by
  obtain ⟨av, H₀, own, ds, R, es, m⟩ := h
  refine ⟨av, H₀, own, ds, R, es, ?_⟩
  unfold sSq at m
  cases e : t ds with
  | nx s1 =>
    rw [e] at m
    exact fun own' σ' H' R' es' => ⟨av, H₀, own', s1, R', es', m⟩
  | rt d => rw [e] at m; exact m
  | bk s1 => rw [e] at m; exact m.elim
  | ct s1 => rw [e] at m; exact m.elim
  | er x s1 => rw [e] at m; exact m.elim
  | stuck => rw [e] at m; exact m.elim
theorem finH {α : Type} {K : PySem.W.Frag} {mg : Str → Option Value} {av : Addr → Prop} {H₀ H : Hp} {ds : DSt} {σ : L2.St} {N : Ends} {P : α → Prop} {x : Res α} {y : RS} (m : PostH K O i ad av H₀ N y) (he : ∀ e, x = .err e → y = .er e ds) (hs : x = .stuck → y = .stuck) (hp : ∀ a, x = .ok a → P a) : FinP mg W σ H P x := by
  cases x with
  | ok a => exact hp a rfl
  | err e =>
    rw [he e rfl] at m
    exact m.elim
  | stuck =>
    rw [hs rfl] at m
    exact m
theorem hRt (h : EX X O W 0 e ta) : HX X O i ad (.Return (some e) pos) (sRet ta) := PS.imp (ps_ret h) fun N σ H h => by
  obtain ⟨av, H₀, own, ds, R, es, m⟩ := h
  unfold sRet at m
  exact ⟨av, H₀, own, ds, R, finH (ds := ds) m (fun e h => by rw [h]) (fun h => by rw [h]) fun a ha v H' s r => by rw [ha] at m; exact m v H' (R.base.trans s) r⟩
theorem hN (j : Nat) {x : Str} {p : Pos} (hN : X.N.Nodup) (h : EX X O W 2 e ta) (hij : j ≠ i := by decide) (hi : j ∉ O := by decide) (hx : X.N[j]? = some x := by rfl) (hl : Loc X.env.scope x := by first | exact Or.inl rfl | exact Or.inr rfl) (hs : swapsWith e (some (.Name x p)) pos.line X.env = pure false := by rfl)
    (hf : X.fn x = true ∨ X.env.scope.names.lookup x = some .local := by first | exact .inl rfl | exact .inr rfl) : HX X O i ad (.Assign [.Name x p] e pos) (sAs (gN j) ta) := PS.imp (ps_set hN hx hl h hs hf) fun N σ H h => by
  obtain ⟨av, H₀, own, ds, R, es, m⟩ := h
  unfold sAs at m
  refine ⟨av, H₀, own, ds, R, finH (ds := ds) m (fun e h => by rw [h]) (fun h => by rw [h]) fun d ha v H' s r => ?_⟩
  rw [ha] at m
  exact m own _ H' ((R.same s).set hi r) (by rw [List.getElem?_set_ne hij]; exact es)
/-- isinstance(wrong, T) -/
def liftX (i : Nat) (a : Addr) (b : Bool) : TE := fun σ H Q => σ[i]? = some (some (.ref a)) ∧ Q (.bl b) H
theorem eXs {x T : Str} {D CT : Addr} {oe : Obj} {pn : List (Addr × Obj)} {bb : Bool} {p p2 p3 : Pos} (C : ExcC X.K D) (hz : Zc (.ref D) none oe) (hf : ∃ vs, oe.data = .fields vs) (hT : X.mg T = some (.ref CT)) (hk : PySem.W.kitOne X.K (.ref D) (.ref CT) = some bb) (hm : X.mg "isinstance" = none)
    (hx : X.N[i]? = some x) (hv : Vis X.env.scope x := by first | exact Or.inl rfl | exact Or.inr (Or.inl rfl) | exact Or.inr (Or.inr rfl)) (hd : (x == ("__debug__" : Str)) = false := by decide)
    (hcd : (x == ("__classdict__" : Str)) = false := by decide) (hg : Gl X "isinstance" := by rfl) (hgT : Gl X T := by rfl) (hdT : (T == ("__debug__" : Str)) = false := by decide)
    (he : starEach (.Name x p :: [.Name T p2]) X.env = (false, eval (.Name x p) X.env) :: starEach [.Name T p2] X.env := by rfl) (he2 : starEach [.Name T p2] X.env = (false, eval (.Name T p2) X.env) :: starEach [] X.env := by rfl) (hpl : (backTo pos (starEach [.Name T p2] X.env)).any (·.1) = false := by rfl) :
    PE (X.suite ad ((ad, oe) :: pn)) (.Call (.Name "isinstance" p3) [.Name x p, .Name T p2] [] pos) (liftX i ad bb) := by
  refine PE.imp (pe_callB (X := X.suite ad ((ad, oe) :: pn)) (call_isE C hz hf) hg hm PyProof.Rows.boot_isinstance (pa_cons (pe_var hx hv hd hcd) (pa_cons (pe_glob (v := .ref CT) hgT hT rfl hdT) pa_nil he2) he) (by decide) (by decide) he hpl) fun σ H Q h => ?_
  obtain ⟨es, q⟩ := h
  exact ⟨.ref ad, es, .ref CT, .ref CT, bb, rfl, fun _ h => h, hk, q⟩
theorem hIf {bb : Bool} {x : Err} {T : Str} (hc : PE X c (liftX i ad bb)) (hb : bb = (x.cls == T)) (h1 : HB X O i ad body t) (h2 : HB X O i ad orelse u) (he : ∀ whole, isTrue c X.env whole = (do let v ← whole; standAt c.pos; holding [v] (truthy v)) := by intro _; rfl) :
    HX X O i ad (.If c body orelse pos) (sIf (dB (xIs x T)) t u) := PS.imp (ps_if (pt_val hc he) h1 h2) fun N σ H h => by
  obtain ⟨av, H₀, own, ds, R, es, m⟩ := h
  have m : PostH X.K O i ad av H₀ N (if (x.cls == T) = true then t ds else u ds) := by
    unfold sIf dB xIs at m
    simp only [Res.bind, boolR] at m
    cases q : (x.cls == T) <;> rw [q] at m <;> simpa using m
  refine ⟨es, bb, rfl, ?_⟩
  rw [← hb] at m
  cases bb with
  | true => exact iteT ⟨av, H₀, own, ds, R, es, m⟩
  | false => exact iteF ⟨av, H₀, own, ds, R, es, m⟩
theorem hRx {bb : Bool} {x : Err} {T : Str} (hc : PE X c (liftX i ad bb)) (hb : bb = (x.cls == T)) : HX X O i ad (.Return (some c) pos) (sRet (xIs x T)) := PS.imp (ps_ret hc) fun N σ H h => by
  obtain ⟨av, H₀, own, ds, R, es, m⟩ := h
  refine ⟨es, m _ H R.base ?_⟩
  simp only [Rep, hb]
/-- the classes that a handler meets -/
structure XL (K : PySem.W.Frag) (mg : Str → Option Value) (cL : Value) (L : List Str) : Prop where
  ex : ∀ x ∈ L, ∃ C, mg x = some (.ref C) ∧ PySem.W.exmOne K (.ref C) cL = some true ∧ ExcC K C
theorem sTr {L : List Str} {cL : Value} {xN n : Str} {np pos' : Pos} {b₀ : Stmt} {suite : List Stmt} {h : Err → DS} (C : CT X W k) (hs : X.stack = X.env :: X.outer) (hf : X.env.frame = some X.env.locals) (hNd : X.N.Nodup) (hi : X.N[i]? = some n) (hln : X.env.kindOf n = some .local) (hc : Names X xN cL) (hO : i ∉ O) (F : XL X.K X.mg cL L)
    (hb : ∀ (W : WX) (pn : List (Addr × Obj)) (xe : Value → Shared → Prop), CT (X.tr pn xe) W k → BX (X.tr pn xe) O W body t)
    (hsu : ∀ (a : Addr) (oe : Obj) (D : Addr) (pn : List (Addr × Obj)) (x : Err), x.cls ∈ L → X.mg x.cls = some (.ref D) → ExcC X.K D → Zc (.ref D) none oe → (∃ vs, oe.data = .fields vs) → HB (X.suite a ((a, oe) :: pn)) O i a (b₀ :: suite) (h x)) :
    SX X O W (.Try body [.ExceptHandler (some (.Name xN np)) (some n) (b₀ :: suite) pos'] [] [] pos) (sTry i L t h) := by
  refine PS.imp (ps_try_as (tb := fun W => liftS X.K X.mg O W t) (ts := fun a cls d N σ H => ∃ D x, cls = .ref D ∧ d = none ∧ x.cls ∈ L ∧ X.mg x.cls = some (.ref D) ∧ ExcC X.K D ∧ liftH X.K O i a (h x) N σ H) (Wout := W) hs hf hNd hi hln hc C.tk
    (fun W' pn xe tk po => hb W' pn xe ⟨C.hr, C.calm, fun σ => passAt tk σ, po, tk⟩)
    (fun a oe cls d pn hz hv => ⟨fun pins s σ H N I q => ?_⟩)) fun N σ H hq => ?_
  · obtain ⟨D, x, rfl, rfl, hx, hm, hE, q⟩ := q
    exact (hsu a oe D pn x hx hm hE hz hv).run pins s σ H N I q
  · obtain ⟨av, H₀, own, ds, R, m⟩ := liftS_iff.mp hq
    refine liftS_iff.mpr ⟨av, H₀, own, ds, R, ?_⟩
    unfold sTry at m
    cases et : t ds with
    | er x s1 =>
      rw [et] at m
      simp only at m
      split at m
      · rename_i hx
        rw [Bool.and_eq_true, Bool.and_eq_true] at hx
        have hx1 : x.cls ∈ L := by simpa using hx.1.1
        have hx2 : x.fs = [] := by simpa using hx.1.2
        have hx3 : i < s1.length := of_decide_eq_true hx.2
        intro own' c dd σ' H' R' er
        obtain ⟨C', e1, rfl, e2⟩ := er
        obtain ⟨C2, f1, f2, f3⟩ := F.ex _ hx1
        rw [e1] at f1
        cases f1
        refine ⟨true, f2, fun _ a ha => ?_, fun z => by cases z⟩
        have hdd : dd = none := by
          rcases e2 with ⟨_, z⟩ | ⟨z, _⟩
          · exact z
          · exact absurd hx2 z
        refine ⟨C', x, rfl, hdd, hx1, e1, f3, av, H₀, own', s1.set i none, R'.unset hO, ?_, ?_⟩
        · rw [List.getElem?_set, if_pos rfl, if_pos (by rw [R'.len]; exact hx3)]
        · cases eh : h x (s1.set i none) with
          | nx s2 =>
            rw [eh] at m
            exact fun own'' σ'' H'' R'' _ => m own'' _ H'' (R''.unset hO)
          | rt d => rw [eh] at m; exact m
          | _ => rw [eh] at m; exact m.elim
      · exact m.elim
    | nx s1 => rw [et] at m; exact m
    | rt s1 => rw [et] at m; exact m
    | bk s1 => rw [et] at m; exact m
    | ct s1 => rw [et] at m; exact m
    | stuck => rw [et] at m; exact m
end
/-! ### defs -/
theorem start_rel {K : PySem.W.Frag} {O : List Nat} {av : Addr → Prop} {H : Hp} {xs : List D} {vs : List V} {N : List Str} {k : Nat} (h0 : ∀ a, av a → H a ≠ none) (rs : Reps K (clean av noOwn H) xs vs) (hl : xs.length = k) (ho : ∀ i ∈ O, k ≤ i) :
    Rel K O av H noOwn (xs.map some ++ List.replicate (N.length - k) none) (L2.start N vs) H where
  len := by unfold L2.start; rw [List.length_append, List.length_append, List.length_map, List.length_map, List.length_replicate, List.length_replicate, rs.length, hl]
  base := Same.refl H
  av0 := h0
  avo := fun i p e => by cases e
  dom := fun i p e => by cases e
  fresh := fun i p e => by cases e
  live := fun i p e => by cases e
  inj := fun i j p e => by cases e
  val := fun i d hi e => by
    by_cases q : i < k
    · rw [List.getElem?_append_left (by rw [List.length_map, hl]; exact q), List.getElem?_map] at e
      have e1 : xs[i]? = some d := by
        cases z : xs[i]? with
        | none => rw [z] at e; cases e
        | some y => rw [z] at e; cases e; rfl
      obtain ⟨v, ev, rv⟩ := rs.get e1
      refine ⟨v, ?_, rv⟩
      unfold L2.start
      rw [List.getElem?_append_left (by rw [List.length_map, rs.length, hl]; exact q), List.getElem?_map, ev]
      rfl
    · rw [List.getElem?_append_right (by rw [List.length_map, hl]; omega), List.getElem?_replicate] at e
      split at e <;> cases e
  ownv := fun i d hi e => by
    have q := ho i hi
    rw [List.getElem?_append_right (by rw [List.length_map, hl]; omega), List.getElem?_replicate] at e
    split at e <;> cases e
/-- a def, read -/
theorem okD {P : Program} {w : World} {K : PySem.W.Frag} {mg : Str → Option Value} {base : Heap} {x qual : Str} {st : Stmt} {f : Addr} {fd : FuncData} {N ps : List Str} {k n : Nat} {O : List Nat} {b : DS} (F : Fun K x qual st f fd) (sc : FnScope N ps (defScope st)) (hn : N.length = n) (ho : ∀ i ∈ O, ps.length ≤ i)
    (hb : ∀ (cdv : Value) (A : Around) (outer : List Env) (s : Shared) (H : Hp) (E : XK), CT (cxOf (CX P w) P w K mg base N qual (defScope st) f cdv A outer s H E) (fun c d _ H => E c d H) k →
      BX (cxOf (CX P w) P w K mg base N qual (defScope st) f cdv A outer s H E) O (fun c d _ H => E c d H) (defBody st) b) :
    FnOk P w K mg base (CX P w) (k + 1) f fd ps (spD K mg (defM n ps.length b)) := by
  refine F.okX sc (fun vs H Q E h => ?_) (fun cdv A outer s H vs Q E hr h => ⟨liftS K mg O (fun c d _ H => E c d H) b, hb cdv A outer s H E ⟨hr, rfl, fun σ => passAt (takes_of rfl rfl rfl rfl) σ, passes_of rfl, takes_of rfl rfl rfl rfl⟩, ?_⟩)
  · obtain ⟨ds, av, _, rs, m⟩ := h
    unfold defM at m
    split at m
    · rename_i hl
      split at hl
      · rename_i q
        rw [rs.length, q]
      · cases hl
    · rename_i hl
      split at hl
      · rename_i q
        rw [rs.length, q]
      · cases hl
    · exact m.elim
  · obtain ⟨ds, av, h0, rs, m⟩ := h
    by_cases hl : ds.length = ps.length
    · unfold defM at m
      rw [if_pos hl] at m
      subst hn
      refine liftS_iff.mpr ⟨av, H, noOwn, _, start_rel h0 rs hl ho, ?_⟩
      cases eb : b (ds.map some ++ List.replicate (N.length - ps.length) none) with
      | nx s1 =>
        rw [eb] at m
        exact fun own' σ' H' R' => m _ H' R'.base (by simp only [Rep])
      | rt d => rw [eb] at m; exact fun v H' s r => m v H' s r
      | er x s1 => rw [eb] at m; exact fun own' c dd σ' H' R' er => m c dd H' R'.base er
      | bk s1 => rw [eb] at m; exact m.elim
      | ct s1 => rw [eb] at m; exact m.elim
      | stuck => rw [eb] at m; exact m.elim
    · unfold defM at m
      rw [if_neg hl] at m
      exact m.elim
/-- a def that raises nothing -/
def spD0 (K : PySem.W.Frag) (mg : Str → Option Value) (f : List D → Res D) : Sp := fun vs H Q E => ∃ ds av, (∀ a, av a → H a ≠ none) ∧ Reps K (clean av noOwn H) ds vs ∧ match f ds with
  | .ok d => ∀ v H', Same H H' → Rep K (clean av noOwn H') d v → Q v H'
  | _ => False
theorem okD0 {P : Program} {w : World} {K : PySem.W.Frag} {mg : Str → Option Value} {base : Heap} {x qual : Str} {st : Stmt} {f : Addr} {fd : FuncData} {N ps : List Str} {k n : Nat} {O : List Nat} {b : DS} (F : Fun K x qual st f fd) (sc : FnScope N ps (defScope st)) (hn : N.length = n) (ho : ∀ i ∈ O, ps.length ≤ i)
    (hb : ∀ (cdv : Value) (A : Around) (outer : List Env) (s : Shared) (H : Hp) (E : XK), CT (cxOf CX0 P w K mg base N qual (defScope st) f cdv A outer s H E).nox W0 k →
      BX (cxOf CX0 P w K mg base N qual (defScope st) f cdv A outer s H E).nox O W0 (defBody st) b) :
    FnOk P w K mg base CX0 (k + 1) f fd ps (spD0 K mg (defM n ps.length b)) := by
  refine F.ok sc (fun vs H Q E h => ?_) (fun cdv A outer s H vs Q E hr h => ⟨liftS K mg O W0 b, hb cdv A outer s H E ⟨hr, rfl, fun σ _ _ _ _ _ _ h => ?_, PassesOwn.never, takes0⟩, ?_⟩)
  · obtain ⟨ds, av, _, rs, m⟩ := h
    by_cases q : ds.length = ps.length
    · rw [rs.length, q]
    · unfold defM at m
      rw [if_neg q] at m
      exact m.elim
  · obtain ⟨_, _, _, _, _, _, _, _, _, _, _, _, z⟩ := h
    exact z.elim
  · obtain ⟨ds, av, h0, rs, m⟩ := h
    by_cases hl : ds.length = ps.length
    · unfold defM at m
      rw [if_pos hl] at m
      subst hn
      refine liftS_iff.mpr ⟨av, H, noOwn, _, start_rel h0 rs hl ho, ?_⟩
      cases eb : b (ds.map some ++ List.replicate (N.length - ps.length) none) with
      | nx s1 =>
        rw [eb] at m
        exact fun own' σ' H' R' => m _ H' R'.base (by simp only [Rep])
      | rt d => rw [eb] at m; exact fun v H' s r => m v H' s r
      | er x s1 => rw [eb] at m; exact m.elim
      | bk s1 => rw [eb] at m; exact m.elim
      | ct s1 => rw [eb] at m; exact m.elim
      | stuck => rw [eb] at m; exact m.elim
    · unfold defM at m
      rw [if_neg hl] at m
      exact m.elim
end DL
/-! DL9: more built-ins. -/
namespace DL
open PySem PySem.Spec L2
section
variable {X : Cx} {O : List Nat} {W : WX} {a b c e : Expr} {es : List Expr} {ta tb tc : DE} {t : DA} {p pos apos cpos : Pos} {lv l1 l2 k n : Nat} {x : Str}
theorem eIsT {T : Str} {nm : String} {g : D → Option D} {p2 : Pos} (hT : X.mg T = none) (hvT : bootBuiltins T = some (.type nm)) (hgb : ∀ d, ∃ b, g d = some (.bl b) ∧ kitB (tyN d) nm = some b) (hm : X.mg "isinstance" = none) (ha : EX X O W 0 a ta) (hgT : Gl X T := by rfl) (hnT : T ≠ "__name__" := by decide) (hdT : (T == ("__debug__" : Str)) = false := by decide) (hg : Gl X "isinstance" := by rfl)
    (he : starEach (a :: [.Name T p2]) X.env = (false, eval a X.env) :: starEach [.Name T p2] X.env := by rfl) (he2 : starEach [.Name T p2] X.env = (false, eval (.Name T p2) X.env) :: starEach [] X.env := by rfl) (hpl : (backTo pos (starEach [.Name T p2] X.env)).any (·.1) = false := by rfl) :
    EX X O W lv (.Call (.Name "isinstance" p) [a, .Name T p2] [] pos) (d1 g ta) :=
  eIsi (c := .ty nm) (u := .type nm) (pe_bltn hgT hT hvT rfl hnT hdT) (.ty nm) (isi_ty hgb) hm ha hg he he2 hpl
/-- a class of which nothing is made -/
theorem eIsC {T : Str} {C : Addr} {p2 : Pos} (hT : X.mg T = some (.ref C)) (hk : ∀ d, PySem.W.kitOne X.K (.type (tyN d)) (.ref C) = some false) (hm : X.mg "isinstance" = none) (ha : EX X O W 0 a ta) (hgT : Gl X T := by rfl) (hdT : (T == ("__debug__" : Str)) = false := by decide) (hg : Gl X "isinstance" := by rfl)
    (he : starEach (a :: [.Name T p2]) X.env = (false, eval a X.env) :: starEach [.Name T p2] X.env := by rfl) (he2 : starEach [.Name T p2] X.env = (false, eval (.Name T p2) X.env) :: starEach [] X.env := by rfl) (hpl : (backTo pos (starEach [.Name T p2] X.env)).any (·.1) = false := by rfl) :
    EX X O W lv (.Call (.Name "isinstance" p) [a, .Name T p2] [] pos) (d1 fIsOwn ta) :=
  eIsi (c := .ref C) (u := .ref C) (pe_glob (v := .ref C) hgT hT rfl hdT) (.own C) (fun d r e => by cases e; exact ⟨false, rfl, hk d⟩) hm ha hg he he2 hpl
/-- min, max of two -/
theorem eMin2 (hc : X.calm = true) (hm : X.mg "min" = none) (ha : EX X O W 0 a ta) (hb : EX X O W 0 b tb) (hg : Gl X "min" := by rfl) (he : starEach (a :: [b]) X.env = (false, eval a X.env) :: starEach [b] X.env := by rfl) (he2 : starEach (b :: []) X.env = (false, eval b X.env) :: starEach [] X.env := by rfl) (hpl : (backTo pos (starEach [b] X.env)).any (·.1) = false := by rfl) :
    EX X O W lv (.Call (.Name "min" p) [a, b] [] pos) (d2 fMin2 ta tb) := by
  refine EX.up (PE.imp (pe_callB (call_min2 hc) hg hm PyProof.Rows.boot_min (pa_cons ha (pa_cons hb pa_nil he2) he) (by decide) (by decide) he hpl) fun σ H Q h => ?_)
  refine lift_d2 (f := fMin2) (l1 := 0) (l2 := 0) (r := fun x y H1 Q => ∃ i j, [x, y] = [V.int i, V.int j] ∧ Q (.int (if j < i then j else i)) H1) ?_ h
  intro O av H₀ own ds σ H x y d1 d2 d Q R r1 r2 e q
  unfold fMin2 at e
  split at e
  · cases e
    exact ⟨_, _, by rw [r1.int, r2.int], q _ H (Same.refl _) (RepLv.fl (d := .int _) rfl)⟩
  · cases e
theorem eMax2 (hc : X.calm = true) (hm : X.mg "max" = none) (ha : EX X O W 0 a ta) (hb : EX X O W 0 b tb) (hg : Gl X "max" := by rfl) (he : starEach (a :: [b]) X.env = (false, eval a X.env) :: starEach [b] X.env := by rfl) (he2 : starEach (b :: []) X.env = (false, eval b X.env) :: starEach [] X.env := by rfl) (hpl : (backTo pos (starEach [b] X.env)).any (·.1) = false := by rfl) :
    EX X O W lv (.Call (.Name "max" p) [a, b] [] pos) (d2 fMax2 ta tb) := by
  refine EX.up (PE.imp (pe_callB (call_max2 hc) hg hm PyProof.Rows.boot_max (pa_cons ha (pa_cons hb pa_nil he2) he) (by decide) (by decide) he hpl) fun σ H Q h => ?_)
  refine lift_d2 (f := fMax2) (l1 := 0) (l2 := 0) (r := fun x y H1 Q => ∃ i j, [x, y] = [V.int i, V.int j] ∧ Q (.int (if j > i then j else i)) H1) ?_ h
  intro O av H₀ own ds σ H x y d1 d2 d Q R r1 r2 e q
  unfold fMax2 at e
  split at e
  · cases e
    exact ⟨_, _, by rw [r1.int, r2.int], q _ H (Same.refl _) (RepLv.fl (d := .int _) rfl)⟩
  · cases e
/-! ### methods -/
theorem isD_vw {H : Hp} {a : Addr} {us : List (Key × V)} (h : vw (H a) = some (.dK us)) : IsD H a := .inl ⟨us, rd_of_vw h⟩
theorem kV_keyOf {K : PySem.W.Frag} {M : Hp} {d : D} {k : Key} {v : V} (h : keyOf d = some k) (r : Rep K M d v) : v = kV k := by
  cases d <;> simp only [keyOf] at h <;> first | cases h | skip
  · simp only [Rep] at r; rw [r]; rfl
  · simp only [Rep] at r; rw [r]; rfl
theorem RepK.val2 {K : PySem.W.Frag} {M : Hp} {kvs : List (Key × D)} {ks : List (Key × V)} (r : RepK K M kvs ks) (k : Key) {dd : D} {v : V} (hd : Rep K M dd v) : Rep K M ((lk kvs k).getD dd) ((valV ks k).getD v) := by
  have z := r.val k
  cases e : lk kvs k with
  | none => rw [e] at z; rw [z]; exact hd
  | some w => rw [e] at z; obtain ⟨x, e1, q⟩ := z; rw [e1]; exact q
theorem eGet1 (hu : X.A.units + 1 < cLine) (ha : EX X O W 1 a ta) (hb : EX X O W 0 b tb) (m : M1 X a "get" apos b cpos) : EX X O W lv (.Call (.Attribute a "get" apos) [b] [] cpos) (dGet1 ta tb) := by
  refine EX.up (PE.imp (pe_dget1 hu ha hb m) fun σ H Q h => ?_)
  obtain ⟨av, H₀, own, ds, R, m⟩ := h
  refine ⟨av, H₀, own, ds, R, (FinP.bind m).later (Same.refl _) fun x1 m1 v H1 s1 r1 => ?_⟩
  cases x1 with
  | dct kvs =>
    obtain ⟨p, us, rfl, hp, rs⟩ := RepLv.dct r1
    refine ⟨p, rfl, isD_vw hp, av, H₀, own, ds, R.same s1, (FinP.bind m1).later s1 fun x2 m2 y H2 s2 r2 => ?_⟩
    obtain ⟨d, e, q⟩ := m2.ofO
    unfold mGet1 at e
    simp only at e
    split at e
    · rename_i k hk
      cases e
      have hp2 := (Sub.of s2) p _ hp
      have rs2 := RepK.sub (clean_sub (av := av) (own := own) (Sub.of s2)) _ _ rs
      refine ⟨valV us k, .inl ⟨us, k, rd_of_vw hp2, kV_keyOf hk r2.any, rfl⟩, q _ H2 (s1.trans s2) (RepLv.up (rs2.val2 k ?_))⟩
      simp only [Rep]
    · cases e
  | _ => exact m1.elim
theorem eGet2 (hu : X.A.units + 1 < cLine) (ha : EX X O W 1 a ta) (hb : EX X O W 0 b tb) (hc : EX X O W 2 c tc) (m : M2 X a "get" apos b c cpos) : EX X O W lv (.Call (.Attribute a "get" apos) [b, c] [] cpos) (dGet2 ta tb tc) := by
  refine EX.up (PE.imp (pe_dget2 hu ha hb hc m) fun σ H Q h => ?_)
  obtain ⟨av, H₀, own, ds, R, m⟩ := h
  refine ⟨av, H₀, own, ds, R, (FinP.bind m).later (Same.refl _) fun x1 m1 v H1 s1 r1 => ?_⟩
  cases x1 with
  | dct kvs =>
    obtain ⟨p, us, rfl, hp, rs⟩ := RepLv.dct r1
    refine ⟨p, rfl, isD_vw hp, av, H₀, own, ds, R.same s1, (FinP.bind m1).later s1 fun x2 m2 y H2 s2 r2 => ?_⟩
    refine ⟨av, H₀, own, ds, (R.same s1).same s2, (FinP.bind m2).later (s1.trans s2) fun x3 m3 z H3 s3 r3 => ?_⟩
    obtain ⟨d, e, q⟩ := m3.ofO
    unfold mGet2 at e
    simp only at e
    split at e
    · rename_i k hk
      cases e
      have hp2 := (Sub.of (s2.trans s3)) p _ hp
      have rs2 := RepK.sub (clean_sub (av := av) (own := own) (Sub.of (s2.trans s3))) _ _ rs
      exact ⟨valV us k, .inl ⟨us, k, rd_of_vw hp2, kV_keyOf hk r2.any, rfl⟩, q _ H3 ((s1.trans s2).trans s3) (RepLv.up (rs2.val2 k r3))⟩
    · cases e
  | _ => exact m1.elim
theorem eJoin (ha : EX X O W 0 a ta) (hb : EX X O W 0 b tb) (hs : starEach [b] X.env = [(false, eval b X.env)] := by rfl) (hbase : attributeBase a "join" X.env (eval a X.env) = eval a X.env := by rfl) (hline : (apos.endLine == cpos.line) = true := by rfl) :
    EX X O W lv (.Call (.Attribute a "join" apos) [b] [] cpos) (dSm mJoin ta tb) := by
  refine EX.up (PE.imp (pe_join ha hb hs hbase hline) fun σ H Q h => ?_)
  obtain ⟨av, H₀, own, ds, R, m⟩ := h
  refine ⟨av, H₀, own, ds, R, (FinP.bind m).later (Same.refl _) fun x1 m1 v H1 s1 r1 => ?_⟩
  cases x1 with
  | str z =>
    refine ⟨⟨z, r1.str⟩, av, H₀, own, ds, R.same s1, (FinP.bind m1).later s1 fun x2 m2 y H2 s2 r2 => ?_⟩
    obtain ⟨d, e, q⟩ := m2.ofO
    cases x2 with
    | lst xs =>
      simp only [mJoin] at e
      split at e
      · rename_i ys hy
        split at e
        · rename_i hz
          cases e
          obtain ⟨p, us, rfl, hp, rs⟩ := r2.lst0
          exact ⟨z, p, ys, r1.str, rfl, .inl (by rw [← strs_reps rs hy]; exact SqL.of hp), hz, q _ H2 (s1.trans s2) (RepLv.fl (d := .str _) rfl)⟩
        · cases e
      · cases e
    | _ => cases e
  | _ => exact m1.elim
theorem eStarts (ha : EX X O W 0 a ta) (hb : EX X O W 0 b tb) (hs : starEach [b] X.env = [(false, eval b X.env)] := by rfl) (hbase : attributeBase a "startswith" X.env (eval a X.env) = eval a X.env := by rfl) (hline : (apos.endLine == cpos.line) = true := by rfl) :
    EX X O W lv (.Call (.Attribute a "startswith" apos) [b] [] cpos) (dSm mStarts ta tb) := by
  refine EX.up (PE.imp (pe_m1 F.slot_str_startswith F.type_str_startswith mt_startswith ha hb hs hbase hline) fun σ H Q h => ?_)
  obtain ⟨av, H₀, own, ds, R, m⟩ := h
  refine ⟨av, H₀, own, ds, R, (FinP.bind m).later (Same.refl _) fun x1 m1 v H1 s1 r1 => ?_⟩
  cases x1 with
  | str z =>
    refine ⟨⟨z, r1.str⟩, av, H₀, own, ds, R.same s1, (FinP.bind m1).later s1 fun x2 m2 y H2 s2 r2 => ?_⟩
    obtain ⟨d, e, q⟩ := m2.ofO
    cases x2 with
    | str b' =>
      cases e
      exact ⟨z, b', r1.str, by rw [r2.str], q _ H2 (s1.trans s2) (RepLv.fl (d := .bl _) rfl)⟩
    | _ => cases e
  | _ => exact m1.elim
/-! ### sorted -/
theorem intKeys_reps {K : PySem.W.Frag} {M : Hp} {kvs : List (Key × D)} {ks : List (Key × V)} {ns : List Int} (r : RepK K M kvs ks) (h : intKeys kvs = some ns) : ks.map (·.1) = ns.map Sum.inl := by
  rw [r.keys]
  clear r
  induction kvs generalizing ns with
  | nil => cases h; rfl
  | cons kv kvs ih =>
    obtain ⟨k, d⟩ := kv
    cases k with
    | inl i =>
      simp only [intKeys] at h
      obtain ⟨ms, e1, rfl⟩ := Option.map_eq_some_iff.mp h
      rw [List.map_cons, List.map_cons, ih e1]
    | inr s => simp only [intKeys] at h; cases h
theorem insI_perm (i : Int) : ∀ l : List Int, (insI i l).Perm (i :: l)
  | [] => List.Perm.refl _
  | j :: r => by
    unfold insI
    split
    · exact List.Perm.refl _
    · exact ((insI_perm i r).cons j).trans (List.Perm.swap i j r)
theorem sortI_perm : ∀ l : List Int, (sortI l).Perm l
  | [] => List.Perm.refl _
  | i :: r => (insI_perm i _).trans ((sortI_perm r).cons i)
theorem insI_asc (i : Int) : ∀ l : List Int, l.Pairwise (· ≤ ·) → (insI i l).Pairwise (· ≤ ·)
  | [], _ => by simp [insI]
  | j :: r, h => by
    unfold insI
    rw [List.pairwise_cons] at h
    split
    · rename_i q
      refine List.pairwise_cons.mpr ⟨fun x hx => ?_, List.pairwise_cons.mpr h⟩
      rcases List.mem_cons.mp hx with z | z
      · rw [z]; exact q
      · exact Int.le_trans q (h.1 x z)
    · rename_i q
      refine List.pairwise_cons.mpr ⟨fun x hx => ?_, insI_asc i r h.2⟩
      rcases List.mem_cons.mp ((insI_perm i r).mem_iff.mp hx) with z | z
      · rw [z]; omega
      · exact h.1 x z
theorem sortI_asc : ∀ l : List Int, (sortI l).Pairwise (· ≤ ·)
  | [] => List.Pairwise.nil
  | i :: r => insI_asc i _ (sortI_asc r)
theorem asc_uniq {l m : List Int} (p : l.Perm m) (h1 : l.Pairwise (· ≤ ·)) (h2 : m.Pairwise (· ≤ ·)) : l = m :=
  p.eq_of_pairwise (le := (· ≤ ·)) (fun a b _ _ x y => Int.le_antisymm x y) h1 h2
theorem reps_ints {K : PySem.W.Frag} {M : Hp} : ∀ ns : List Int, Reps K M (ns.map .int) (ns.map V.int)
  | [] => Reps.nil
  | n :: ns => Reps.cons (by simp only [Rep]) (reps_ints ns)
theorem eSorted (hc : X.calm = true) (hm : X.mg "sorted" = none) (ha : EX X O W 0 a ta) (hg : Gl X "sorted" := by rfl) (he : starEach (a :: []) X.env = (false, eval a X.env) :: starEach [] X.env := by rfl) (hpl : (backTo pos (starEach [] X.env)).any (·.1) = false := by rfl) :
    EX X O W lv (.Call (.Name "sorted" p) [a] [] pos) (d1 fSorted ta) := by
  refine eB1 (call_sortedDI hc) ?_ hm (by decide +kernel) ha hg (by decide) (by decide) he hpl
  intro O av H₀ own ds σ H x d1 d Q R r1 e q
  unfold fSorted at e
  split at e
  · split at e
    · rename_i ks hk
      split at e
      · rename_i h64
        cases e
        obtain ⟨p, us, rfl, hp, rs⟩ := r1.dct0
        refine ⟨p, us, ks, rfl, rd_of_vw hp, intKeys_reps rs hk, h64, fun ys n hy hs hn => ?_⟩
        have ey : ys = sortI ks := asc_uniq (hy.trans (sortI_perm ks).symm) hs (sortI_asc ks)
        rw [ey]
        exact q _ _ (same_upd hn) (R.newL hn (reps_ints _))
      · cases e
    · cases e
  · cases e
end
end DL
/-! DLE: enumerate of a text; zip of a text and a tuple. -/
namespace DL
open PySem PySem.Spec L2
def Ites (x : Str) : It :=
  ⟨fun i _ => i < x.cps.size, fun i H v H' => ∃ T c, v = .ref T ∧ H T = none ∧ H' = upd H T (.tup [.int (i : Nat), .str ⟨#[c]⟩]) ∧ x.cps[i]? = some c, fun i _ => x.cps.size ≤ i⟩
theorem turn_enumS {P : Program} {w : World} {K : PySem.W.Frag} {elts : List Expr} {kk : Nat} {tpos : Pos} (x : Str) (t : Tok) (e it : Addr) :
    Turn P w K (.Tuple elts kk tpos) (Ites x) [e, it] e (fun i h => (∃ old, IsEnum h e it ((i : Nat) : Int) old) ∧ h.IsStrIter it (strIterType x) x t i ∧ e ≠ it ∧ i ≤ x.cps.size) where
  mem := by simp
  obj := fun i h st b hb => by
    obtain ⟨⟨old, he⟩, ⟨o, ho, hc, hd⟩, _⟩ := st
    have e' : b = e ∨ b = it := by simpa using hb
    rcases e' with z | z
    · rw [z]; exact ⟨_, he, fun v q => nomatch q⟩
    · rw [z]; exact ⟨o, ho, fun v q => by rw [hd] at q; cases q⟩
  keep := fun i h h' st k => by
    obtain ⟨⟨old, he⟩, ⟨o, ho, r⟩, hne, hl⟩ := st
    exact ⟨⟨old, k e (by simp) _ he⟩, ⟨o, k it (by simp) o ho, r⟩, hne, hl⟩
  item := by
    intro X hP hw hK hc i pins s σ H E I hf st hg
    subst hP hw hK
    obtain ⟨⟨old, he⟩, hit, hne, hl⟩ := st
    have hel : e < s.heap.objs.size := Heap.lt_size he
    have hil : it < s.heap.objs.size := by obtain ⟨_, q, _⟩ := hit; exact Heap.lt_size q
    refine wpAny_pyNext_enum_itemD (Draws.text (A := X.A.in1) (I.ok.hd hc) it x t) he hit hg hne (by simpa using hne) fun v h' tk hv ho hit' hT hsz hk => ?_
    obtain ⟨c, u, hcx, rfl⟩ := hv
    refine ⟨_, rfl, wpAny_letOwnedTupleGo_enum (s := { s with heap := h', toks := tk + 1 }) ho fun h'' he' sb => ?_⟩
    have hT2 : h''.get? s.heap.objs.size = some { cls := .type "tuple", data := .seq #[.int i tk, .str ⟨#[c]⟩ u] } := (sb.2 _ (Nat.ne_of_gt hel)).trans hT
    have new : ObjOk X.prog X.w (upd H s.heap.objs.size (.tup [.int (i : Nat), .str ⟨#[c]⟩])) h'' s.heap.objs.size (.tup [.int (i : Nat), .str ⟨#[c]⟩]) :=
      ⟨by show 2 ≤ sizeLine; decide, [.int i tk, .str ⟨#[c]⟩ u], .cons ⟨_, rfl⟩ (.cons ⟨_, rfl⟩ .nil), ⟨_, hT2, rfl, _, rfl⟩⟩
    have I1 : Inv X pins σ (upd H s.heap.objs.size (.tup [.int (i : Nat), .str ⟨#[c]⟩])) { s with heap := h'', toks := tk + 1 } :=
      I.turnedNew (ch := [e, it]) (fun b ob hb q => (sb.2 b (fun z => hb (by simp [z]))).trans (hk b ob (fun z => hb (by simp [z])) (fun z => hb (by simp [z])) q)) hf (Nat.le_refl _) new
    refine ⟨.ref s.heap.objs.size, _, I1, rfl, ⟨_, c, rfl, I.hok.fresh (Nat.le_refl _), rfl, hcx⟩, ⟨⟨.str ⟨#[c]⟩ u, ?_⟩, ?_, hne, hg⟩, fun b hb => ?_⟩
    · have e1 : ((i + 1 : Nat) : Int) = (i : Int) + 1 := by omega
      rw [e1]; exact he'
    · obtain ⟨o, ho1, r⟩ := hit'
      exact ⟨o, (sb.2 it (Ne.symm hne)).trans ho1, r⟩
    · have hb' : b < s.heap.objs.size := by
        have e' : b = e ∨ b = it := by simpa using hb
        rcases e' with z | z
        · rw [z]; exact hel
        · rw [z]; exact hil
      rw [upd_ne (Nat.ne_of_lt hb')]
      exact (hf b hb).1
  done := by
    intro X hP hw hK hc i pins s σ H E I hf st hg
    subst hP hw hK
    obtain ⟨⟨old, he⟩, hit, hne, hl⟩ := st
    have ei : i = x.cps.size := Nat.le_antisymm hl hg
    obtain ⟨f0, f1, f2, f3, f4, f5⟩ := hf it (by simp)
    subst ei
    exact wpAny_pyNext_enum_endD (Draws.text (A := X.A.in1) (I.ok.hd hc) it x t) he hit fun h' eb => ⟨rfl, I.turned (t' := s.toks) (fun b o hb q => eb b o hb q) f0 f1 f3 f4 f5⟩
  self := fun A i s Q E st h => let ⟨⟨_, he⟩, _⟩ := st; wpAny_pyIter_enum he h
theorem pi_enumS {X : Cx} {e : Expr} {te : TE} {p pos tpos : Pos} {elts : List Expr} {kk : Nat} (hg : Gl X "enumerate") (hm : X.mg "enumerate" = none) (ha : PE X e te) (hs : starEach [e] X.env = [(false, eval e X.env)] := by rfl) :
    PI X (.Tuple elts kk tpos) (.Call (.Name "enumerate" p) [e] [] pos) (fun σ H R => tCons te tNil σ H fun vs H1 => ∃ x, vs = [.str x] ∧ R (Ites x) H1) := by
  refine ⟨fun pins s σ H R I h => ?_⟩
  refine PyProof.Rows.Call_ (ld_blt I hg hm PyProof.Rows.boot_enumerate (PyProof.Rows.callWith_type1 (thn ((pa_cons ha pa_nil hs).run pos pins s σ H (fun vs H1 => ∃ x, vs = [.str x] ∧ R (Ites x) H1) I h) fun us s1 ⟨vs, H1, I1, r1, q1⟩ => ?_) hs rfl))
  obtain ⟨x, ex, q⟩ := q1
  subst ex
  cases r1 with
  | cons r rr =>
    cases rr
    obtain ⟨t, rfl⟩ := r
    refine call_enumerate_str fun h' he hit hsz hk => wpAny_pyIter_enum he ?_
    have I2 : Inv X pins σ H1 { s1 with heap := h' } := I1.kept (t' := s1.toks) hk
    refine ⟨s1.heap.objs.size + 1, [s1.heap.objs.size + 1, s1.heap.objs.size], _, _, H1, rfl, I2, turn_enumS x t (s1.heap.objs.size + 1) s1.heap.objs.size, ⟨⟨.none, he⟩, hit, Nat.succ_ne_self _, Nat.zero_le _⟩, fun b hb => ?_, q⟩
    have e' : b = s1.heap.objs.size + 1 ∨ b = s1.heap.objs.size := by simpa using hb
    have hle : s1.heap.objs.size ≤ b := by
      rcases e' with z | z
      · rw [z]; exact Nat.le_add_right _ _
      · rw [z]; exact Nat.le_refl _
    exact I1.fpOk hle (I1.hok.fresh hle)
theorem gives_enumS {K : PySem.W.Frag} {M0 B : Hp} {z : Str} : Gives K M0 B (enumD 0 (z.cps.toList.map fun c => .str ⟨#[c]⟩)) (Ites z) := by
  have hl : ∀ (xs : List D) (n : Nat), (enumD n xs).length = xs.length := by
    intro xs
    induction xs with
    | nil => intro _; rfl
    | cons d xs ih => intro n; show (enumD (n + 1) xs).length + 1 = _; rw [ih]; rfl
  have hg : ∀ (xs : List D) (n i : Nat) (d : D), xs[i]? = some d → (enumD n xs)[i]? = some (.tup [.int (n + i : Nat), d]) := by
    intro xs
    induction xs with
    | nil => intro n i d h; simp at h
    | cons e xs ih =>
      intro n i d h
      cases i with
      | zero =>
        have : e = d := by simpa using h
        subst this
        rfl
      | succ i =>
        have h2 : xs[i]? = some d := by simpa using h
        have := ih (n + 1) i d h2
        show (enumD (n + 1) xs)[i]? = _
        rw [this]
        have e1 : n + 1 + i = n + (i + 1) := by omega
        rw [e1]
  refine gives_pair (n := z.cps.size) (xs := fun i => some (.int (i : Nat))) (ys := fun i => (z.cps[i]?).map fun c => .str ⟨#[c]⟩) ⟨fun i H hi _ => hi, fun H _ => Nat.le_refl _, fun i H v H' hi _ y => ?_⟩ (by rw [hl]; simp) (fun M _ i x y hi e1 e2 => ?_)
  · obtain ⟨T, c, rfl, hT, rfl, hc⟩ := y
    exact ⟨T, _, _, rfl, hT, rfl, rfl, by simp [hc]⟩
  · cases e1
    have hc : z.cps[i]? = some z.cps[i] := by simp [hi]
    simp only [hc, Option.map_some, Option.some.injEq] at e2
    subst e2
    refine ⟨.int (i : Nat), .str ⟨#[z.cps[i]]⟩, ?_, by simp only [Rep], by simp only [Rep]⟩
    have := hg (z.cps.toList.map fun c => .str ⟨#[c]⟩) 0 i (.str ⟨#[z.cps[i]]⟩) (by simp [hi])
    rw [Nat.zero_add] at this
    exact this
section
variable {X : Cx} {O : List Nat} {W : WX} {a b e : Expr} {ta tb : DE} {p pos : Pos}
theorem iEnS {cc : Bool} {elts : List Expr} {kk : Nat} {tpos : Pos} (hm : X.mg "enumerate" = none) (ha : EX X O W 0 a ta) (hg : Gl X "enumerate" := by rfl) (hs : starEach [a] X.env = [(false, eval a X.env)] := by rfl) : IX X O W cc (.Tuple elts kk tpos) (.Call (.Name "enumerate" p) [a] [] pos) (diEn (diStr ta)) := by
  refine PI.imp (pi_enumS hg hm ha hs) fun σ H R hq => ?_
  obtain ⟨av, H₀, own, ds, Rl, m⟩ := hq
  refine ⟨av, H₀, own, ds, Rl, ?_⟩
  unfold diEn diStr at m
  cases ea : ta ds with
  | ok d =>
    rw [ea] at m
    intro v H1 s1 r1
    cases d with
    | str z => exact ⟨z, by rw [r1.str], m _ H1 s1 gives_enumS⟩
    | _ => exact m.elim
  | err er => rw [ea] at m; exact m
  | stuck => rw [ea] at m; exact m
end
/-! ### zip of a text and a tuple -/
def Itzs (K : PySem.W.Frag) (x : Str) (a : Addr) (n : Nat) : It :=
  ⟨fun i H => i < x.cps.size ∧ i < n ∧ ∃ xs : List V, SqT K H a xs ∧ xs.length = n,
    fun i H v H' => ∃ T c y, v = .ref T ∧ H T = none ∧ H' = upd H T (.tup [.str ⟨#[c]⟩, y]) ∧ x.cps[i]? = some c ∧ ∀ xs, SqT K H a xs → xs[i]? = some y,
    fun i H => (x.cps.size ≤ i ∨ n ≤ i) ∧ ∃ xs : List V, SqT K H a xs ∧ xs.length = n⟩
theorem turn_zipST {P : Program} {w : World} {K : PySem.W.Frag} {elts : List Expr} {kk : Nat} {tpos : Pos} {x : Str} {t : Tok} {a z TI TO i1 i2 : Addr} {n : Nat} (S : ZipSep2 z TI TO i1 i2 [i1] [i2, a]) (hne : a ≠ i2) :
    Turn P w K (.Tuple elts kk tpos) (Itzs K x a n) [z, TI, TO, i1, i2] z (fun i h => IsZip h z TI TO .none ∧ IsTupOf2 h TI (.ref i1) (.ref i2) ∧ (∃ p q, IsTupOf2 h TO p q) ∧ h.IsStrIter i1 (strIterType x) x t i ∧ h.IsTupleIter i2 a i ∧ i ≤ x.cps.size ∧ i ≤ n) where
  mem := by simp
  obj := fun i h st c hc => by
    obtain ⟨hz, hTI, ⟨p, q, hTO⟩, ⟨o1, e1, _, d1⟩, ⟨o2, e2, _, d2⟩, _⟩ := st
    have e' : c = z ∨ c = TI ∨ c = TO ∨ c = i1 ∨ c = i2 := by simpa using hc
    rcases e' with q | q | q | q | q
    · rw [q]; exact ⟨_, hz, fun v q => nomatch q⟩
    · rw [q]; exact ⟨_, hTI, fun v q => nomatch q⟩
    · rw [q]; exact ⟨_, hTO, fun v q => nomatch q⟩
    · rw [q]; exact ⟨o1, e1, fun v q => by rw [d1] at q; cases q⟩
    · rw [q]; exact ⟨o2, e2, fun v q => by rw [d2] at q; cases q⟩
  keep := fun i h h' st k => by
    obtain ⟨hz, hTI, ⟨p, q, hTO⟩, ⟨o1, e1, r1⟩, h2, hl⟩ := st
    exact ⟨k z (by simp) _ hz, k TI (by simp) _ hTI, ⟨p, q, k TO (by simp) _ hTO⟩, ⟨o1, k i1 (by simp) _ e1, r1⟩, h2.at fun o q => k i2 (by simp) o q, hl⟩
  item := by
    intro X hP hw hK hc i pins s σ H E I hf st hg
    subst hP hw hK
    obtain ⟨hz, hTI, ⟨p0, q0, hTO⟩, h1, h2, hl1, hl2⟩ := st
    obtain ⟨g1, g2, xs, hq, hxn⟩ := hg
    obtain ⟨its, rv, pt, _⟩ := I.tuple hq
    have pt : s.heap.IsTuple a its.toArray := pt
    have hsz0 : its.toArray.size = n := by rw [← hxn, rv.length]; simp
    have hzl : z < s.heap.objs.size := Heap.lt_size hz
    refine wpAny_pyNext_zipD2_item S (Draws.text (A := X.A.in1) (I.ok.hd hc) i1 x t) (Draws.tuple (A := X.A.in1) (I.ok.hd hc) i2 a hne its.toArray) hz hTI hTO h1 ⟨h2, pt⟩ g1 (by rw [hsz0]; exact g2) fun v1 v2 h' tk y1 y2 z' TO' h1' h2' hT hsz hk => ?_
    obtain ⟨c, u, hcx, rfl⟩ := y1
    obtain ⟨y, hy, ry⟩ := L2.DX.pget (j := i) (x := v2) rv (by simpa using y2)
    refine ⟨_, rfl, wpAny_letOwnedTupleGo_zip (s := { s with heap := h', toks := tk }) z' fun h'' z'' sb => ?_⟩
    have hT2 : h''.get? s.heap.objs.size = some { cls := .type "tuple", data := .seq #[.str ⟨#[c]⟩ u, v2] } := (sb.2 _ (Nat.ne_of_gt hzl)).trans hT
    have new : ObjOk X.prog X.w (upd H s.heap.objs.size (.tup [.str ⟨#[c]⟩, y])) h'' s.heap.objs.size (.tup [.str ⟨#[c]⟩, y]) :=
      ⟨by show 2 ≤ sizeLine; decide, [.str ⟨#[c]⟩ u, v2], .cons ⟨_, rfl⟩ (.cons ry .nil), ⟨_, hT2, rfl, _, rfl⟩⟩
    have I1 : Inv X pins σ (upd H s.heap.objs.size (.tup [.str ⟨#[c]⟩, y])) { s with heap := h'', toks := tk } :=
      I.turnedNew (t' := tk) (ch := [z, TI, TO, i1, i2]) (fun c o hb q => (sb.2 c (fun q' => hb (by simp [q']))).trans (hk c o (fun q' => hb (by simp [q'])) (fun q' => hb (by simp [q'])) (fun q' => hb (by simp [q'])) (fun q' => hb (by simp [q'])) q)) hf (Nat.le_refl _) new
    refine ⟨.ref s.heap.objs.size, _, I1, rfl, ⟨_, c, y, rfl, I.hok.fresh (Nat.le_refl _), rfl, hcx, fun l hl => by rw [I.tuple_inj hl hq]; exact hy⟩, ⟨z'', ?_, ⟨_, _, (sb.2 _ S.TOz).trans TO'⟩, ?_, ?_, by omega, by omega⟩, fun c hcm => ?_⟩
    · refine (sb.2 _ S.TIz).trans (hk _ _ S.TIz S.TITO S.TIi1 S.TIi2 hTI)
    · obtain ⟨o, ho, r⟩ := h1'
      exact ⟨o, (sb.2 _ (Ne.symm S.zi1)).trans ho, r⟩
    · exact h2'.1.at fun o q => (sb.2 _ (Ne.symm S.zi2)).trans q
    · have hlt : c < s.heap.objs.size := by
        have e' : c = z ∨ c = TI ∨ c = TO ∨ c = i1 ∨ c = i2 := by simpa using hcm
        rcases e' with q | q | q | q | q
        · rw [q]; exact hzl
        · rw [q]; exact Heap.lt_size hTI
        · rw [q]; exact Heap.lt_size hTO
        · rw [q]; obtain ⟨_, e1, _⟩ := h1; exact Heap.lt_size e1
        · rw [q]; obtain ⟨_, e1, _⟩ := h2; exact Heap.lt_size e1
      rw [upd_ne (Nat.ne_of_lt hlt)]
      exact (hf c hcm).1
  done := by
    intro X hP hw hK hc i pins s σ H E I hf st hg
    subst hP hw hK
    obtain ⟨hz, hTI, ⟨p0, q0, hTO⟩, h1, h2, hl1, hl2⟩ := st
    obtain ⟨g1, xs, hq, hxn⟩ := hg
    obtain ⟨its, rv, pt, _⟩ := I.tuple hq
    have pt : s.heap.IsTuple a its.toArray := pt
    have hsz0 : its.toArray.size = n := by rw [← hxn, rv.length]; simp
    exact wpAny_pyNext_zipD2_end S (Draws.text (A := X.A.in1) (I.ok.hd hc) i1 x t) (Draws.tuple (A := X.A.in1) (I.ok.hd hc) i2 a hne its.toArray) hz hTI hTO h1 ⟨h2, pt⟩ hl1 (by rw [hsz0]; exact hl2) (by rw [hsz0]; omega) fun h' tk hk => ⟨rfl, I.turnedL (t' := tk) (ch := [z, TI, TO, i1, i2]) (fun c o hb q =>
      hk c o (fun q' => hb (by simp [q'])) (fun q' => hb (by simp [q'])) (fun q' => hb (by simp [q'])) (fun q' => hb (by simp [q'])) q) hf⟩
  self := fun A i s Q E st h => wpAny_pyIter_zip st.1 h
theorem zs_apart (I b : Nat) (h : b < I) : ZipSep2 (I + 4) (I + 2) (I + 3) I (I + 1) [I] [I + 1, b] := by
  have ne1 : ∀ {k j : Nat}, k ≠ j → (I + k : Nat) ≠ I + j := fun h => by omega
  have nb : ∀ k : Nat, (I + k : Nat) ≠ b := fun k => by omega
  have n0 : ∀ {k : Nat}, k ≠ 0 → (I + k : Nat) ≠ I := fun h => by omega
  have nm : ∀ {x y : Nat}, x ≠ y → x ∉ ([y] : List Nat) := fun h m => h (List.mem_singleton.mp m)
  have nm2 : ∀ {x y z : Nat}, x ≠ y → x ≠ z → x ∉ ([y, z] : List Nat) := fun h h2 m => (List.mem_cons.mp m).elim h fun m => h2 (List.mem_singleton.mp m)
  exact ⟨ne1 (by decide), ne1 (by decide), ne1 (by decide), n0 (by decide), List.mem_singleton.mpr rfl, nm (n0 (by decide)), nm (n0 (by decide)), ne1 (by decide), List.mem_cons_self, nm2 (ne1 (by decide)) (nb 4), nm2 (ne1 (by decide)) (nb 3),
    nm2 (fun e => n0 (k := 1) (by decide) e.symm) (fun e => nb 0 (by rw [Nat.add_zero]; exact e)), nm (n0 (by decide))⟩
theorem pi_zipST {X : Cx} {e e2 : Expr} {ta : TA} {p pos tpos : Pos} {elts : List Expr} {kk : Nat} (hg : Gl X "zip") (hm : X.mg "zip" = none) (ha : PA X [e, e2] ta)
    (hs : starEach [e, e2] X.env = (false, eval e X.env) :: starEach [e2] X.env := by rfl) (hpl : (backTo pos (starEach [e2] X.env)).any (·.1) = false := by rfl) :
    PI X (.Tuple elts kk tpos) (.Call (.Name "zip" p) [e, e2] [] pos) (fun σ H R => ta σ H fun vs H1 => ∃ x a xs, vs = [.str x, .ref a] ∧ SqT X.K H1 a xs ∧ R (Itzs X.K x a xs.length) H1) := by
  refine ⟨fun pins s σ H R I h => ?_⟩
  refine PyProof.Rows.Call_ (ld_blt I hg hm PyProof.Rows.boot_zip (PyProof.Rows.callWith_type1 (thn (ha.run pos pins s σ H _ I h) fun us s1 ⟨vs, H1, I1, r1, q1⟩ => ?_) hs hpl))
  obtain ⟨x, b, xs, ex, hq, q⟩ := q1
  subst ex
  cases r1 with
  | cons r rr =>
    cases rr with
    | cons r' rr =>
      cases rr
      obtain ⟨t, rfl⟩ := r
      cases r'
      obtain ⟨its, rv, p2, _⟩ := I1.tuple hq
      have p2 : s1.heap.IsTuple b its.toArray := p2
      have lb : b < s1.heap.objs.size := by obtain ⟨_, e1, _⟩ := p2; exact Heap.lt_size e1
      refine zip_begins2 (begins_text x t) (begins_tuple b its.toArray) trivial p2 fun h' hz hTI hTO h1 h2 hsz hk => wpAny_pyIter_zip hz ?_
      have I2 : Inv X pins σ H1 { s1 with heap := h' } := I1.kept (t' := s1.toks) hk
      have S := zs_apart s1.heap.objs.size b lb
      refine ⟨s1.heap.objs.size + 4, [s1.heap.objs.size + 4, s1.heap.objs.size + 2, s1.heap.objs.size + 3, s1.heap.objs.size, s1.heap.objs.size + 1], _, _, H1, rfl, I2, turn_zipST (x := x) (t := t) (n := xs.length) S (Nat.ne_of_lt (Nat.lt_succ_of_lt lb)), ⟨hz, hTI, ⟨_, _, hTO⟩, ⟨_, h1, rfl, rfl⟩, ⟨_, h2, rfl, rfl⟩, Nat.zero_le _, Nat.zero_le _⟩, fun c hcm => ?_, q⟩
      have e' : c = s1.heap.objs.size + 4 ∨ c = s1.heap.objs.size + 2 ∨ c = s1.heap.objs.size + 3 ∨ c = s1.heap.objs.size ∨ c = s1.heap.objs.size + 1 := by simpa using hcm
      have hle : s1.heap.objs.size ≤ c := by
        rcases e' with z | z | z | z | z
        · rw [z]; exact Nat.le_add_right _ _
        · rw [z]; exact Nat.le_add_right _ _
        · rw [z]; exact Nat.le_add_right _ _
        · rw [z]; exact Nat.le_refl _
        · rw [z]; exact Nat.le_add_right _ _
      exact I1.fpOk hle (I1.hok.fresh hle)
theorem gives_zipST {K : PySem.W.Frag} {M0 B : Hp} {z : Str} {a : Addr} {us : List V} {xs : List D} (h : TAt K B a us) (r : Reps K M0 xs us) : Gives K M0 B (((z.cps.toList.map fun c => D.str ⟨#[c]⟩).zip xs).map fun p => .tup [p.1, p.2]) (Itzs K z a us.length) := by
  have hn : (((z.cps.toList.map fun c => D.str ⟨#[c]⟩).zip xs).map fun p => D.tup [p.1, p.2]).length = min z.cps.size us.length := by
    rw [List.length_map, List.length_zip, List.length_map, r.length]; simp
  refine ⟨fun H => SqT K H a us, YPair (fun i => (z.cps[i]?).map fun c => .str ⟨#[c]⟩) (fun i => us[i]?), ?_, ?_⟩
  · rw [hn]
    refine ⟨fun i H hi q => ⟨by omega, by omega, us, q, rfl⟩, fun H q => ⟨by omega, us, q, rfl⟩, fun i H v H' hi q y => ?_⟩
    obtain ⟨T, c, y, rfl, hT, rfl, hc, hy⟩ := y
    exact ⟨T, _, y, rfl, hT, rfl, by simp [hc], hy us q⟩
  · intro av' own' H sb sm ho ha
    refine ⟨(h.sub (Sub.of sb)).sq, fun i x H' hi y => ?_⟩
    obtain ⟨T, x1, y1, rfl, hT, rfl, e1, e2⟩ := y
    rw [hn] at hi
    have hc : z.cps[i]? = some (z.cps[i]'(by omega)) := Array.getElem?_eq_getElem (by omega)
    simp only [hc, Option.map_some, Option.some.injEq] at e1
    subst e1
    obtain ⟨d, e3, q⟩ := r.get' e2
    refine ⟨same_upd hT, .tup [.str ⟨#[z.cps[i]'(by omega)]⟩, d], ?_, rep_pair hT ho ha (by simp only [Rep]) (q.sub sm _ _)⟩
    have e4 : (z.cps.toList.map fun c => D.str ⟨#[c]⟩)[i]? = some (.str ⟨#[z.cps[i]'(by omega)]⟩) := by
      rw [List.getElem?_map, Array.getElem?_toList, hc]
      rfl
    rw [List.getElem?_map, List.getElem?_zip_eq_some (z := (D.str ⟨#[z.cps[i]'(by omega)]⟩, d)) |>.mpr ⟨e4, e3⟩]
    rfl
section
variable {X : Cx} {O : List Nat} {W : WX} {a b e : Expr} {ta tb : DE} {p pos : Pos}
theorem iZipST {cc : Bool} {elts : List Expr} {kk : Nat} {tpos : Pos} (hm : X.mg "zip" = none) (ha : EX X O W 2 a ta) (hb : EX X O W 2 b tb) (hg : Gl X "zip" := by rfl)
    (hs : starEach [a, b] X.env = (false, eval a X.env) :: starEach [b] X.env := by rfl) (hs2 : starEach [b] X.env = (false, eval b X.env) :: starEach [] X.env := by rfl) (hpl : (backTo pos (starEach [b] X.env)).any (·.1) = false := by rfl) : IX X O W cc (.Tuple elts kk tpos) (.Call (.Name "zip" p) [a, b] [] pos) (diZip (diStr ta) (diTup tb)) := by
  refine PI.imp (pi_zipST hg hm (aC ha (aC hb aN hs2) hs) hs hpl) fun σ H R hq => ?_
  obtain ⟨av, H₀, own, ds, Rl, m⟩ := hq
  refine ⟨av, H₀, own, ds, Rl, ?_⟩
  unfold diZip diStr diTup at m
  unfold daC
  cases ea : ta ds with
  | ok d =>
    rw [ea] at m
    show FinP X.mg W σ H _ (((tb ds).bind fun x => Res.ok [x]).bind fun xs => Res.ok (d :: xs))
    cases d with
    | str z =>
      cases eb : tb ds with
      | ok d2 =>
        rw [eb] at m
        intro us H1 s1 r1
        obtain ⟨v, w, rfl, q1, q2⟩ := RepLvs.two r1
        cases d2 with
        | tup xs =>
          have q2 : Rep X.K (clean av own H1) (.tup xs) w := q2
          simp only [Rep] at q2
          obtain ⟨a', us, rfl, ht, rs⟩ := q2
          exact ⟨z, a', us, by rw [q1.str], (ht.sub clean_le).sq, m _ H1 s1 (gives_zipST (ht.sub base_clean) rs)⟩
        | _ => exact m.elim
      | err er => rw [eb] at m; exact m
      | stuck => rw [eb] at m; exact m
    | _ => exact m.elim
  | err er => rw [ea] at m; exact m
  | stuck => rw [ea] at m; exact m
end
end DL
set_option maxHeartbeats 1000000
/-! DLS: sorted(d.items()), the keys ints. -/
namespace L2.DS
open PySem PySem.Spec PyProof.Rows
open L2.DX (itemsO itemsO_ok takeT zip_self pget)
def intOf' : Option Value → Int
  | some (.int i _) => i
  | _ => 0
/-- a pair's key, read off the heap -/
def keyI (h : Heap) (v : Value) : Int := intOf' (DT.seqAt0 h (DT.refOf (some v)))
def PairI (h : Heap) (v : Value) (i : Int) (y : V) : Prop := ∃ a t u, v = .ref a ∧ IsTup h a #[.int i t, u] ∧ RelV y u
theorem PairI.key {h : Heap} {v : Value} {i : Int} {y : V} (x : PairI h v i y) : keyI h v = i := by
  obtain ⟨a, t, u, rfl, h1, _⟩ := x
  show intOf' (DT.seqAt0 h a) = i
  rw [DT.seqAt0_of h1]
  rfl
theorem firstsI {h : Heap} : ∀ vs : List Value, (∀ v ∈ vs, ∃ i y, PairI h v i y) → ∃ fs : List Value, PySem.W.KatTups h vs fs ∧ fs.length = vs.length ∧ ∀ f ∈ fs, ∃ i t, f = Value.int i t
  | [], _ => ⟨[], PySem.W.KatTups.nil, rfl, fun f hf => by simp at hf⟩
  | v :: vs, x => by
    obtain ⟨fs, k, hl, hi⟩ := firstsI vs fun u hu => x u (List.mem_cons_of_mem _ hu)
    obtain ⟨i, y, a, t, u, rfl, ⟨o, ho, hc, n, hd⟩, _⟩ := x v (List.mem_cons_self ..)
    refine ⟨.int i t :: fs, PySem.W.KatTups.cons ho hc hd rfl k, by rw [List.length_cons, List.length_cons, hl], fun f hf => ?_⟩
    rcases List.mem_cons.mp hf with rfl | hf
    · exact ⟨i, t, rfl⟩
    · exact hi f hf
theorem eqV_refl {y : V} (h : flatV y = true) : eqV y y = true := by
  cases y with
  | non => rfl
  | bl b => simp [eqV]
  | int b => simp [eqV]
  | str b => simp [eqV]
  | _ => cases h
section
variable {prog : Program} {w : World} {A : Around} {E : Value → Shared → Prop} {s : Shared}
theorem kind_pi {vs : List Value} (h2 : 2 ≤ vs.length) (x : ∀ v ∈ vs, ∃ i y, PairI s.heap v i y ∧ flatV y = true) (hx : ∀ v ∈ vs, ∀ u ∈ vs, keyI s.heap v = keyI s.heap u → v = u) (Q : SortKind → Shared → Prop)
    (h : ∀ κ, TS.Cmp prog w A s κ (pairsOf vs) (keyI s.heap) → Q κ s) : wpAny (model prog w) A (keyKind' vs.toArray) Q E s := by
  obtain ⟨fs, k, hl, hi⟩ := firstsI vs fun v hv => let ⟨i, y, p, _⟩ := x v hv; ⟨i, y, p⟩
  refine PySem.W.kat_kind (T := Value.type "int") k (by omega) (fun f hf => ?_) rfl (h _ ?_)
  · obtain ⟨n, t, rfl⟩ := hi f hf
    exact PySem.W.Looks.of_pure rfl
  · intro p q hp hq Q' E' hQ
    rw [pairsOf_toList] at hp hq
    have mp := (mem_zip_self hp).2
    have mq := (mem_zip_self hq).2
    obtain ⟨i, y, pi, fy⟩ := x _ mp
    obtain ⟨j, z, pj, fz⟩ := x _ mq
    have e1 := pi.key
    have e2 := pj.key
    have hpq := hx _ mp _ mq
    have hQ' : Q' (decide (i < j)) s := by
      have hQ2 : Q' (decide (keyI s.heap p.1 < keyI s.heap q.1)) s := hQ
      rw [e1, e2] at hQ2
      exact hQ2
    obtain ⟨a, t, u, ea, ⟨o, ho, hc, n, hd⟩, ru⟩ := pi
    obtain ⟨a', t', u', ea', ⟨o', ho', hc', n', hd'⟩, ru'⟩ := pj
    by_cases e : i = j
    · have ev := hpq (by rw [e1, e2, e])
      rw [ea, ea'] at ev
      cases ev
      rw [ho] at ho'
      cases ho'
      rw [hd] at hd'
      obtain ⟨h1, _⟩ : (#[Value.int i t, u] : Array Value) = #[Value.int j t', u'] ∧ n = n' := by
        injection hd' with h1 h2
        exact ⟨h1, h2⟩
      have hu : u = u' := by
        have := congrArg (fun a : Array Value => a[1]?) h1
        simpa using this
      subst hu
      rw [ea, ea']
      refine PySem.W.kat_lt ho hd ho hd ?_
      have irr : decide (i < j) = false := by rw [e]; exact decide_eq_false (Int.lt_irrefl _)
      rw [irr] at hQ'
      show PySem.W.KatLex prog w A true false Q' [(Value.int i t, Value.int i t), (u, u)] 0 s
      refine PySem.W.kat_cons (wpAny_eqBool_int ?_)
      rw [beq_self_eq_true]
      refine PySem.W.kat_yes (PySem.W.kat_cons (eqAt_V ru ru fy fy prog w _ _ ?_))
      rw [eqV_refl fy]
      exact PySem.W.kat_yes (PySem.W.kat_nil hQ')
    · rw [ea, ea']
      refine PySem.W.kat_lt ho hd ho' hd' ?_
      show PySem.W.KatLex prog w A true false Q' [(Value.int i t, Value.int j t'), (u, u')] 0 s
      refine PySem.W.kat_cons (wpAny_eqBool_int ?_)
      rw [show (i == j) = false from beq_eq_false_iff_ne.mpr e]
      exact PySem.W.kat_no (TS.oneLt_ints _ hQ')
end

section
variable {X : Cx}
/-- sorted(d.items()): keys ints, values flat -/
def rSortIK : List V → Hp → VK → Prop := fun vs H Q => ∃ (p a : Addr) (ps : List (Int × V)), vs = [.ref p] ∧ H p = some (itemsO p a) ∧ Rd H a (.dK (ps.map fun e => (Sum.inl e.1, e.2))) ∧ ps.length < 64 ∧ (∀ e ∈ ps, flatV e.2 = true) ∧
  ((ps.map (·.1)).Nodup → ∀ (H' : Hp) (l : Addr) (zs : List (Addr × Int × V)), (∀ b o, H b = some o → H' b = some o) → (zs.map (·.2)).Perm ps → (zs.map (·.2)).Pairwise (fun e f => e.1 ≤ f.1) → H l = none → H' l = some (.lst (zs.map fun z => V.ref z.1)) →
    (∀ z ∈ zs, H z.1 = none ∧ H' z.1 = some (.tup [.int z.2.1, z.2.2])) → Q (.ref l) H')
theorem cr_sortIK (hc : X.calm = true) : CallR X (.builtin "sorted") rSortIK := by
  intro pins s σ H xs us Q I r h
  obtain ⟨p, a, ks, rfl, hp, ha, h64, hfl, q⟩ := h
  obtain rfl := Vals.ref1 r
  have view : s.heap.IsItemsView p a := (show ObjOk X.prog X.w H s.heap p (itemsO p a) from I.hok p _ hp).1
  obtain ⟨z, hd, xs', rel, o, es, ep, ho, hx, hdat, hko, hpairs, hn⟩ := dk_rd I.hok ha
  have l1 : (ks.map fun e => ((Sum.inl e.1 : Key), e.2)).length = xs'.length := Paired.length rel
  rw [List.length_map] at l1
  have l2 : es.size = xs'.length := by have := hpairs.length; rw [Array.length_toList] at this; exact this
  have hh : X.A.handled = none := I.ok.hd hc
  have nodk : (ks.map (·.1)).Nodup := by
    have e := KV.keys rel
    rw [← e, List.map_map] at hn
    have e2 : (ks.map ((fun x : Key × V => x.1) ∘ fun e => ((Sum.inl e.1 : Key), e.2))) = (ks.map (·.1)).map Sum.inl := by rw [List.map_map]; rfl
    rw [e2] at hn
    exact (List.pairwise_map.mp hn).imp fun h e => h (by rw [e])
  refine DT.sortedI (es := es) (ep := ep) hh view ⟨o, ho, hx, hdat⟩ (by rw [sizeLine_eq]; omega) fun h' tk as hk hlt hl hG => ?_
  have lak : as.length = ks.length := by omega
  have nd : as.Nodup := List.Pairwise.imp (fun h => Nat.ne_of_lt h) hG.rise
  -- the pairs that were made
  have pr : ∀ (j : Nat) (b : Addr), as[j]? = some b → ∃ (e : Int × V) (t : Tok) (u : Value), ks[j]? = some e ∧ RelV e.2 u ∧ h'.get? b = some { cls := .type "tuple", data := .seq #[Value.int e.1 t, u] } := by
    intro j b hj
    obtain ⟨en, he, hg⟩ := hG.pairs j b hj
    have hj2 : j < ks.length := by
      have := (List.getElem?_eq_some_iff.mp hj).1
      omega
    have hkj : ks[j]? = some ks[j] := List.getElem?_eq_getElem hj2
    have hkj2 : (ks.map fun e => ((Sum.inl e.1 : Key), e.2))[j]? = some (Sum.inl ks[j].1, ks[j].2) := by rw [List.getElem?_map, hkj]; rfl
    obtain ⟨u, hu, ru⟩ := kv_get rel hkj2
    obtain ⟨g1, g2⟩ := hpairs.get? (by rw [Array.getElem?_toList]; exact he) hu
    have rk := relV_key (show keyIs (Sum.inl ks[j].1) en.key = true from g1)
    obtain ⟨t, et⟩ := rk
    exact ⟨ks[j], t, u, hkj, ru, by rw [hg, et, g2]⟩
  have hob : (h'.push { cls := .type "list", data := .seq (as.map Value.ref).toArray }).get? h'.objs.size = some (seqObj "list" (as.map Value.ref).toArray 0) := Heap.get?_push_size _ rfl
  have kb : ∀ b o, s.heap.get? b = some o → (h'.push { cls := .type "list", data := .seq (as.map Value.ref).toArray }).get? b = some o := fun b o e => Heap.get?_push_of_some _ (hk b o e)
  have ne0 : ∀ b o, h'.get? b = some o → b ≠ h'.objs.size := fun b o e => Nat.ne_of_lt (Heap.lt_size e)
  generalize hh2 : h'.push { cls := .type "list", data := .seq (as.map Value.ref).toArray } = h2 at hob kb ⊢
  have ka : ∀ b o, h'.get? b = some o → h2.get? b = some o := fun b o e => by rw [← hh2]; exact Heap.get?_push_of_some _ e
  have pin : ∀ (j : Nat) (b : Addr), as[j]? = some b → ∃ e : Int × V, ks[j]? = some e ∧ PairI (TS.midHeap h2 h'.objs.size (as.map Value.ref)) (.ref b) e.1 e.2 := by
    intro j b hj
    obtain ⟨e, t, u, he, ru, hg⟩ := pr j b hj
    exact ⟨e, he, b, t, u, rfl, ⟨_, TS.midHeap_old (ne0 _ _ hg) (ka _ _ hg), rfl, 0, rfl⟩, ru⟩
  have tx : ∀ (j : Nat) (b : Addr) (e : Int × V), as[j]? = some b → ks[j]? = some e → keyI (TS.midHeap h2 h'.objs.size (as.map Value.ref)) (.ref b) = e.1 := by
    intro j b e hj he
    obtain ⟨e', he', hp'⟩ := pin j b hj
    have ee : e' = e := Option.some.inj (he'.symm.trans he)
    rw [← ee]
    exact hp'.key
  have at_ : ∀ v ∈ as.map Value.ref, ∃ (j : Nat) (b : Addr) (e : Int × V), v = .ref b ∧ as[j]? = some b ∧ ks[j]? = some e := by
    intro v hv'
    obtain ⟨b, hb, rfl⟩ := List.mem_map.mp hv'
    obtain ⟨j, hj⟩ := List.mem_iff_getElem?.mp hb
    obtain ⟨e, _, _, he, _⟩ := pr j b hj
    exact ⟨j, b, e, rfl, hj, he⟩
  refine wpAny_call_entry PyProof.Rows.slot_list_sort ⟨_, hob, rfl⟩ PyProof.Rows.entry_list_sort
    (SK.plain_sort (s := { s with heap := h2, toks := tk }) (r := keyI (TS.midHeap h2 h'.objs.size (as.map Value.ref))) hob (by rw [List.length_map]; omega) (fun h2' Qk hQk => ?_) fun ps out o1 o2 o3 => ⟨.none, rfl, ?_⟩) (PyProof.Rows.args_list_sort _)
  · refine kind_pi (s := { s with heap := TS.midHeap h2 h'.objs.size (as.map Value.ref), toks := tk }) h2' (fun v hv' => ?_) (fun v hv' u hu' hkeq => ?_) Qk hQk
    · obtain ⟨j, b, e, rfl, hj, he⟩ := at_ v hv'
      obtain ⟨e', he', hp'⟩ := pin j b hj
      exact ⟨e'.1, e'.2, hp', hfl _ (List.mem_of_getElem? he')⟩
    · obtain ⟨j, b, e, rfl, hj, he⟩ := at_ v hv'
      obtain ⟨j2, b2, e2, rfl, hj2, he2⟩ := at_ u hu'
      have hkeq : keyI (TS.midHeap h2 h'.objs.size (as.map Value.ref)) (.ref b) = keyI (TS.midHeap h2 h'.objs.size (as.map Value.ref)) (.ref b2) := hkeq
      rw [tx j b e hj he, tx j2 b2 e2 hj2 he2] at hkeq
      have m1 : (ks.map (·.1))[j]? = some e.1 := by rw [List.getElem?_map, he]; rfl
      have m2 : (ks.map (·.1))[j2]? = some e.1 := by rw [List.getElem?_map, he2, hkeq]; rfl
      have ej : j = j2 := (List.getElem?_inj (List.getElem?_eq_some_iff.mp m1).1 nodk).mp (m1.trans m2.symm)
      subst ej
      rw [hj] at hj2
      cases hj2
      rfl
  · show EP X pins σ Q (.ref h'.objs.size) { s with heap := sortedHeap h2 h'.objs.size (as.map Value.ref) out, toks := tk }
    obtain ⟨zs, pz, ez⟩ := perm_lift (fun z : Addr × Int × V => (Value.ref z.1, Value.ref z.1)) o2 (as.zip ks) (zip_self Value.ref as ks lak)
    have idx : ∀ z ∈ zs, ∃ j : Nat, as[j]? = some z.1 ∧ ks[j]? = some z.2 := by
      intro z' hz'
      obtain ⟨j, hj⟩ := List.mem_iff_getElem?.mp (pz.mem_iff.mp hz')
      exact ⟨j, List.getElem?_zip_eq_some.mp hj⟩
    have hout : out.toList = zs.map fun z => Value.ref z.1 := by
      rw [o1, ← ez, List.map_map]
      all_goals rfl
    have hperm : (zs.map (·.2)).Perm ks := by
      have e := pz.map (·.2)
      have m2 : (as.zip ks).map (·.2) = ks := List.map_snd_zip (by rw [lak]; exact Nat.le_refl _)
      rw [m2] at e
      exact e
    have hsort : (zs.map (·.2)).Pairwise (fun e f => e.1 ≤ f.1) := by
      rw [← ez, List.pairwise_map] at o3
      rw [List.pairwise_map]
      refine List.Pairwise.imp_of_mem (fun {x y} hx hy h => ?_) o3
      obtain ⟨j, j1, j2⟩ := idx x hx
      obtain ⟨i, i1, i2⟩ := idx y hy
      have h' : keyI (TS.midHeap h2 h'.objs.size (as.map Value.ref)) (.ref x.1) ≤ keyI (TS.midHeap h2 h'.objs.size (as.map Value.ref)) (.ref y.1) := h
      rw [tx j _ _ j1 j2, tx i _ _ i1 i2] at h'
      exact h'
    have kF : ∀ b o, b ≠ h'.objs.size → h2.get? b = some o → (sortedHeap h2 h'.objs.size (as.map Value.ref) out).get? b = some o := fun b o hb e => (PyProof.Rows.sortedHeap_old hb (Heap.lt_size e)).trans e
    have kS : ∀ b o, s.heap.get? b = some o → (sortedHeap h2 h'.objs.size (as.map Value.ref) out).get? b = some o := fun b o e => kF b o (ne0 _ _ (hk b o e)) (kb b o e)
    obtain ⟨eF, heF⟩ := PyProof.Rows.sortedHeap_at (vs := as.map Value.ref) (out := out) hob
    have I1 : Inv X pins σ H { s with heap := sortedHeap h2 h'.objs.size (as.map Value.ref) out, toks := tk } := I.kept (t' := tk) kS
    have hn0 : H h'.objs.size = none := I.hok.fresh (Nat.le_of_lt hlt)
    have hlen : (zs.map fun z => V.ref z.1).length ≤ sizeLine := by
      have e := hperm.length_eq
      rw [List.length_map] at e
      rw [List.length_map, sizeLine_eq]
      omega
    have rv : Vals (zs.map fun z => V.ref z.1) out.toList := by
      rw [hout]
      exact vals_maps (fun z : Addr × Int × V => V.ref z.1) (fun z => Value.ref z.1) zs fun _ _ => rfl
    have I2 : Inv X pins σ (upd H h'.objs.size (.lst (zs.map fun z => V.ref z.1))) { s with heap := sortedHeap h2 h'.objs.size (as.map Value.ref) out, toks := tk } :=
      I1.take (h' := sortedHeap h2 h'.objs.size (as.map Value.ref) out) (t' := tk) (fun b ob _ e => e) (I.fpOk (Nat.le_of_lt hlt) hn0) ⟨hlen, out.toList, eF, rv, heF⟩
    obtain ⟨H2, I3, g, qt⟩ := takeT (P := fun b vs => ∃ (j : Nat) (e : Int × V), as[j]? = some b ∧ ks[j]? = some e ∧ vs = [.int e.1, e.2]) I as _ I2 nd fun b hb => by
      obtain ⟨j, hj⟩ := List.mem_iff_getElem?.mp hb
      obtain ⟨e, t, u, he, ru, hg⟩ := pr j b hj
      have hbl : s.heap.objs.size ≤ b := Nat.le_of_lt (hG.above b hb)
      refine ⟨hbl, ?_, [.int e.1, e.2], ⟨j, e, hj, he, rfl⟩, fun H3 => ⟨(by rw [sizeLine_eq]; show 2 ≤ 16777216; omega), [Value.int e.1 t, u], .cons ⟨t, rfl⟩ (.cons ru .nil), ⟨_, kF _ _ (ne0 _ _ hg) (ka _ _ hg), rfl, 0, rfl⟩⟩⟩
      rw [upd_ne (ne0 _ _ hg)]
      exact I.hok.fresh hbl
    have gr : ∀ b o, H b = some o → H2 b = some o := fun b o e => g b o (by rw [upd_ne (ne_of_none e hn0)]; exact e)
    refine ⟨.ref h'.objs.size, H2, I3, rfl, q nodk H2 h'.objs.size zs gr hperm hsort hn0 (g _ _ upd_same) fun z' hz' => ?_⟩
    obtain ⟨i, i1, i2⟩ := idx z' hz'
    obtain ⟨vs, ⟨j, e, j1, j2, ev⟩, hH⟩ := qt z'.1 (List.mem_of_getElem? i1)
    have eij : i = j := (List.getElem?_inj (List.getElem?_eq_some_iff.mp i1).1 nd).mp (i1.trans j1.symm)
    subst eij
    have ee : e = z'.2 := Option.some.inj (j2.symm.trans i2)
    rw [ev, ee] at hH
    exact ⟨I.hok.fresh (Nat.le_of_lt (hG.above _ (List.mem_of_getElem? i1))), hH⟩
/-- d.items(), as a value -/
theorem pe_itemsK {o : Expr} {to : TE} {apos cpos : Pos} (ho : PE X o to) (hbase : attributeBase o "items" X.env (eval o X.env) = eval o X.env := by rfl) (hline : (apos.endLine == cpos.line) = true := by rfl) :
    PE X (.Call (.Attribute o "items" apos) [] [] cpos) (fun σ H Q => to σ H fun x H1 => ∃ (a : Addr) (kvs : List (Key × V)), x = .ref a ∧ Rd H1 a (.dK kvs) ∧ ∀ p, H1 p = none → Q (.ref p) (upd H1 p (itemsO p a))) := by
  refine ⟨fun pins s σ H Q I h => ?_⟩
  refine wpAny_Call_method0_late hbase hline (thn (ho.run pins s σ H _ I h) fun v s1 ⟨x, H1, I1, r1, a, kvs, ex, hr, q⟩ => ?_)
  subst ex
  obtain rfl : v = Value.ref a := r1
  obtain ⟨z, hd, vs, rel, dd⟩ := dk_rd I1.hok hr
  obtain ⟨oo, es, ep, h1, h2, h3, _⟩ := id dd
  refine ⟨"dict", "dict.items", PySem.F.plainAttrs_dict, PySem.F.slot_dict_items, PySem.F.type_dict_items, dd.typeIs, fun b e => ?_, Calls.callWith_builtin rfl (PySem.evalArgs_none ?_)⟩
  · cases e
    exact ⟨oo, h1, h2.2.1⟩
  · have hf : H1 s1.heap.objs.size = none := I1.hok.fresh (Nat.le_refl _)
    refine DT.callItems (es := es) (ep := ep) hd ⟨oo, h1, h2, h3⟩ ?_
    exact ⟨.ref s1.heap.objs.size, upd H1 s1.heap.objs.size (itemsO s1.heap.objs.size a), I1.laid (t' := s1.toks) (fun b u e => Heap.get?_push_of_some _ e) (Nat.le_refl _) (itemsO_ok (Heap.get?_push_size _ rfl)), rfl, q _ hf⟩
end
end L2.DS
/-! DLX: what is left. -/
namespace DL
open PySem PySem.Spec L2
theorem CT.hu1 {X : Cx} {W : WX} {k : Nat} (C : CT X W k) : X.A.units + 1 < cLine := by have := C.hu; omega
/-- a def that is known -/
def FE (P : Program) (w : World) (K : PySem.W.Frag) (mg : Str → Option Value) (base : Heap) (k : Nat) (x : Str) (ps : List Str) (M : List D → Res D) : Prop :=
  ∃ f fd, FnOk P w K mg base (L2.CX P w) k f fd ps (spD K mg M) ∧ mg x = some (.ref f) ∧ PySem.W.keepIn K (.ref f) = true ∧ Binds K fd ps []
section
variable {X : Cx} {O : List Nat} {W : WX} {a b c e : Expr} {es : List Expr} {ta tb tc : DE} {t : DA} {p pos apos cpos : Pos} {lv l1 l2 k n : Nat} {x : Str}
theorem nDict (hc : X.calm = true) (hm : X.mg "dict" = none) (ha : EX X O W 1 a ta) (hg : Gl X "dict" := by rfl) (he : starEach (a :: []) X.env = (false, eval a X.env) :: starEach [] X.env := by rfl) (hpl : (backTo pos (starEach [] X.env)).any (·.1) = false := by rfl) :
    EN X O W (.Call (.Name "dict" p) [a] [] pos) (d1 fDict ta) := by
  refine PE.imp (pe_callTy (call_dictCopy.or (call_dictP hc)) hg hm PyProof.Rows.boot_dict (pa_cons ha pa_nil he) (by decide) (by decide) he hpl) fun σ H Q h => ?_
  obtain ⟨av, H₀, own, ds, R, m⟩ := h
  refine ⟨av, H₀, own, ds, R, (FinP.bind m).later (Same.refl _) fun x1 m1 v H1 s1 r1 => ?_⟩
  obtain ⟨d, e, q⟩ := m1.ofO
  unfold fDict at e
  split at e
  · cases e
    obtain ⟨p, us, rfl, hp, rs⟩ := r1.dct
    exact .inl ⟨p, us, rfl, hp, fun n hn => q _ _ (s1.trans (same_upd hn)) (new_dct s1 hn rs)⟩
  · split at e
    · rename_i kvs hk
      cases e
      obtain ⟨p, us, rfl, hp, rs⟩ := r1.lst
      obtain ⟨as, ks, rfl, r2, r3⟩ := pairs_reps rs hk
      exact .inr ⟨p, as, ks, rfl, SqL.of hp, Paired.imp2 (fun _ _ z => (z.sub clean_le).sq) r3, fun n hn => q _ _ (s1.trans (same_upd hn)) (new_dct s1 hn (RepK.merge r2 RepK.nil))⟩
    · cases e
  · cases e
theorem nCat (ha : EX X O W 1 a ta) (hb : EX X O W 1 b tb) : EN X O W (.BinOp a .Add b pos) (d2 opCat ta tb) := by
  refine PE.imp (pe_op op_cat ha hb) fun σ H Q h => ?_
  obtain ⟨av, H₀, own, ds, R, m⟩ := h
  refine ⟨av, H₀, own, ds, R, (FinP.bind m).later (Same.refl _) fun x1 m1 v H1 s1 r1 => ?_⟩
  refine ⟨av, H₀, own, ds, R.same s1, (FinP.bind m1).later s1 fun x2 m2 y H2 s2 r2 => ?_⟩
  obtain ⟨d, e, q⟩ := m2.ofO
  unfold opCat at e
  split at e
  · split at e
    · rename_i hz
      cases e
      obtain ⟨p, us, rfl, h1, rs1⟩ := r1.lst
      obtain ⟨p', us', rfl, h1', rs1'⟩ := r2.lst
      have rs := Reps.sub (clean_sub (av := av) (own := own) (Sub.of s2)) _ _ rs1
      exact ⟨p, p', us, us', rfl, rfl, s2 _ _ h1, h1', by rw [rs1.length, rs1'.length, sizeLine_eq]; exact hz, fun n hn => q _ _ ((s1.trans s2).trans (same_upd hn)) (new_lst (s1.trans s2) hn (rs.append rs1'))⟩
    · cases e
  · cases e
theorem flat_fv {d : D} (h : d.flat = true) : flatV d.fv = true := by
  cases d <;> first | rfl | cases h
theorem intPairs_reps {K : PySem.W.Frag} {M : Hp} : ∀ {kvs : List (Key × D)} {us : List (Key × V)} {ps : List (Int × D)}, RepK K M kvs us → intPairs kvs = some ps → us = (ps.map fun p => (p.1, p.2.fv)).map (fun e => (Sum.inl e.1, e.2)) ∧ ∀ p ∈ ps, p.2.flat = true
  | [], _, _, r, h => by
    simp only [RepK] at r
    subst r
    cases h
    exact ⟨rfl, fun _ h => by cases h⟩
  | (.inr k, d) :: kvs, _, _, r, h => by simp only [intPairs] at h; cases h
  | (.inl k, d) :: kvs, _, ps, r, h => by
    simp only [RepK] at r
    obtain ⟨x, r', rfl, h1, h2⟩ := r
    simp only [intPairs] at h
    split at h
    · rename_i hf
      obtain ⟨qs, e1, rfl⟩ := Option.map_eq_some_iff.mp h
      obtain ⟨i1, i2⟩ := intPairs_reps h2 e1
      refine ⟨?_, fun p hp => ?_⟩
      · rw [i1, h1.flat hf]
        rfl
      · rcases List.mem_cons.mp hp with rfl | hp
        · exact hf
        · exact i2 p hp
    · cases h
theorem insP_perm {α : Type} (p : Int × α) : ∀ l : List (Int × α), (insP p l).Perm (p :: l)
  | [] => List.Perm.refl _
  | q :: r => by
    unfold insP
    split
    · exact List.Perm.refl _
    · exact ((insP_perm p r).cons q).trans (List.Perm.swap p q r)
theorem sortP_perm {α : Type} : ∀ l : List (Int × α), (sortP l).Perm l
  | [] => List.Perm.refl _
  | p :: r => (insP_perm p _).trans ((sortP_perm r).cons p)
theorem insP_asc {α : Type} (p : Int × α) : ∀ l : List (Int × α), l.Pairwise (fun a b => a.1 ≤ b.1) → (insP p l).Pairwise (fun a b => a.1 ≤ b.1)
  | [], _ => by simp [insP]
  | q :: r, h => by
    unfold insP
    rw [List.pairwise_cons] at h
    split
    · rename_i hq
      refine List.pairwise_cons.mpr ⟨fun x hx => ?_, List.pairwise_cons.mpr h⟩
      rcases List.mem_cons.mp hx with z | z
      · rw [z]; exact hq
      · exact Int.le_trans hq (h.1 x z)
    · rename_i hq
      refine List.pairwise_cons.mpr ⟨fun x hx => ?_, insP_asc p r h.2⟩
      rcases List.mem_cons.mp ((insP_perm p r).mem_iff.mp hx) with z | z
      · rw [z]; omega
      · exact h.1 x z
theorem sortP_asc {α : Type} : ∀ l : List (Int × α), (sortP l).Pairwise (fun a b => a.1 ≤ b.1)
  | [] => List.Pairwise.nil
  | p :: r => insP_asc p _ (sortP_asc r)
theorem insP_map {α β : Type} (g : α → β) (p : Int × α) : ∀ l : List (Int × α), insP (p.1, g p.2) (l.map fun q => (q.1, g q.2)) = (insP p l).map fun q => (q.1, g q.2)
  | [] => rfl
  | q :: r => by
    unfold insP
    simp only [List.map_cons]
    split
    · rfl
    · rw [List.map_cons, ← insP_map g p r]
theorem sortP_map {α β : Type} (g : α → β) : ∀ l : List (Int × α), sortP (l.map fun q => (q.1, g q.2)) = (sortP l).map fun q => (q.1, g q.2)
  | [] => rfl
  | p :: r => by
    show insP (p.1, g p.2) (sortP (r.map fun q => (q.1, g q.2))) = (insP p (sortP r)).map _
    rw [sortP_map g r, insP_map]
theorem sortP_uniq {α : Type} {l m : List (Int × α)} (p : l.Perm m) (h : l.Pairwise fun a b => a.1 ≤ b.1) (nd : (m.map (·.1)).Nodup) : l = sortP m := by
  refine (p.trans (sortP_perm m).symm).eq_of_pairwise (le := fun a b => a.1 ≤ b.1) (fun a b ha hb h1 h2 => ?_) h (sortP_asc m)
  have ha' := p.mem_iff.mp ha
  have hb' := (sortP_perm m).mem_iff.mp hb
  have e : a.1 = b.1 := Int.le_antisymm h1 h2
  obtain ⟨i, hi⟩ := List.mem_iff_getElem?.mp ha'
  obtain ⟨j, hj⟩ := List.mem_iff_getElem?.mp hb'
  have m1 : (m.map (·.1))[i]? = some a.1 := by rw [List.getElem?_map, hi]; rfl
  have m2 : (m.map (·.1))[j]? = some a.1 := by rw [List.getElem?_map, hj, e]; rfl
  have ij : i = j := (List.getElem?_inj (List.getElem?_eq_some_iff.mp m1).1 nd).mp (m1.trans m2.symm)
  subst ij
  rw [hi] at hj
  exact Option.some.inj hj
theorem reps_pairs {K : PySem.W.Frag} {M : Hp} : ∀ {ps : List (Int × D)} {zs : List (Addr × Int × V)}, zs.map (·.2) = ps.map (fun p => (p.1, p.2.fv)) → (∀ p ∈ ps, p.2.flat = true) → (∀ z ∈ zs, M z.1 = some (.tup [.int z.2.1, z.2.2])) → Reps K M (ps.map fun p => .tup [.int p.1, p.2]) (zs.map fun z => .ref z.1)
  | [], zs, h, _, _ => by
    have : zs = [] := List.map_eq_nil_iff.mp h
    subst this
    exact Reps.nil
  | p :: ps, [], h, _, _ => by cases h
  | p :: ps, z :: zs, h, hf, hz => by
    rw [List.map_cons, List.map_cons] at h
    obtain ⟨h1, h2⟩ := List.cons.inj h
    refine Reps.cons ?_ (reps_pairs h2 (fun q hq => hf q (List.mem_cons_of_mem _ hq)) fun q hq => hz q (List.mem_cons_of_mem _ hq))
    have e := hz z List.mem_cons_self
    rw [h1] at e
    simp only [Rep]
    exact ⟨z.1, _, rfl, .inl e, Reps.cons (by simp only [Rep]) (Reps.one (Rep.ofFlat (hf p List.mem_cons_self)))⟩
theorem eSortedIt (hc : X.calm = true) (hm : X.mg "sorted" = none) (ha : EX X O W 1 a ta) (hg : Gl X "sorted" := by rfl) (hbase : attributeBase a "items" X.env (eval a X.env) = eval a X.env := by rfl) (hline : (apos.endLine == cpos.line) = true := by rfl)
    (he : starEach [.Call (.Attribute a "items" apos) [] [] cpos] X.env = (false, eval (.Call (.Attribute a "items" apos) [] [] cpos) X.env) :: starEach [] X.env := by rfl) (hpl : (backTo pos (starEach [] X.env)).any (·.1) = false := by rfl) :
    EX X O W lv (.Call (.Name "sorted" p) [.Call (.Attribute a "items" apos) [] [] cpos] [] pos) (d1 fSortedIt ta) := by
  refine EX.up (PE.imp (pe_callB (L2.DS.cr_sortIK hc) hg hm (by decide +kernel) (pa_cons (L2.DS.pe_itemsK ha hbase hline) pa_nil he) (by decide) (by decide) he hpl) fun σ H Q h => ?_)
  obtain ⟨av, H₀, own, ds, R, m⟩ := h
  refine ⟨av, H₀, own, ds, R, (FinP.bind m).later (Same.refl _) fun d m1 v H1 s1 r1 => ?_⟩
  obtain ⟨d', e, q⟩ := m1.ofO
  unfold fSortedIt at e
  split at e
  · split at e
    · rename_i ps hps
      split at e
      · rename_i h64
        cases e
        have R1 := R.same s1
        obtain ⟨a', us, rfl, hp, rs⟩ := RepLv.dct r1
        obtain ⟨eu, hfl⟩ := intPairs_reps rs hps
        refine ⟨a', us, rfl, rd_of_vw hp, fun pn hpn => ?_⟩
        have hap : a' ≠ pn := fun z => by rw [z, hpn] at hp; cases hp
        have sp : Same H1 (upd H1 pn (L2.DX.itemsO pn a')) := same_upd hpn
        refine ⟨pn, a', ps.map fun p => (p.1, p.2.fv), rfl, upd_same, ?_, by rw [List.length_map]; exact h64, fun e he => ?_, fun nod H' l zs hs hperm hsrt hl hlst hz => ?_⟩
        · rw [← eu]
          exact rd_of_vw (by rw [upd_ne hap]; exact hp)
        · obtain ⟨p', hp', rfl⟩ := List.mem_map.mp he
          exact flat_fv (hfl p' hp')
        · have hs' : Same (upd H1 pn (L2.DX.itemsO pn a')) H' := hs
          have nl : ∀ b, upd H1 pn (L2.DX.itemsO pn a') b = none → H1 b = none := fun b hb => by
            cases z : H1 b with
            | none => rfl
            | some o => rw [sp b o z] at hb; cases hb
          have cl : ∀ b, upd H1 pn (L2.DX.itemsO pn a') b = none → clean av own H' b = H' b := fun b hb => clean_some (fun z => R1.av0 b z (nl b hb)) (fun i z => R1.live i b z (nl b hb))
          refine q (.ref l) H' ((s1.trans sp).trans hs') (RepLv.up ?_)
          simp only [Rep]
          refine ⟨l, zs.map fun z => .ref z.1, rfl, by rw [cl l hl]; exact hlst, reps_pairs ?_ (fun p' hp' => hfl p' ((sortP_perm ps).mem_iff.mp hp')) fun z hzz => ?_⟩
          · rw [sortP_uniq hperm hsrt nod, sortP_map]
          · obtain ⟨z1, z2⟩ := hz z hzz
            rw [cl z.1 z1]
            exact z2
      · cases e
    · cases e
  · cases e
end
end DL
/-! DLR: own errors with fields. -/
namespace DL
open PySem PySem.Spec L2
/-- what such an __init__ does -/
def spI (C : Addr) (fs : List Str) : Sp := fun vs H Q _ => ∃ a ws, vs = .ref a :: ws ∧ ws.length = fs.length ∧ H a = some (exo a C none) ∧
  ∀ dx H2, H dx = none → dx ≠ a → H2 a = some (exo a C (some dx)) → H2 dx = some (exd dx (fs.zip ws).reverse) → (∀ b, b ≠ a → b ≠ dx → H2 b = H b) → Q .non H2
structure XO (P : Program) (w : World) (K : PySem.W.Frag) (mg : Str → Option Value) (base : Heap) (x : Str) (fs : List Str) : Prop where
  ex : ∃ C fI fd, mg x = some (.ref C) ∧ OexC K C ∧ PySem.W.findIn K (.ref C) "__init__" = some (some (.ref fI)) ∧ PySem.W.typeIn K (.ref fI) = some (.type "function") ∧ FnOk P w K mg base CX0 1 fI fd ("self" :: fs) (spI C fs) ∧ Binds K fd ("self" :: fs) []
theorem flats {K : PySem.W.Frag} {av : Addr → Prop} {own : Nat → Option Addr} {H : Hp} : ∀ {ds : List D} {vs : List V}, RepLvs K av own H 2 ds vs → ds.all D.flat = true → vs = ds.map D.fv
  | [], _, h, _ => h
  | d :: ds, _, h, f => by
    obtain ⟨x, r, rfl, h1, h2⟩ := h
    rw [List.all_cons, Bool.and_eq_true] at f
    rw [List.map_cons, ← flats h2 f.2]
    congr 1
    exact Rep.flat (show Rep K (clean av own H) d x from h1) f.1
section
variable {X : Cx} {O : List Nat} {W : WX} {e : Expr} {es : List Expr} {t : DA} {k : Nat}
theorem sRaO {x : Str} {fs : List Str} {p p2 pos : Pos} (T : CT X W k) (F : XO X.prog X.w X.K X.mg X.base x fs) (ha : AX X O W 2 (e :: es) t) (hf : fs ≠ [] := by simp) (hl : fs.length ≤ 1000 := by decide) (hk : 2 ≤ k := by decide) (hg : Gl X x := by rfl) (hdb : (x == ("__debug__" : Str)) = false := by decide)
    (he : starEach (e :: es) X.env = (false, eval e X.env) :: starEach es X.env := by rfl) (hpl : (backTo p2 (starEach es X.env)).any (·.1) = false := by rfl) : SX X O W (.Raise (some (.Call (.Name x p) (e :: es) [] p2)) none pos) (sRaiO x fs t) := by
  obtain ⟨C, fI, fd, hm, Tc, iC, tI, F1, hb⟩ := F.ex
  refine PS.imp (ps_raise T.calm T.tk (pmk_oex (dvs := []) Tc iC tI F1 (T.hr.mono hk) hb .nil (fun _ _ _ _ _ _ _ h => h.elim) hg hm ha hdb he hpl)) fun N σ H h => ?_
  obtain ⟨av, H₀, own, ds, R, m⟩ := liftS_iff.mp h
  unfold sRaiO at m
  refine ⟨av, H₀, own, ds, R, fin_of R m (fun e h => by rw [h]) (fun h => by rw [h]) fun xs hx vs H1 s1 r1 => ?_⟩
  rw [hx] at m
  simp only at m
  split at m
  · rename_i hc
    have ev := flats r1 hc.2
    refine ⟨by rw [ev, List.length_map, hc.1]; exact hl, fun a ha1 => ?_⟩
    refine ⟨a, vs ++ [], rfl, by rw [List.append_nil, ev, List.length_map, hc.1], upd_same, fun dx H2 h1 h2 h3 h4 h5 => ⟨rfl, dx, _, h3, h4, ?_, ?_⟩⟩
    · rw [upd_ne h2] at h1
      exact h1
    · rw [upd_ne h2] at h1
      have sG : Same H1 (upd (del H2 a) dx (.xd (fs.zip (vs ++ [])).reverse)) := fun b o eb => by
        have n1 : b ≠ dx := fun z => by rw [z, h1] at eb; cases eb
        have n2 : b ≠ a := fun z => by rw [z, ha1] at eb; cases eb
        rw [upd_ne n1, del_ne n2, h5 b n2 n1, upd_ne n2]
        exact eb
      refine m own _ _ _ _ (R.same (s1.trans sG)) ⟨C, hm, rfl, .inr ⟨?_, dx, rfl, ?_⟩⟩
      · intro z
        have := congrArg List.length z
        rw [List.length_reverse, List.length_zip, hc.1, Nat.min_self, List.length_nil] at this
        exact hf (List.eq_nil_of_length_eq_zero this)
      · rw [upd_same, List.append_nil, ev, List.map_reverse, List.zip_map_right]
        rfl
  · exact m.elim
end
/-! ### such an __init__ -/
theorem okI1 {P : Program} {w : World} {K : PySem.W.Frag} {mg : Str → Option Value} {base : Heap} {qual f : Str} {st : Stmt} {fI C : Addr} {fd : FuncData} {p1 p2 p3 p4 : Pos} (F : Fun K "__init__" qual st fI fd) (sc : FnScope ["self", f] ["self", f] (defScope st)) (hb : defBody st = [.Assign [.Attribute (.Name "self" p1) f p2] (.Name f p3) p4])
    (T : OexC K C) (hf : PySem.W.findIn K (.ref C) f = some none) (hv0 : Vis (defScope st) "self") (hv1 : Vis (defScope st) f) (hd : (f == ("__debug__" : Str)) = false := by decide) (hcd : (f == ("__classdict__" : Str)) = false := by decide) : FnOk P w K mg base CX0 1 fI fd ["self", f] (spI C [f]) := by
  refine F.ok sc (fun vs H Q E h => ?_) (fun cdv A outer s H vs Q E hr h => ?_)
  · obtain ⟨a, ws, rfl, hl, _⟩ := h
    simpa using hl
  · obtain ⟨a, ws, rfl, hl, ha, q⟩ := h
    match ws, hl with
    | [v], _ =>
      refine ⟨_, by rw [hb]; exact pss_cons (ps_ost (pe_var (i := 0) rfl hv0) (pe_var (i := 1) rfl hv1 hd hcd)) pss_nil, ?_⟩
      refine ⟨v, rfl, .ref a, rfl, a, C, rfl, T, hf, .inl ⟨ha, fun dx h1 h2 => ?_⟩⟩
      refine q dx _ h1 h2 upd_same ?_ fun b n1 n2 => ?_
      · rw [upd_ne h2, upd_same]
        rfl
      · rw [upd_ne n1, upd_ne n2]
theorem okI2 {P : Program} {w : World} {K : PySem.W.Frag} {mg : Str → Option Value} {base : Heap} {qual f g : Str} {st : Stmt} {fI C : Addr} {fd : FuncData} {p1 p2 p3 p4 q1 q2 q3 q4 : Pos} (F : Fun K "__init__" qual st fI fd) (sc : FnScope ["self", f, g] ["self", f, g] (defScope st)) (hb : defBody st = [.Assign [.Attribute (.Name "self" p1) f p2] (.Name f p3) p4, .Assign [.Attribute (.Name "self" q1) g q2] (.Name g q3) q4])
    (T : OexC K C) (hf : PySem.W.findIn K (.ref C) f = some none) (hg : PySem.W.findIn K (.ref C) g = some none) (hv0 : Vis (defScope st) "self") (hv1 : Vis (defScope st) f) (hv2 : Vis (defScope st) g) (hd : (f == ("__debug__" : Str)) = false := by decide) (hcd : (f == ("__classdict__" : Str)) = false := by decide) (hd2 : (g == ("__debug__" : Str)) = false := by decide) (hcd2 : (g == ("__classdict__" : Str)) = false := by decide) : FnOk P w K mg base CX0 1 fI fd ["self", f, g] (spI C [f, g]) := by
  refine F.ok sc (fun vs H Q E h => ?_) (fun cdv A outer s H vs Q E hr h => ?_)
  · obtain ⟨a, ws, rfl, hl, _⟩ := h
    simpa using hl
  · obtain ⟨a, ws, rfl, hl, ha, q⟩ := h
    match ws, hl with
    | [v, u], _ =>
      refine ⟨_, by rw [hb]; exact pss_cons (ps_ost (pe_var (i := 0) rfl hv0) (pe_var (i := 1) rfl hv1 hd hcd)) (pss_cons (ps_ost (pe_var (i := 0) rfl hv0) (pe_var (i := 2) rfl hv2 hd2 hcd2)) pss_nil), ?_⟩
      refine ⟨v, rfl, .ref a, rfl, a, C, rfl, T, hf, .inl ⟨ha, fun dx h1 h2 => ?_⟩⟩
      refine ⟨u, rfl, .ref a, rfl, a, C, rfl, T, hg, .inr ⟨dx, [(f, v)], upd_same, by rw [upd_ne h2, upd_same], by show 1 ≤ 900; decide, ?_⟩⟩
      refine q dx _ h1 h2 ?_ upd_same fun b n1 n2 => ?_
      · rw [upd_ne (Ne.symm h2), upd_same]
      · rw [upd_ne n2, upd_ne n1, upd_ne n2]
/-! ### an except suite whose exception may have fields -/
/-- what the exception's dict holds -/
def XdAt (H : Hp) (d : Option Addr) (x : Err) : Prop := (x.fs = [] ∧ d = none) ∨ x.fs ≠ [] ∧ ∃ a, d = some a ∧ H a = some (.xd (x.fs.map fun p => (p.1, p.2.fv)))
theorem XdAt.same {H H' : Hp} {d : Option Addr} {x : Err} (h : XdAt H d x) (s : Same H H') : XdAt H' d x := by
  rcases h with h | ⟨h1, a, h2, h3⟩
  · exact .inl h
  · exact .inr ⟨h1, a, h2, s _ _ h3⟩
/-- a statement that stays, or goes out -/
def Still (t : DS) : Prop := ∀ s s1, t s = .nx s1 → s1 = s
theorem still_nx : Still sNx := fun s s1 h => by cases h; rfl
theorem still_ret {e : DE} : Still (sRet e) := fun s s1 h => by
  unfold sRet at h
  cases q : e s <;> rw [q] at h <;> cases h
theorem still_sq {t u : DS} (h1 : Still t) (h2 : Still u) : Still (sSq t u) := fun s s1 h => by
  unfold sSq at h
  cases q : t s with
  | nx s2 =>
    rw [q] at h
    rw [h2 s2 s1 h, h1 s s2 q]
  | _ => rw [q] at h; cases h
theorem still_if {c : DT} {t u : DS} (h1 : Still t) (h2 : Still u) : Still (sIf c t u) := fun s s1 h => by
  unfold sIf at h
  cases q : c s with
  | ok b =>
    rw [q] at h
    cases b with
    | true => exact h1 s s1 h
    | false => exact h2 s s1 h
  | _ => rw [q] at h; cases h
def PostF (K : PySem.W.Frag) (av : Addr → Prop) (H₀ : Hp) (N : Ends) (σ : L2.St) (H : Hp) : RS → Prop
  | .nx _ => N.nx σ H
  | .rt d => ∀ v H', Same H₀ H' → Rep K (clean av noOwn H') d v → N.rt v H'
  | _ => False
def liftHF (K : PySem.W.Frag) (O : List Nat) (i : Nat) (a : Addr) (d : Option Addr) (x : Err) (t : DS) : TS := fun N σ H => ∃ av H₀ own ds, Rel K O av H₀ own ds σ H ∧ σ[i]? = some (some (.ref a)) ∧ XdAt H d x ∧ PostF K av H₀ N σ H (t ds)
def HF (X : Cx) (O : List Nat) (i : Nat) (a : Addr) (d : Option Addr) (x : Err) (st : Stmt) (t : DS) : Prop := PS X st (liftHF X.K O i a d x t)
def HFB (X : Cx) (O : List Nat) (i : Nat) (a : Addr) (d : Option Addr) (x : Err) (st : List Stmt) (t : DS) : Prop := PSs X st (liftHF X.K O i a d x t)
section
variable {X : Cx} {O : List Nat} {c e : Expr} {ta : DE} {pos : Pos} {st : Stmt} {rest body orelse : List Stmt} {t u : DS} {i : Nat} {ad : Addr} {d : Option Addr} {x : Err}
theorem fNil : HFB X O i ad d x [] sNx := PSs.imp pss_nil fun N σ H h => by
  obtain ⟨av, H₀, own, ds, R, es, xd, m⟩ := h
  exact m
theorem fC (h1 : HF X O i ad d x st t) (hs : Still t) (h2 : HFB X O i ad d x rest u) : HFB X O i ad d x (st :: rest) (sSq t u) := PSs.imp (pss_cons h1 h2) fun N σ H h => by
  obtain ⟨av, H₀, own, ds, R, es, xd, m⟩ := h
  refine ⟨av, H₀, own, ds, R, es, xd, ?_⟩
  unfold sSq at m
  cases e : t ds with
  | nx s1 =>
    rw [e] at m
    have := hs _ _ e
    subst this
    exact ⟨av, H₀, own, s1, R, es, xd, m⟩
  | rt d => rw [e] at m; exact m
  | bk s1 => rw [e] at m; exact m.elim
  | ct s1 => rw [e] at m; exact m.elim
  | er x s1 => rw [e] at m; exact m.elim
  | stuck => rw [e] at m; exact m.elim
/-- an expression of a suite that reads the exception alone -/
def liftXF (K : PySem.W.Frag) (O : List Nat) (i : Nat) (a : Addr) (d : Option Addr) (x : Err) (t : DE) : TE := fun σ H Q => ∃ av H₀ own ds, Rel K O av H₀ own ds σ H ∧ σ[i]? = some (some (.ref a)) ∧ XdAt H d x ∧ match t ds with
  | .ok r => ∀ v H', Same H H' → Rep K (clean av noOwn H') r v → Q v H'
  | _ => False
theorem fRt (h : PE X e (liftXF X.K O i ad d x ta)) : HF X O i ad d x (.Return (some e) pos) (sRet ta) := PS.imp (ps_ret h) fun N σ H h => by
  obtain ⟨av, H₀, own, ds, R, es, xd, m⟩ := h
  refine ⟨av, H₀, own, ds, R, es, xd, ?_⟩
  unfold sRet at m
  cases q : ta ds with
  | ok r => rw [q] at m; exact fun v H' s rp => m v H' (R.base.trans s) rp
  | err e => rw [q] at m; exact m.elim
  | stuck => rw [q] at m; exact m.elim
theorem Rep.fl0 {K : PySem.W.Frag} {M : Hp} {r : D} (h : r.flat = true) : Rep K M r r.fv := Rep.ofFlat h
/-- isinstance(wrong, T) -/
def tIsF (i : Nat) (a : Addr) (d : Option Addr) (x : Err) (b : Bool) : TE := fun σ H Q => σ[i]? = some (some (.ref a)) ∧ XdAt H d x ∧ Q (.bl b) H
def rIsF (K : PySem.W.Frag) (D a : Addr) (d : Option Addr) (x : Err) : List V → Hp → VK → Prop := fun xs H Q => ∃ (c : V) (cv : Value) (b : Bool), xs = [.ref a, c] ∧ (∀ u, RelV c u → u = cv) ∧ PySem.W.kitOne K (.ref D) cv = some b ∧ XdAt H d x ∧ Q (.bl b) H
theorem call_isF {a D : Addr} {oe : Obj} {pn : List (Addr × Obj)} (C : ExcC X.K D) (hz : Zc (.ref D) d oe) (hf : ∃ vs, oe.data = .fields vs) : CallR (X.suite a ((a, oe) :: pn)) (.builtin "isinstance") (rIsF X.K D a d x) := by
  intro pins s σ H xs us Q I r h
  obtain ⟨c, cv, b, rfl, hcv, e, xd, q⟩ := h
  cases r with
  | cons rx rr =>
    cases rr with
    | cons rt rr =>
      cases rr
      cases rx
      have ec := hcv _ rt
      subst ec
      obtain ⟨hget, _⟩ := I.pin (a, oe) (List.mem_append.mpr (.inl List.mem_cons_self))
      obtain ⟨vs, hv⟩ := hf
      have J : ∃ od, PySem.W.InstAt s.heap a oe D od := by
        obtain ⟨oc, od, oda, osl⟩ := oe
        obtain ⟨h1, h2⟩ := hz
        dsimp only at h1 h2 hv
        subst h1 h2 hv
        rcases xd with ⟨_, z⟩ | ⟨_, dd, z, hd⟩
        · subst z
          exact ⟨none, hget, rfl, rfl, trivial⟩
        · subst z
          have hx : ObjOk X.prog X.w H s.heap dd (.xd (x.fs.map fun p => (p.1, p.2.fv))) := I.hok dd _ hd
          obtain ⟨mA, hns, _⟩ := hx
          obtain ⟨o, ho, _⟩ := lookIn_ns hns
          exact ⟨some o, hget, rfl, rfl, ho⟩
      obtain ⟨od, J⟩ := J
      exact PySem.W.kia_one (PySem.W.kitx_exc (by obtain ⟨cd, hc, _⟩ := PySem.W.any_some C.hd; rw [hc]; rfl) C.hg C.hk C.hs C.ha C.hn C.ht C.hm) I.kIn J e (fun z => nomatch z) fun tk => ⟨.bl b, H, I.kept (t' := tk) fun _ _ z => z, rfl, q⟩
theorem fXs {n T : Str} {D CT : Addr} {oe : Obj} {pn : List (Addr × Obj)} {bb : Bool} {p p2 p3 : Pos} (C : ExcC X.K D) (hz : Zc (.ref D) d oe) (hf : ∃ vs, oe.data = .fields vs) (hT : X.mg T = some (.ref CT)) (hk : PySem.W.kitOne X.K (.ref D) (.ref CT) = some bb) (hm : X.mg "isinstance" = none)
    (hx : X.N[i]? = some n) (hv : Vis X.env.scope n := by first | exact Or.inl rfl | exact Or.inr (Or.inl rfl) | exact Or.inr (Or.inr rfl)) (hd : (n == ("__debug__" : Str)) = false := by decide)
    (hcd : (n == ("__classdict__" : Str)) = false := by decide) (hg : Gl X "isinstance" := by rfl) (hgT : Gl X T := by rfl) (hdT : (T == ("__debug__" : Str)) = false := by decide)
    (he : starEach (.Name n p :: [.Name T p2]) X.env = (false, eval (.Name n p) X.env) :: starEach [.Name T p2] X.env := by rfl) (he2 : starEach [.Name T p2] X.env = (false, eval (.Name T p2) X.env) :: starEach [] X.env := by rfl) (hpl : (backTo pos (starEach [.Name T p2] X.env)).any (·.1) = false := by rfl) :
    PE (X.suite ad ((ad, oe) :: pn)) (.Call (.Name "isinstance" p3) [.Name n p, .Name T p2] [] pos) (tIsF i ad d x bb) := by
  refine PE.imp (pe_callB (X := X.suite ad ((ad, oe) :: pn)) (call_isF (x := x) C hz hf) hg hm PyProof.Rows.boot_isinstance (pa_cons (pe_var hx hv hd hcd) (pa_cons (pe_glob (v := .ref CT) hgT hT rfl hdT) pa_nil he2) he) (by decide) (by decide) he hpl) fun σ H Q h => ?_
  obtain ⟨es, xd, q⟩ := h
  exact ⟨.ref ad, es, .ref CT, .ref CT, bb, rfl, fun _ h => h, hk, xd, q⟩
theorem fIf {bb : Bool} {T : Str} (hc : PE X c (tIsF i ad d x bb)) (hb : bb = (x.cls == T)) (h1 : x.cls = T → HFB X O i ad d x body t) (h2 : HFB X O i ad d x orelse u) (he : ∀ whole, isTrue c X.env whole = (do let v ← whole; standAt c.pos; holding [v] (truthy v)) := by intro _; rfl) :
    HF X O i ad d x (.If c body orelse pos) (sIf (dB (xIs x T)) t u) := by
  have mm : ∀ {av : Addr → Prop} {H₀ : Hp} {N : Ends} {σ : L2.St} {H : Hp} {ds : DSt}, PostF X.K av H₀ N σ H (sIf (dB (xIs x T)) t u ds) → PostF X.K av H₀ N σ H (if (x.cls == T) = true then t ds else u ds) := by
    intro av H₀ N σ H ds m
    unfold sIf dB xIs at m
    simp only [Res.bind, boolR] at m
    cases q : (x.cls == T) <;> rw [q] at m <;> simpa using m
  cases bb with
  | true =>
    refine PS.imp (ps_if (pt_val hc he) (h1 (eq_of_beq hb.symm)) h2) fun N σ H h => ?_
    obtain ⟨av, H₀, own, ds, R, es, xd, m⟩ := h
    have m := mm m
    rw [← hb] at m
    exact ⟨es, xd, true, rfl, iteT ⟨av, H₀, own, ds, R, es, xd, m⟩⟩
  | false =>
    refine PS.imp (ps_if (pt_val hc he) pss_never h2) fun N σ H h => ?_
    obtain ⟨av, H₀, own, ds, R, es, xd, m⟩ := h
    have m := mm m
    rw [← hb] at m
    exact ⟨es, xd, false, rfl, iteF ⟨av, H₀, own, ds, R, es, xd, m⟩⟩
/-- wrong.f -/
def tFlF (i : Nat) (a : Addr) (d : Option Addr) (x : Err) (f : Str) : TE := fun σ H Q => σ[i]? = some (some (.ref a)) ∧ XdAt H d x ∧ ∃ r, x.fs.lookup f = some r ∧ Q r.fv H
theorem lookup_fv (f : Str) : ∀ l : List (Str × D), (l.map fun p => (p.1, p.2.fv)).lookup f = (l.lookup f).map D.fv
  | [] => rfl
  | (g, r) :: l => by
    rw [List.map_cons, List.lookup_cons, List.lookup_cons, lookup_fv f l]
    cases f == g <;> rfl
theorem pe_flF {n f : Str} {D : Addr} {oe : Obj} {pn : List (Addr × Obj)} {p pos2 : Pos} (C : ExcC X.K D) (hno : PySem.W.findIn X.K (.ref D) f = some none) (hz : Zc (.ref D) d oe) (hf : ∃ vs, oe.data = .fields vs)
    (hx : X.N[i]? = some n) (hv : Vis X.env.scope n := by first | exact Or.inl rfl | exact Or.inr (Or.inl rfl) | exact Or.inr (Or.inr rfl)) (hd : (n == ("__debug__" : Str)) = false := by decide)
    (hcd : (n == ("__classdict__" : Str)) = false := by decide) (hb : attributeBase (.Name n p) f X.env (eval (.Name n p) X.env) = eval (.Name n p) X.env := by rfl) :
    PE (X.suite ad ((ad, oe) :: pn)) (.Attribute (.Name n p) f pos2) (tFlF i ad d x f) := by
  refine ⟨fun pins s σ H Q I h => ?_⟩
  obtain ⟨es, xd, r, hr, q⟩ := h
  have he : PE (X.suite ad ((ad, oe) :: pn)) (.Name n p) (tVar i) := pe_var hx hv hd hcd
  refine attr_of hb (thn (he.run pins s σ H (fun y H1 => y = .ref ad ∧ H1 = H) I ⟨.ref ad, es, rfl, rfl⟩) fun w s1 hh => ?_)
  obtain ⟨y, H1, I1, ry, ey, eH⟩ := hh
  subst ey
  subst eH
  obtain rfl : w = Value.ref ad := ry
  obtain ⟨ha, _⟩ := I1.pin (ad, oe) (List.mem_append_left _ List.mem_cons_self)
  obtain ⟨vs, hdd⟩ := hf
  rcases xd with ⟨z, _⟩ | ⟨_, dd, ed, ea⟩
  · rw [z] at hr
    cases hr
  · subst ed
    have hx : ObjOk X.prog X.w H1 s1.heap dd (.xd (x.fs.map fun p => (p.1, p.2.fv))) := I1.hok dd _ ea
    obtain ⟨mA, hns, hrl⟩ := hx
    obtain ⟨od, ho, hl⟩ := lookIn_ns hns
    have l : (x.fs.map fun p => (p.1, p.2.fv)).lookup f = some r.fv := by rw [lookup_fv, hr]; rfl
    obtain ⟨u, hu, ru⟩ := RelO.some_of (v := r.fv) (o := mA f) (by rw [← l]; exact hrl f)
    have J : PySem.W.InstAt s1.heap ad oe D (some od) := ⟨ha, hz.1, by unfold PySem.W.notCls; rw [hdd] <;> rfl, by rw [hz.2]; exact ho⟩
    exact HandSPX.exc_get I1.kIn J C.hg C.hk C.hs (PySem.W.findObj_own C.hd hno rfl (by rw [hl, hu])) (handed_of ru) ⟨r.fv, H1, I1.tok _, ru, q⟩
/-- flat answers of a suite -/
def liftEF (K : PySem.W.Frag) (O : List Nat) (i : Nat) (a : Addr) (d : Option Addr) (x : Err) (t : DE) : TE := fun σ H Q => ∃ av H₀ own ds, Rel K O av H₀ own ds σ H ∧ σ[i]? = some (some (.ref a)) ∧ XdAt H d x ∧ match t ds with
  | .ok r => r.flat = true ∧ Q r.fv H
  | _ => False
def liftAF (K : PySem.W.Frag) (O : List Nat) (i : Nat) (a : Addr) (d : Option Addr) (x : Err) (t : DA) : TA := fun σ H Q => ∃ av H₀ own ds, Rel K O av H₀ own ds σ H ∧ σ[i]? = some (some (.ref a)) ∧ XdAt H d x ∧ match t ds with
  | .ok rs => rs.all D.flat = true ∧ Q (rs.map D.fv) H
  | _ => False
def EF (X : Cx) (O : List Nat) (i : Nat) (a : Addr) (d : Option Addr) (x : Err) (e : Expr) (t : DE) : Prop := PE X e (liftEF X.K O i a d x t)
def AF (X : Cx) (O : List Nat) (i : Nat) (a : Addr) (d : Option Addr) (x : Err) (e : List Expr) (t : DA) : Prop := PA X e (liftAF X.K O i a d x t)
theorem aFN : AF X O i ad d x [] daN := PA.imp pa_nil fun σ H Q h => by
  obtain ⟨av, H₀, own, ds, R, es, xd, _, q⟩ := h
  exact q
theorem aFC {es : List Expr} {tr : DA} (he : EF X O i ad d x e ta) (hr : AF X O i ad d x es tr) (hs : starEach (e :: es) X.env = (false, eval e X.env) :: starEach es X.env := by rfl) : AF X O i ad d x (e :: es) (daC ta tr) := PA.imp (pa_cons he hr hs) fun σ H Q h => by
  obtain ⟨av, H₀, own, ds, R, es', xd, m⟩ := h
  refine ⟨av, H₀, own, ds, R, es', xd, ?_⟩
  unfold daC at m
  cases q : ta ds with
  | ok r =>
    rw [q] at m
    cases q2 : tr ds with
    | ok rs =>
      rw [q2] at m
      have m : (r :: rs).all D.flat = true ∧ Q ((r :: rs).map D.fv) H := m
      rw [List.all_cons, Bool.and_eq_true] at m
      refine ⟨m.1.1, av, H₀, own, ds, R, es', xd, ?_⟩
      rw [q2]
      exact ⟨m.1.2, m.2⟩
    | _ => rw [q2] at m; exact m.elim
  | _ => rw [q] at m; exact m.elim
theorem eFS {z : Str} {j : Nat} : EF X O i ad d x (.Constant (.str z) j pos) (dC (.str z)) := PE.imp pe_str fun σ H Q h => by
  obtain ⟨av, H₀, own, ds, R, es, xd, _, q⟩ := h
  exact q
theorem eFF {n f : Str} {D : Addr} {oe : Obj} {pn : List (Addr × Obj)} {p pos2 : Pos} (C : ExcC X.K D) (hno : PySem.W.findIn X.K (.ref D) f = some none) (hz : Zc (.ref D) d oe) (hf : ∃ vs, oe.data = .fields vs)
    (hx : X.N[i]? = some n) (hv : Vis X.env.scope n := by first | exact Or.inl rfl | exact Or.inr (Or.inl rfl) | exact Or.inr (Or.inr rfl)) (hd : (n == ("__debug__" : Str)) = false := by decide)
    (hcd : (n == ("__classdict__" : Str)) = false := by decide) (hb : attributeBase (.Name n p) f X.env (eval (.Name n p) X.env) = eval (.Name n p) X.env := by rfl) :
    EF (X.suite ad ((ad, oe) :: pn)) O i ad d x (.Attribute (.Name n p) f pos2) (xFlF x f) := PE.imp (pe_flF C hno hz hf hx hv hd hcd hb) fun σ H Q h => by
  obtain ⟨av, H₀, own, ds, R, es, xd, m⟩ := h
  refine ⟨es, xd, ?_⟩
  unfold xFlF at m
  cases q : x.fs.lookup f with
  | none => rw [q] at m; exact m.elim
  | some r =>
    rw [q] at m
    simp only at m
    split at m
    · rename_i r' e
      split at e
      · cases e
        exact ⟨_, rfl, m.2⟩
      · cases e
    · exact m.elim
theorem eFStr {p : Pos} (hm : X.mg "str" = none) (ha : EF X O i ad d x e ta) (hg : Gl X "str" := by rfl) (he : starEach (e :: []) X.env = (false, eval e X.env) :: starEach [] X.env := by rfl) (hpl : (backTo pos (starEach [] X.env)).any (·.1) = false := by rfl) :
    EF X O i ad d x (.Call (.Name "str" p) [e] [] pos) (d1 fStr ta) := PE.imp (pe_callTy (call_str_int.or SkE.call_str_str) hg hm PyProof.Rows.boot_str (pa_cons ha pa_nil he) (by decide) (by decide) he hpl) fun σ H Q h => by
  obtain ⟨av, H₀, own, ds, R, es, xd, m⟩ := h
  refine ⟨av, H₀, own, ds, R, es, xd, ?_⟩
  unfold d1 at m
  cases q : ta ds with
  | ok r =>
    rw [q] at m
    unfold fStr at m
    cases r with
    | int j =>
      simp only [Res.bind] at m
      refine ⟨rfl, ?_⟩
      split at m
      · rename_i r' e
        split at e
        · rename_i hj
          cases e
          exact .inl ⟨j, rfl, hj, m.2⟩
        · cases e
      · exact m.elim
    | str z => exact ⟨rfl, .inr ⟨z, rfl, m.2⟩⟩
    | _ => exact m.elim
  | _ => rw [q] at m; exact m.elim
theorem eFAdd {e2 : Expr} {tb : DE} (ha : EF X O i ad d x e ta) (hb : EF X O i ad d x e2 tb) : EF X O i ad d x (.BinOp e .Add e2 pos) (d2 opAddS ta tb) := PE.imp (pe_op op_add_str ha hb) fun σ H Q h => by
  obtain ⟨av, H₀, own, ds, R, es, xd, m⟩ := h
  refine ⟨av, H₀, own, ds, R, es, xd, ?_⟩
  unfold d2 at m
  cases q : ta ds with
  | ok r =>
    rw [q] at m
    cases q2 : tb ds with
    | ok r2 =>
      rw [q2] at m
      simp only [Res.bind] at m
      cases r with
      | str u =>
        cases r2 with
        | str v =>
          refine ⟨rfl, av, H₀, own, ds, R, es, xd, ?_⟩
          rw [q2]
          refine ⟨rfl, u, v, rfl, rfl, ?_⟩
          unfold opAddS at m
          split at m
          · rename_i r' e
            simp only at e
            split at e
            · rename_i hz
              cases e
              exact ⟨by rw [sizeLine_eq]; exact hz, m.2⟩
            · cases e
          · exact m.elim
        | _ => exact m.elim
      | _ => exact m.elim
    | _ => rw [q2] at m; exact m.elim
  | _ => rw [q] at m; exact m.elim
/-- a flat answer -/
def FlE (t : DE) : Prop := ∀ s r, t s = .ok r → r.flat = true
theorem fl_c {r : D} (h : r.flat = true) : FlE (dC r) := fun s r' e => by cases e; exact h
theorem fl_f {f : Str} : FlE (xFlF x f) := fun s r e => by
  unfold xFlF at e
  split at e
  · split at e
    · rename_i h; cases e; exact h
    · cases e
  · cases e
theorem fl_add {tb : DE} : FlE (d2 opAddS ta tb) := fun s r e => by
  unfold d2 at e
  cases q : ta s with
  | ok r1 =>
    rw [q] at e
    cases q2 : tb s with
    | ok r2 =>
      rw [q2] at e
      simp only [Res.bind] at e
      unfold opAddS at e
      cases r1 <;> cases r2 <;> first | (simp only at e; split at e <;> (first | (cases e; rfl) | cases e)) | cases e
    | _ => rw [q2] at e; cases e
  | _ => rw [q] at e; cases e
theorem fXE (h : EF X O i ad d x e ta) (hfl : FlE ta) : PE X e (liftXF X.K O i ad d x ta) := PE.imp h fun σ H Q h => by
  obtain ⟨av, H₀, own, ds, R, es, xd, m⟩ := h
  refine ⟨av, H₀, own, ds, R, es, xd, ?_⟩
  cases q : ta ds with
  | ok r =>
    rw [q] at m
    exact ⟨hfl _ _ q, m _ H (Same.refl _) (Rep.ofFlat (hfl _ _ q))⟩
  | _ => rw [q] at m; exact m.elim
theorem reps_fv {K : PySem.W.Frag} {M : Hp} : ∀ {rs : List D}, rs.all D.flat = true → Reps K M rs (rs.map D.fv)
  | [], _ => Reps.nil
  | r :: rs, h => by
    rw [List.all_cons, Bool.and_eq_true] at h
    exact Reps.cons (Rep.ofFlat h.1) (reps_fv h.2)
def FlA (t : DA) : Prop := ∀ s r, t s = .ok r → r.all D.flat = true
theorem fl_n : FlA daN := fun s r e => by cases e; rfl
theorem fl_cons {tr : DA} (h1 : FlE ta) (h2 : FlA tr) : FlA (daC ta tr) := fun s r e => by
  unfold daC at e
  cases q : ta s with
  | ok r1 =>
    rw [q] at e
    cases q2 : tr s with
    | ok r2 =>
      rw [q2] at e
      cases e
      rw [List.all_cons, h1 _ _ q, h2 _ _ q2]
      rfl
    | _ => rw [q2] at e; cases e
  | _ => rw [q] at e; cases e
theorem fXT {es : List Expr} {tr : DA} {k : Nat} (h : AF X O i ad d x es tr) (hfl : FlA tr) : PE X (.Tuple es k pos) (liftXF X.K O i ad d x (dTup tr)) := PE.imp (pe_tup h) fun σ H Q h => by
  obtain ⟨av, H₀, own, ds, R, es, xd, m⟩ := h
  refine ⟨av, H₀, own, ds, R, es, xd, ?_⟩
  unfold dTup at m
  cases q : tr ds with
  | ok rs =>
    rw [q] at m
    simp only [Res.bind] at m
    have hf := hfl _ _ q
    by_cases hz : rs.length ≤ SL
    · rw [if_pos hz] at m
      refine ⟨hf, by rw [List.length_map, sizeLine_eq]; exact hz, fun p hp => m (.ref p) _ (same_upd hp) ?_⟩
      exact RepLv.zero (R.same (same_upd hp)) (lv := 2) (R.newT (lv := 2) hp (reps_fv hf))
    · rw [if_neg hz] at m
      exact m.elim
  | _ => rw [q] at m; exact m.elim
end
section
variable {X : Cx} {O : List Nat} {W : WX} {body : List Stmt} {t : DS} {k : Nat} {i : Nat} {pos : Pos}
theorem sTrF {L : List (Str × List Str)} {cL : Value} {xN n : Str} {np pos' : Pos} {b₀ : Stmt} {suite : List Stmt} {h : Err → DS} (C : CT X W k) (hs : X.stack = X.env :: X.outer) (hf : X.env.frame = some X.env.locals) (hNd : X.N.Nodup) (hi : X.N[i]? = some n) (hln : X.env.kindOf n = some .local) (hc : Names X xN cL) (hO : i ∉ O) (F : XL X.K X.mg cL (L.map (·.1)))
    (hb : ∀ (W : WX) (pn : List (Addr × Obj)) (xe : Value → Shared → Prop), CT (X.tr pn xe) W k → BX (X.tr pn xe) O W body t) (hst : ∀ x, Still (h x))
    (hsu : ∀ (a : Addr) (oe : Obj) (D : Addr) (d : Option Addr) (pn : List (Addr × Obj)) (x : Err), x.cls ∈ L.map (·.1) → X.mg x.cls = some (.ref D) → ExcC X.K D → Zc (.ref D) d oe → (∃ vs, oe.data = .fields vs) → HFB (X.suite a ((a, oe) :: pn)) O i a d x (b₀ :: suite) (h x)) :
    SX X O W (.Try body [.ExceptHandler (some (.Name xN np)) (some n) (b₀ :: suite) pos'] [] [] pos) (sTryF i L t h) := by
  refine PS.imp (ps_try_as (tb := fun W => liftS X.K X.mg O W t) (ts := fun a cls d N σ H => ∃ D x, cls = .ref D ∧ x.cls ∈ L.map (·.1) ∧ X.mg x.cls = some (.ref D) ∧ ExcC X.K D ∧ liftHF X.K O i a d x (h x) N σ H) (Wout := W) hs hf hNd hi hln hc C.tk
    (fun W' pn xe tk po => hb W' pn xe ⟨C.hr, C.calm, fun σ => passAt tk σ, po, tk⟩)
    (fun a oe cls d pn hz hv => ⟨fun pins s σ H N I q => ?_⟩)) fun N σ H hq => ?_
  · obtain ⟨D, x, rfl, hx, hm, hE, q⟩ := q
    exact (hsu a oe D d pn x hx hm hE hz hv).run pins s σ H N I q
  · obtain ⟨av, H₀, own, ds, R, m⟩ := liftS_iff.mp hq
    refine liftS_iff.mpr ⟨av, H₀, own, ds, R, ?_⟩
    unfold sTryF at m
    cases et : t ds with
    | er x s1 =>
      rw [et] at m
      simp only at m
      split at m
      · rename_i hx
        rw [Bool.and_eq_true] at hx
        obtain ⟨p, hp, hpx⟩ := List.any_eq_true.mp hx.1
        rw [Bool.and_eq_true] at hpx
        have hx1 : x.cls ∈ L.map (·.1) := List.mem_map.mpr ⟨p, hp, eq_of_beq hpx.1⟩
        have hx3 : i < s1.length := of_decide_eq_true hx.2
        intro own' c dd σ' H' R' er
        obtain ⟨C', e1, rfl, e2⟩ := er
        obtain ⟨C2, f1, f2, f3⟩ := F.ex _ hx1
        rw [e1] at f1
        cases f1
        refine ⟨true, f2, fun _ a ha => ?_, fun z => by cases z⟩
        refine ⟨C', x, rfl, hx1, e1, f3, av, H₀, own', s1.set i none, R'.unset hO, ?_, e2, ?_⟩
        · rw [List.getElem?_set, if_pos rfl, if_pos (by rw [R'.len]; exact hx3)]
        · cases eh : h x (s1.set i none) with
          | nx s2 =>
            rw [eh] at m
            have := hst x _ _ eh
            subst this
            exact m own' _ H' ((R'.unset hO).unset hO)
          | rt d => rw [eh] at m; exact m
          | _ => rw [eh] at m; exact m.elim
      · exact m.elim
    | nx s1 => rw [et] at m; exact m
    | rt s1 => rw [et] at m; exact m
    | bk s1 => rw [et] at m; exact m
    | ct s1 => rw [et] at m; exact m
    | stuck => rw [et] at m; exact m
end
/-! ### a name gets a list comprehension, on one line -/
section
variable {X : Cx} {O : List Nat} {W : WX} {tg e elt : Expr} {ifs : List Expr} {scope : Scope} {own : List (Str × Nat)} {pos spos : Pos} {is : List Nat} {g : DG} {it : DI} {tt : DT} {te : DE}
theorem sNL (i : Nat) {k : Nat} {y : Str} {py : Pos} (C : CT X W k) (hN : X.N.Nodup) (hi : IX X O W true tg e it) (ok : BlkOk X.N X.env.scope scope own)
    (hg : ∀ (s : Shared) (H : Hp) (C : Addr) (cl : List (Str × Addr)) (fp : List Addr), GX (X.blk s H scope (compEnvC scope cl C X.env) fp) O is tg g)
    (ht : ∀ (s : Shared) (H : Hp) (C : Addr) (cl : List (Str × Addr)) (fp : List Addr), CT (X.blk s H scope (compEnvC scope cl C X.env) fp) W0 k → QX (X.blk s H scope (compEnvC scope cl C X.env) fp) O W0 ifs tt)
    (he : ∀ (s : Shared) (H : Hp) (C : Addr) (cl : List (Str × Addr)) (fp : List Addr), CT (X.blk s H scope (compEnvC scope cl C X.env) fp) W0 k → EX (X.blk s H scope (compEnvC scope cl C X.env) fp) O W0 2 elt te)
    (hio : i ∉ O := by decide) (hy : X.N[i]? = some y := by rfl) (hyl : X.env.scope.names.lookup y = some .local := by rfl) (hsw : swapsWith (.ListComp elt [⟨tg, e, ifs, 0⟩] scope pos) (some (.Name y py)) spos.line X.env = pure true := by exact sw_true rfl rfl rfl (by decide +kernel))
    (hv : ∀ i ∈ is, i ∈ own.map (·.2) := by decide) (hs : ∀ x, foldedSetIterable e X.env x = pure x := by intro _; rfl) :
    SX X O W (.Assign [.Name y py] (.ListComp elt [⟨tg, e, ifs, 0⟩] scope pos) spos) (sAs (gN i) (dLc it (own.map (·.2)) g tt te)) :=
  PS.imp (ps_setLc (g := liftG X.K O is g) (tt := liftT X.K X.mg O W0 tt) (te := liftE X.K X.mg O W0 2 te) C.calm hN hy hyl hsw hi ok hg (fun s H D cl fp => ht s H D cl fp (C.blk s H scope _ fp)) (fun s H D cl fp => he s H D cl fp (C.blk s H scope _ fp)) hs) fun N σ H h => by
    obtain ⟨av, H₀, own', ds, R, m⟩ := liftS_iff.mp h
    unfold sAs at m
    refine lc_lift (W := W) (lv := 2) hv ⟨av, H₀, own', ds, R, fin_of R m (fun e h => by rw [h]) (fun h => by rw [h]) fun d ha v H' s r => ?_⟩
    rw [ha] at m
    exact m own' _ H' ((R.same s).set hio r)
end
/-- a class's statements -/
def clsB : Stmt → List Stmt
  | .ClassDef (body := b) .. => b
  | _ => []
end DL
/-! DLH: the head's facts. -/
namespace DL
open PySem PySem.Spec L2
/-- the facts, the defs, and a check of one's own -/
def obsX (fa : List He.Fa) (fn : List He.DefD) (ck : PySem.W.Frag → Bool) (K : PySem.W.Frag) : He.AlD := ((He.obsD fa fn K).1 && ck K, (He.obsD fa fn K).2)
def obsXG (n : Nat) (fa : List He.Fa) (fn : List He.DefD) (ck : PySem.W.Frag → Bool) (g : Addr → Option Obj) : He.AlD := obsX fa fn ck (He.frG g (He.asD g n))
def SaysX (fa : List He.Fa) (fn : List He.DefD) (ck : PySem.W.Frag → Bool) (K : PySem.W.Frag) : Prop := obsX fa fn ck K = He.valD fn
def hookX (n : Nat) (fa : List He.Fa) (fn : List He.DefD) (ck : PySem.W.Frag → Bool) : PySem.W.Hook where
  α := He.AlD
  obs := fun s => obsXG n fa fn ck s.heap.get?
  val := fun _ => He.valD fn
  says := fun _ h => ∃ K : PySem.W.Frag, K.In h ∧ SaysX fa fn ck K
  of := fun _ _ e => ⟨_, He.frG_in, e⟩
  keeps := fun _ _ _ ⟨K, hK, c⟩ k => ⟨K, PySem.W.Frag.In.keeps hK k, c⟩
theorem obsXG_eq {n : Nat} {fa : List He.Fa} {fn : List He.DefD} {ck : PySem.W.Frag → Bool} {g : Addr → Option Obj} {s : Shared} (h : ∀ a, g a = s.heap.get? a) : obsXG n fa fn ck g = (hookX n fa fn ck).obs s := by
  have e : g = s.heap.get? := funext h
  rw [e] <;> rfl
theorem SaysX.d {fa : List He.Fa} {fn : List He.DefD} {ck : PySem.W.Frag → Bool} {K : PySem.W.Frag} (c : SaysX fa fn ck K) : He.SaysD fa fn K ∧ ck K = true := by
  have h1 : ((He.obsD fa fn K).1 && ck K) = true := congrArg (fun z : He.AlD => z.1) c
  have h2 : (He.obsD fa fn K).2 = fn.map He.DefD.val := congrArg (fun z : He.AlD => z.2) c
  rw [Bool.and_eq_true] at h1
  refine ⟨?_, h1.2⟩
  show He.obsD fa fn K = (true, fn.map He.DefD.val)
  rw [← h1.1, ← h2]
/-- what isinstance asks of an exception's class -/
def excB (K : PySem.W.Frag) (D : Addr) : Bool :=
  He.eqO (PySem.W.findIn K (.ref D) "__getattribute__") (some (some (.builtin "BaseException.__getattribute__"))) && (He.eqO (PySem.W.findIn K (.ref D) "__getattr__") (some none) &&
  (decide (PySem.W.subIn K (.ref D) (.type "BaseException") = some true) && (PySem.W.hasDictIn K D && (He.eqO (PySem.W.findIn K (.ref D) "__class__") (some (some (.builtin "object.__class__"))) &&
  (He.eqO (PySem.W.specialIn K (.builtin "object.__class__") "__get__") (some (some (.builtin "getset_descriptor.__get__"))) && (decide (PySem.W.takesIn K (.builtin "object.__class__") = some true) && decide (PySem.W.mroIn K D (.type "object") = some true)))))))
theorem excB_ok {K : PySem.W.Frag} {D : Addr} (h : excB K D = true) : ExcC K D := by
  unfold excB at h
  simp only [Bool.and_eq_true] at h
  obtain ⟨h1, h2, h3, h4, h5, h6, h7, h8⟩ := h
  exact ⟨He.eqO_ok h1, He.eqO_ok h2, of_decide_eq_true h3, h4, He.eqO_ok h5, He.eqO_ok h6, of_decide_eq_true h7, of_decide_eq_true h8⟩
theorem xf_of {K : PySem.W.Frag} {h : Heap} {mg : Str → Option Value} (X : K.In h) (G : h.Ns mainGlobals mg) {x : Str} (c1 : (He.Fa.glo x).ok K = true) (c2 : (He.Fa.exc x).ok K = true) : ∃ C, XF K mg x C := by
  obtain ⟨q, k, s, t⟩ := He.exc_ok c2
  exact ⟨_, He.glo_ok X G c1, q, k, s, t⟩
/-- flat data in the head -/
def dvOf : D → He.Dv
  | .bl b => .bl b | .int i => .int i | .str x => .str x | _ => .non
theorem dv_v {K : PySem.W.Frag} : ∀ {d : D}, d.flat = true → He.Dv.v K (dvOf d) = d.fv := by
  intro d h
  cases d <;> first | rfl | cases h
theorem kt_of {K : PySem.W.Frag} {h : Heap} {mg : Str → Option Value} (X : K.In h) (G : h.Ns mainGlobals mg) {x : Str} {xs : List D} (c1 : (He.Fa.glo x).ok K = true) (c2 : He.tupB K x (xs.map dvOf) = true) (f : xs.all D.flat = true) : KT K mg x xs := by
  refine ⟨He.ga K x, xs.map D.fv, He.glo_ok X G c1, ?_, fun M => ?_⟩
  · unfold He.tupB at c2
    cases q : K.lookup (He.ga K x) with
    | none =>
      rw [q] at c2
      cases c2
    | some o =>
      obtain ⟨oc, od, dt, osl⟩ := o
      rw [q] at c2
      cases oc with
      | type c =>
        cases dt with
        | seq its n =>
          obtain ⟨h1, h2⟩ := He.ba (show (decide (c = "tuple") && (decide (its.size ≤ sizeLine) && He.relAll ((xs.map dvOf).map (He.Dv.v K)) its.toList)) = true from c2)
          obtain ⟨h3, h4⟩ := He.ba h2
          have h5 := He.relAll_ok h4
          have e : (xs.map dvOf).map (He.Dv.v K) = xs.map D.fv := by
            rw [List.map_map]
            exact List.map_congr_left fun d hd => dv_v (List.all_eq_true.mp f d hd)
          rw [e] at h5
          exact ⟨_, its, n, q, congrArg Value.type (of_decide_eq_true h1), rfl, of_decide_eq_true h3, h5⟩
        | _ => cases c2
      | _ => cases dt <;> cases c2
  · clear c2
    induction xs with
    | nil => exact Reps.nil
    | cons d xs ih =>
      rw [List.all_cons, Bool.and_eq_true] at f
      exact Reps.cons (Rep.ofFlat f.1) (ih f.2)
/-- a def that the head tells -/
theorem fe_of {P : Program} {w : World} {K : PySem.W.Frag} {h : Heap} {mg : Str → Option Value} {base : Heap} {x : Str} {st : Stmt} {ps : List Str} {k : Nat} {M : List D → Res D} {f : Addr} {fd : FuncData} (X : K.In h) (G : h.Ns mainGlobals mg) (F : FunD K x x (defArgs st) (defBody st) (defScope st) [] [] f fd)
    (c1 : (He.Fa.glo x).ok K = true) (ef : f = He.ga K x) (b : Binds K fd ps []) (ok : FnOk P w K mg base (L2.CX P w) k f fd ps (spD K mg M)) : FE P w K mg base k x ps M := by
  subst ef
  exact ⟨_, fd, ok, He.glo_ok X G c1, F.kp, b⟩
/-- a law's promise -/
theorem law_sp {K : PySem.W.Frag} {mg : Str → Option Value} {M : List D → Res D} {H : Hp} {a : Addr} {ns : List Int} (h : M [.scr ns] = .ok (.bl true)) (hS : SqL K H a (ns.map V.int)) : spD0 K mg M [.ref a] H (fun v _ => v = .bl true) (fun _ _ _ => False) := by
  refine ⟨[.scr ns], fun _ => False, fun _ z => z.elim, ?_, ?_⟩
  · refine Reps.one ?_
    simp only [Rep]
    have e : clean (fun _ => False) noOwn H = H := by
      funext b
      unfold clean
      rw [if_neg]
      rintro (z | ⟨i, z⟩)
      · exact z
      · cases z
    rw [e]
    exact ⟨a, rfl, hS⟩
  · rw [h]
    intro v H' _ r
    simpa only [Rep] using r
theorem all_get {l : List Bool} (h : l.all id = true) (i : Nat) {b : Bool} (hb : l[i]? = some b) : b = true := List.all_eq_true.mp h b (List.mem_of_getElem? hb)
theorem isi_all {K : PySem.W.Frag} {C : Addr} (h : ((["NoneType", "bool", "int", "str", "tuple", "list", "dict"] : List String).all fun t => decide (PySem.W.kitOne K (.type t) (.ref C) = some false)) = true) (d : D) : PySem.W.kitOne K (.type (tyN d)) (.ref C) = some false := by
  refine of_decide_eq_true (List.all_eq_true.mp h (tyN d) ?_)
  cases d <;> simp [tyN]
theorem kit_of {K : PySem.W.Frag} {mg : Str → Option Value} {x : Str} {A D C : Addr} {b : Bool} (h1 : mg x = some (.ref A)) (h2 : mg x = some (.ref D)) (h : decide (PySem.W.kitOne K (.ref A) (.ref C) = some b) = true) : PySem.W.kitOne K (.ref D) (.ref C) = some b := by
  rw [h1] at h2
  cases h2
  exact of_decide_eq_true h
end DL
/-! DLO: the head's facts of errors with fields. -/
namespace DL
open PySem PySem.Spec L2
def oexB (K : PySem.W.Frag) (C : Addr) : Bool := (match K.lookup C with
  | some ⟨.type "type", _, .cls cd, sl⟩ => (match cd.mro, sl.toList with
    | .ref C' :: bm, [_, _, _, _, some (.builtin n), _] => C' == C && n == "ValueError.__new__" && !cd.hasDel && cd.hasDict && PySem.HandSPX.refsVE bm
    | _, _ => false)
  | _ => false) && (He.eqO (PySem.W.findIn K (.ref C) "__setattr__") (some (some (.builtin "object.__setattr__"))) && (decide (PySem.W.subIn K (.ref C) (.type "BaseException") = some true) && (decide (PySem.W.typeIn K (.ref C) = some (.type "type")) && PySem.W.keepIn K (.ref C))))
theorem oexB_ok {K : PySem.W.Frag} {C : Addr} (h : oexB K C = true) : OexC K C := by
  unfold oexB at h
  simp only [Bool.and_eq_true] at h
  obtain ⟨h1, h2, h3, h4, h5⟩ := h
  refine ⟨?_, He.eqO_ok h2, of_decide_eq_true h3, of_decide_eq_true h4, h5⟩
  split at h1
  · rename_i dd cd sl ho
    split at h1
    · rename_i C' bm k0 k1 k2 k3 n k5 hm hs
      simp only [Bool.and_eq_true, beq_iff_eq, Bool.not_eq_true'] at h1
      obtain ⟨⟨⟨⟨rfl, rfl⟩, hdel⟩, hdct⟩, hr⟩ := h1
      obtain ⟨nm, bs, mro, ns, qn, hd, sn, sub, ab, col, del⟩ := cd
      dsimp only at hm hdel hdct
      subst hm hdel hdct
      have hsl : sl = #[k0, k1, k2, k3, some (.builtin "ValueError.__new__"), k5] := by
        obtain ⟨l⟩ := sl
        simp only at hs
        rw [hs]
      subst hsl
      exact ⟨nm, qn, ns, bs, bm, sn, sub, ab, col, dd, k0, k1, k2, k3, k5, ho, hr⟩
    · cases h1
  · cases h1
/-- its __init__, its fields -/
def initB (K : PySem.W.Frag) (C fI : Addr) (fs : List Str) : Bool := He.eqO (PySem.W.findIn K (.ref C) "__init__") (some (some (.ref fI))) && (decide (PySem.W.typeIn K (.ref fI) = some (.type "function")) && fs.all fun f => He.eqO (PySem.W.findIn K (.ref C) f) (some none))
theorem initB_ok {K : PySem.W.Frag} {C fI : Addr} {fs : List Str} (h : initB K C fI fs = true) : PySem.W.findIn K (.ref C) "__init__" = some (some (.ref fI)) ∧ PySem.W.typeIn K (.ref fI) = some (.type "function") ∧ ∀ f ∈ fs, PySem.W.findIn K (.ref C) f = some none := by
  unfold initB at h
  simp only [Bool.and_eq_true, List.all_eq_true] at h
  exact ⟨He.eqO_ok h.1, of_decide_eq_true h.2.1, fun f hf => He.eqO_ok (h.2.2 f hf)⟩
section
variable {P : Program} {w : World} {K : PySem.W.Frag} {h : Heap} {mg : Str → Option Value} {base : Heap} {x qual f g : Str} {st : Stmt} {fI : Addr} {fd : FuncData}
theorem xo1_of {p1 p2 p3 p4 : Pos} (X : K.In h) (G : h.Ns mainGlobals mg) (c1 : (He.Fa.glo x).ok K = true) (c2 : oexB K (He.ga K x) = true) (c3 : initB K (He.ga K x) fI [f] = true) (F : FunD K "__init__" qual (defArgs st) (defBody st) (defScope st) [] [] fI fd) (b : Binds K fd ["self", f] [])
    (sc : FnScope ["self", f] ["self", f] (defScope st)) (hb : defBody st = [.Assign [.Attribute (.Name "self" p1) f p2] (.Name f p3) p4]) (hv0 : Vis (defScope st) "self") (hv1 : Vis (defScope st) f) (hd : (f == ("__debug__" : Str)) = false := by decide) (hcd : (f == ("__classdict__" : Str)) = false := by decide) : XO P w K mg base x [f] := by
  obtain ⟨i1, i2, i3⟩ := initB_ok c3
  exact ⟨_, fI, fd, He.glo_ok X G c1, oexB_ok c2, i1, i2, okI1 (He5.fun_of F) sc hb (oexB_ok c2) (i3 f (by simp)) hv0 hv1 hd hcd, b⟩
theorem xo2_of {p1 p2 p3 p4 q1 q2 q3 q4 : Pos} (X : K.In h) (G : h.Ns mainGlobals mg) (c1 : (He.Fa.glo x).ok K = true) (c2 : oexB K (He.ga K x) = true) (c3 : initB K (He.ga K x) fI [f, g] = true) (F : FunD K "__init__" qual (defArgs st) (defBody st) (defScope st) [] [] fI fd) (b : Binds K fd ["self", f, g] [])
    (sc : FnScope ["self", f, g] ["self", f, g] (defScope st)) (hb : defBody st = [.Assign [.Attribute (.Name "self" p1) f p2] (.Name f p3) p4, .Assign [.Attribute (.Name "self" q1) g q2] (.Name g q3) q4]) (hv0 : Vis (defScope st) "self") (hv1 : Vis (defScope st) f) (hv2 : Vis (defScope st) g) (hd : (f == ("__debug__" : Str)) = false := by decide) (hcd : (f == ("__classdict__" : Str)) = false := by decide) (hd2 : (g == ("__debug__" : Str)) = false := by decide) (hcd2 : (g == ("__classdict__" : Str)) = false := by decide) : XO P w K mg base x [f, g] := by
  obtain ⟨i1, i2, i3⟩ := initB_ok c3
  exact ⟨_, fI, fd, He.glo_ok X G c1, oexB_ok c2, i1, i2, okI2 (He5.fun_of F) sc hb (oexB_ok c2) (i3 f (by simp)) (i3 g (by simp)) hv0 hv1 hv2 hd hcd hd2 hcd2, b⟩
/-- a field is no attribute of the class -/
theorem fno_of {A D : Addr} {fs : List Str} (c3 : initB K A fI fs = true) (h1 : mg x = some (.ref A)) (h2 : mg x = some (.ref D)) (hf : f ∈ fs) : PySem.W.findIn K (.ref D) f = some none := by
  rw [h1] at h2
  cases h2
  exact (initB_ok c3).2.2 f hf
end
end DL
namespace K49
open DL
open PySem (Str)
def K_NONE : List D := [.str "none"]
def K_POWERS : List D := [.int 1692547745154834343, .int 1932346860360288820, .int 1865120530976592927, .int 759831333196932501, .int 1341209354615676285, .int 1985973005238867263, .int 2301901887166841743, .int 1128992717478634722, .int 809644628068928980, .int 652843286492257562, .int 89968815360664091, .int 2253982852055567919, .int 293699354687954382, .int 330600979470113307, .int 1219292809822883836, .int 1587012479914441437, .int 854590391076336148, .int 1145147572767165661, .int 1498646508229443025, .int 288730602267416433, .int 920473879197776391, .int 135356570411890785, .int 1127048241476413859, .int 1011489729721849622, .int 1903632076104935380, .int 1690817015665974461, .int 2064888218995334537, .int 801031936500685915, .int 1267997801637415771, .int 2027509880860749379, .int 1752450205419405103, .int 1]
/-- _law_mixed(cell, k); slots: 0 cell 1 k 2 mixed -/
def b__law_mixed : DS := (sSq (sAs (gN 2) (d2 opMod (d1 fInt (d2 opAdd (d2 opMulI (d2 opAdd (d1 fAbs (dV 0)) (dC (.int 1))) (dC (.int 48271))) (d2 opMulI (dV 1) (dC (.int 69621))))) (dC (.int 2147483647))))
  (sSq (sRet (d2 opMod (d1 fInt (d2 opAdd (d2 opMulI (dV 2) (dC (.int 16807))) (d2 opMulI (dV 1) (dC (.int 31))))) (dC (.int 2147483629))))
  sNx))
def M__law_mixed : List D → Res D := defM 3 2 b__law_mixed
/-- _law_row(cell, many, top); slots: 0 cell 1 many 2 top 3 found 4 left 5 great 6 k -/
def b__law_row : DS := (sSq (sAs (gN 3) (dLst daN))
  (sSq (sAs (gN 4) (d1 fInt (dV 0)))
  (sSq (sAs (gN 5) (d2 opGe (dV 4) (dC (.int 1000000000000000000))))
  (sSq (sFor (diR1 (dV 1)) (gN 6) (sSq (sIf (dTr (dV 5)) (sSq (sApp 3 (d2 opMod (d1 fInt (dV 4)) (dV 2)))
  (sSq (sAs (gN 4) (d2 opFdiv (dV 4) (dV 2)))
  sNx)) (sSq (sApp 3 (d2 opMod (d2 opFdiv (dCall M__law_mixed (daC (dV 0) (daC (dV 6) daN))) (dC (.int 7))) (dV 2)))
  sNx))
  sNx))
  (sSq (sRet (dV 3))
  sNx)))))
def M__law_row : List D → Res D := defM 7 3 b__law_row
/-- _law_map(cell, more, most); slots: 0 cell 1 more 2 most 3 digits 4 marks 5 close 6 kept 7 k 8 spot 9 value -/
def b__law_map : DS := (sSq (sAs (gN 3) (dCall M__law_row (daC (dV 0) (daC (dC (.int 2)) (daC (dC (.int 1000)) daN)))))
  (sSq (sAs (gN 4) (dCall M__law_row (daC (dV 1) (daC (d2 opMulI (dC (.int 2)) (dV 2)) (daC (dC (.int 65536)) daN)))))
  (sSq (sAs (gN 5) (d2 opMod (d2 opIx (dV 3) (dC (.int 1))) (dC (.int 3))))
  (sSq (sAs (gN 6) (dC (.dct [])))
  (sSq (sFor (diR1 (d2 opMod (d2 opIx (dV 3) (dC (.int 0))) (d2 opAdd (dV 2) (dC (.int 1))))) (gN 7) (sSq (sAs (gN 8) (d2 opIx (dV 4) (d2 opMulI (dC (.int 2)) (dV 7))))
  (sSq (sIf (dB (d2 opEq (dV 5) (dC (.int 0)))) (sSq (sAs (gN 8) (d2 opMod (d1 fInt (dV 8)) (dC (.int 24))))
  sNx) sNx)
  (sSq (sIf (dB (d2 opEq (dV 5) (dC (.int 1)))) (sSq (sAs (gN 8) (d2 opAdd (d2 opMulI (d2 opMod (d1 fInt (dV 8)) (dC (.int 64))) (dC (.int 1024))) (d2 opMod (d2 opIx (dV 4) (d2 opAdd (d2 opMulI (dC (.int 2)) (dV 7)) (dC (.int 1)))) (dC (.int 3)))))
  sNx) sNx)
  (sSq (sAs (gN 9) (d2 opAdd (dC (.int 1)) (d2 opIx (dV 4) (d2 opAdd (d2 opMulI (dC (.int 2)) (dV 7)) (dC (.int 1))))))
  (sSq (sIf (dB (d2 opEq (d2 opMod (d2 opIx (dV 4) (d2 opAdd (d2 opMulI (dC (.int 2)) (dV 7)) (dC (.int 1)))) (dC (.int 7))) (dC (.int 0)))) (sSq (sAs (gN 9) (d2 opAdd (dC (.str "v")) (d1 fStr (d2 opIx (dV 4) (d2 opAdd (d2 opMulI (dC (.int 2)) (dV 7)) (dC (.int 1)))))))
  sNx) sNx)
  (sSq (sPut 6 (dV 8) (dV 9))
  sNx)))))))
  (sSq (sRet (dV 6))
  sNx))))))
def M__law_map : List D → Res D := defM 10 3 b__law_map
/-- _law_at(script, k); slots: 0 script 1 k -/
def b__law_at : DS := (sSq (sIf (dB (d2 opLt (dV 1) (d1 fLen (dV 0)))) (sSq (sRet (d1 fInt (d2 opIx (dV 0) (dV 1))))
  sNx) sNx)
  (sSq (sRet (d2 opAdd (dC (.int 5)) (d2 opMulI (dC (.int 3)) (dV 1))))
  sNx))
def M__law_at : List D → Res D := defM 2 2 b__law_at
/-- _law_bits(cell); slots: 0 cell -/
def b__law_bits : DS := (sSq (sRet (d2 opIx (dLst (daC (dC (.int 4)) (daC (dC (.int 5)) (daC (dC (.int 6)) (daC (dC (.int 8)) (daC (dC (.int 12)) (daC (dC (.int 30)) (daC (dC (.int 60)) daN)))))))) (d2 opIx (dCall M__law_row (daC (dV 0) (daC (dC (.int 1)) (daC (dC (.int 7)) daN)))) (dC (.int 0)))))
  sNx)
def M__law_bits : List D → Res D := defM 1 1 b__law_bits
/-- _law_spots(cell, kept, most); slots: 0 cell 1 kept 2 most 3 digits 4 have 5 found 6 k 7 spot -/
def b__law_spots : DS := (sSq (sAs (gN 3) (dCall M__law_row (daC (dV 0) (daC (d2 opAdd (dV 2) (dC (.int 1))) (daC (dC (.int 65536)) daN)))))
  (sSq (sAs (gN 4) (d1 fSorted (dV 1)))
  (sSq (sAs (gN 5) (dLst daN))
  (sSq (sFor (diR1 (d2 opMod (d2 opIx (dV 3) (dC (.int 0))) (d2 opAdd (dV 2) (dC (.int 1))))) (gN 6) (sSq (sAs (gN 7) (d2 opIx (dV 3) (d2 opAdd (dC (.int 1)) (dV 6))))
  (sSq (sIf (dtAnd (dTr (dV 4)) (dB (d2 opGt (d2 opMod (dV 7) (dC (.int 3))) (dC (.int 0))))) (sSq (sAs (gN 7) (d2 opIx (dV 4) (d2 opMod (dV 7) (d1 fLen (dV 4)))))
  sNx) (sSq (sIf (dtAnd (dTr (dV 4)) (dB (d2 opEq (d2 opMod (dV 7) (dC (.int 3))) (dC (.int 0))))) (sSq (sAs (gN 7) (d2 fMax2 (dC (.int 0)) (d2 fMin2 (dC (.int 65535)) (d2 opSub (d2 opAdd (d2 opIx (dV 4) (d2 opMod (dV 7) (d1 fLen (dV 4)))) (d2 opMod (dV 7) (dC (.int 5)))) (dC (.int 2))))))
  sNx) sNx)
  sNx))
  (sSq (sApp 5 (dV 7))
  sNx))))
  (sSq (sRet (d1 fTup (dV 5)))
  sNx)))))
def M__law_spots : List D → Res D := defM 8 3 b__law_spots
/-- is_tuple_of(thing, many); slots: 0 thing 1 many -/
def b_is_tuple_of : DS := (sSq (sRet (dAnd (d1 fIsTup (dV 0)) (d2 opEq (d1 fLen (dV 0)) (dV 1))))
  sNx)
def M_is_tuple_of : List D → Res D := defM 2 2 b_is_tuple_of
/-- is_integer(thing); slots: 0 thing -/
def b_is_integer : DS := (sSq (sRet (dAnd (d1 fIsInt (dV 0)) (dNot (d1 fIsBool (dV 0)))))
  sNx)
def M_is_integer : List D → Res D := defM 1 1 b_is_integer
/-- is_under(thing, many); slots: 0 thing 1 many -/
def b_is_under : DS := (sSq (sRet (dAnd (dCall M_is_integer (daC (dV 0) daN)) (dChain opLe opLt (dC (.int 0)) (dV 0) (dV 1))))
  sNx)
def M_is_under : List D → Res D := defM 2 2 b_is_under
/-- is_spot(thing); slots: 0 thing -/
def b_is_spot : DS := (sSq (sRet (dCall M_is_under (daC (dV 0) (daC (dC (.int 65536)) daN))))
  sNx)
def M_is_spot : List D → Res D := defM 1 1 b_is_spot
/-- need_key(thing); slots: 0 thing -/
def b_need_key : DS := (sSq (sIf (dtNot (dTr (dCall M_is_spot (daC (dV 0) daN)))) (sSq (sRai "NoKey" [] daN)
  sNx) sNx)
  sNx)
def M_need_key : List D → Res D := defM 1 1 b_need_key
/-- is_between(thing, least, most); slots: 0 thing 1 least 2 most -/
def b_is_between : DS := (sSq (sRet (dAnd (dCall M_is_integer (daC (dV 0) daN)) (dChain opLe opLe (dV 1) (dV 0) (dV 2))))
  sNx)
def M_is_between : List D → Res D := defM 3 3 b_is_between
/-- is_value(thing); slots: 0 thing -/
def b_is_value : DS := (sSq (sIf (dTr (d1 fIsStr (dV 0))) (sSq (sRet (dChain opLt opLe (dC (.int 0)) (d1 fLen (dV 0)) (dC (.int 60000))))
  sNx) sNx)
  (sSq (sRet (dCall M_is_between (daC (dV 0) (daC (dC (.int 1)) (daC (dC (.int 1152921504606846976)) daN)))))
  sNx))
def M_is_value : List D → Res D := defM 1 1 b_is_value
/-- is_number(thing); slots: 0 thing -/
def b_is_number : DS := (sSq (sRet (dAnd (dCall M_is_integer (daC (dV 0) daN)) (d2 opGe (dV 0) (dC (.int 0)))))
  sNx)
def M_is_number : List D → Res D := defM 1 1 b_is_number
/-- need_value(thing); slots: 0 thing -/
def b_need_value : DS := (sSq (sIf (dtAnd (dtNot (dTr (dCall M_is_value (daC (dV 0) daN)))) (dtNot (dtAnd (dTr (dCall M_is_number (daC (dV 0) daN))) (dB (d2 opEq (dV 0) (dC (.int 0))))))) (sSq (sRai "NoValue" [] daN)
  sNx) sNx)
  sNx)
def M_need_value : List D → Res D := defM 1 1 b_need_value
/-- bit_of(key, depth); slots: 0 key 1 depth -/
def b_bit_of : DS := (sSq (sRet (d2 opAnd (d2 opShr (dV 0) (d2 opSub (d2 opSub (dC (.int 16)) (dC (.int 1))) (dV 1))) (dC (.int 1))))
  sNx)
def M_bit_of : List D → Res D := defM 2 2 b_bit_of
/-- way_to(tree, key); slots: 0 tree 1 key 2 found 3 here 4 side -/
def b_way_to : DS := (sSq (sAs (gN 2) (dLst daN))
  (sSq (sAs (gN 3) (dV 0))
  (sSq (sWh (dB (d2 opEq (d2 opIx (dV 3) (dC (.int 0))) (dC (.str "fork")))) (sSq (sAs (gN 4) (dCall M_bit_of (daC (dV 1) (daC (d1 fLen (dV 2)) daN))))
  (sSq (sApp 2 (dTup (daC (dV 3) (daC (dV 4) daN))))
  (sSq (sAs (gN 3) (d2 opIx (dV 3) (d2 opAdd (dC (.int 2)) (dV 4))))
  sNx))))
  (sSq (sRet (dTup (daC (dV 2) (daC (dV 3) daN))))
  sNx))))
def M_way_to : List D → Res D := defM 5 2 b_way_to
/-- many_in(node); slots: 0 node -/
def b_many_in : DS := (sSq (sIf (dB (d2 opEq (d2 opIx (dV 0) (dC (.int 0))) (dC (.str "none")))) (sSq (sRet (dC (.int 0)))
  sNx) sNx)
  (sSq (sIf (dB (d2 opIn (d2 opIx (dV 0) (dC (.int 0))) (dTup (daC (dC (.str "leaf")) (daC (dC (.str "shut")) daN))))) (sSq (sRet (dC (.int 1)))
  sNx) sNx)
  (sSq (sRet (dIfE (dB (d2 opEq (d2 opIx (dV 0) (dC (.int 0))) (dC (.str "fork")))) (d2 opIx (dV 0) (dC (.int 1))) (d2 opIx (dV 0) (dC (.int 2)))))
  sNx)))
def M_many_in : List D → Res D := defM 1 1 b_many_in
/-- fork_of(left, right); slots: 0 left 1 right -/
def b_fork_of : DS := (sSq (sRet (dTup (daC (dC (.str "fork")) (daC (d2 opAdd (dCall M_many_in (daC (dV 0) daN)) (dCall M_many_in (daC (dV 1) daN))) (daC (dV 0) (daC (dV 1) daN))))))
  sNx)
def M_fork_of : List D → Res D := defM 2 2 b_fork_of
/-- with_leaf(end, depth, leaf); slots: 0 end 1 depth 2 leaf 3 turn 4 here 5 at -/
def b_with_leaf : DS := (sSq (sIf (dB (d2 opEq (d2 opIx (dV 0) (dC (.int 0))) (dC (.str "none")))) (sSq (sRet (dV 2))
  sNx) sNx)
  (sSq (sAs (gN 3) (dV 1))
  (sSq (sWh (dB (d2 opEq (dCall M_bit_of (daC (d2 opIx (dV 0) (dC (.int 1))) (daC (dV 3) daN))) (dCall M_bit_of (daC (d2 opIx (dV 2) (dC (.int 1))) (daC (dV 3) daN))))) (sSq (sAug 3 (fun i j => i + j) (dC (.int 1)))
  sNx))
  (sSq (sAs (gN 4) (dIfE (dB (d2 opEq (dCall M_bit_of (daC (d2 opIx (dV 2) (dC (.int 1))) (daC (dV 3) daN))) (dC (.int 0)))) (dCall M_fork_of (daC (dV 2) (daC (dV 0) daN))) (dCall M_fork_of (daC (dV 0) (daC (dV 2) daN)))))
  (sSq (sFor (diR3 (d2 opSub (dV 3) (dC (.int 1))) (d2 opSub (dV 1) (dC (.int 1))) (d1 opNeg (dC (.int 1)))) (gN 5) (sSq (sAs (gN 4) (dIfE (dB (d2 opEq (dCall M_bit_of (daC (d2 opIx (dV 2) (dC (.int 1))) (daC (dV 5) daN))) (dC (.int 0)))) (dCall M_fork_of (daC (dV 4) (daC (dC (.tup K_NONE)) daN))) (dCall M_fork_of (daC (dC (.tup K_NONE)) (daC (dV 4) daN)))))
  sNx))
  (sSq (sRet (dV 4))
  sNx))))))
def M_with_leaf : List D → Res D := defM 6 3 b_with_leaf
/-- joined(left, right); slots: 0 left 1 right 2 many -/
def b_joined : DS := (sSq (sAs (gN 2) (d2 opAdd (dCall M_many_in (daC (dV 0) daN)) (dCall M_many_in (daC (dV 1) daN))))
  (sSq (sIf (dB (d2 opEq (dV 2) (dC (.int 0)))) (sSq (sRet (dC (.tup K_NONE)))
  sNx) sNx)
  (sSq (sIf (dB (d2 opEq (dV 2) (dC (.int 1)))) (sSq (sRet (dIfE (dB (d2 opEq (dCall M_many_in (daC (dV 0) daN)) (dC (.int 1)))) (dV 0) (dV 1)))
  sNx) sNx)
  (sSq (sRet (dTup (daC (dC (.str "fork")) (daC (dV 2) (daC (dV 0) (daC (dV 1) daN))))))
  sNx))))
def M_joined : List D → Res D := defM 3 2 b_joined
/-- changed_at(tree, key, value); slots: 0 tree 1 key 2 value 3 way 4 end 5 mine 6 here 7 fork 8 side -/
def b_changed_at : DS := (sSq (sAs (gT [3, 4]) (dCall M_way_to (daC (dV 0) (daC (dV 1) daN))))
  (sSq (sIf (dB (d2 opEq (d2 opIx (dV 4) (dC (.int 0))) (dC (.str "cut")))) (sSq (sRaiO "Missing" ["key"] (daC (dV 1) daN))
  sNx) sNx)
  (sSq (sAs (gN 5) (dAnd (d2 opNe (d2 opIx (dV 4) (dC (.int 0))) (dC (.str "none"))) (d2 opEq (d2 opIx (dV 4) (dC (.int 1))) (dV 1))))
  (sSq (sIf (dtAnd (dB (d2 opEq (dV 2) (dC (.int 0)))) (dtNot (dTr (dV 5)))) (sSq (sRet (dV 0))
  sNx) sNx)
  (sSq (sIf (dB (d2 opEq (dV 2) (dC (.int 0)))) (sSq (sAs (gN 6) (dC (.tup K_NONE)))
  sNx) (sSq (sIf (dTr (dV 5)) (sSq (sAs (gN 6) (dTup (daC (dC (.str "leaf")) (daC (dV 1) (daC (dV 2) daN)))))
  sNx) (sSq (sAs (gN 6) (dCall M_with_leaf (daC (dV 4) (daC (d1 fLen (dV 3)) (daC (dTup (daC (dC (.str "leaf")) (daC (dV 1) (daC (dV 2) daN)))) daN)))))
  sNx))
  sNx))
  (sSq (sFor (diL (d1 opRev (dV 3))) (gT [7, 8]) (sSq (sAs (gN 6) (dIfE (dB (d2 opEq (dV 8) (dC (.int 0)))) (dCall M_joined (daC (dV 6) (daC (d2 opIx (dV 7) (dC (.int 3))) daN))) (dCall M_joined (daC (d2 opIx (dV 7) (dC (.int 2))) (daC (dV 6) daN)))))
  sNx))
  (sSq (sRet (dV 6))
  sNx)))))))
def M_changed_at : List D → Res D := defM 9 3 b_changed_at
/-- tree_of(pairs); slots: 0 pairs 1 found 2 key 3 value -/
def b_tree_of : DS := (sSq (sAs (gN 1) (dC (.tup K_NONE)))
  (sSq (sFor (diL (dV 0)) (gT [2, 3]) (sSq (sAs (gN 1) (dCall M_changed_at (daC (dV 1) (daC (dV 2) (daC (dV 3) daN)))))
  sNx))
  (sSq (sRet (dV 1))
  sNx)))
def M_tree_of : List D → Res D := defM 4 1 b_tree_of
/-- led_tree(pairs); slots: 0 pairs 1 pair 2 key 3 value -/
def b_led_tree : DS := (sSq (sIf (dtOr (dtNot (dTr (d1 fIsTup (dV 0)))) (dtNot (dTr (d1 fAll (dLc (diL (dV 0)) [1] (gN 1) tT (dCall M_is_tuple_of (daC (dV 1) (daC (dC (.int 2)) daN)))))))) (sSq (sRai "NoValue" [] daN)
  sNx) sNx)
  (sSq (sFor (diL (dV 0)) (gT [2, 3]) (sSq (sE (dCall M_need_key (daC (dV 2) daN)))
  (sSq (sE (dCall M_need_value (daC (dV 3) daN)))
  sNx)))
  (sSq (sRet (dCall M_tree_of (daC (dV 0) daN)))
  sNx)))
def M_led_tree : List D → Res D := defM 4 1 b_led_tree
/-- is_below(place, key); slots: 0 place 1 key 2 depth 3 sign -/
def b_is_below : DS := (sSq (sRet (d1 fAll (dLc (diEn (diStr (dV 0))) [2, 3] (gT [2, 3]) tT (d2 opEq (d1 fStr (dCall M_bit_of (daC (dV 1) (daC (dV 2) daN)))) (dV 3)))))
  sNx)
def M_is_below : List D → Res D := defM 4 2 b_is_below
/-- is_node(place, thing); slots: 0 place 1 thing 2 least -/
def b_is_node : DS := (sSq (sIf (dtOr (dtNot (dTr (d1 fIsTup (dV 1)))) (dtOr (dB (d2 opEq (d1 fLen (dV 1)) (dC (.int 0)))) (dtNot (dTr (d1 fIsStr (d2 opIx (dV 1) (dC (.int 0)))))))) (sSq (sRet (dC (.bl false)))
  sNx) sNx)
  (sSq (sIf (dB (d2 opEq (d2 opIx (dV 1) (dC (.int 0))) (dC (.str "none")))) (sSq (sRet (d2 opEq (d1 fLen (dV 1)) (dC (.int 1))))
  sNx) sNx)
  (sSq (sIf (dB (d2 opEq (d2 opIx (dV 1) (dC (.int 0))) (dC (.str "leaf")))) (sSq (sRet (dAnd (d2 opEq (d1 fLen (dV 1)) (dC (.int 3))) (dAnd (dCall M_is_spot (daC (d2 opIx (dV 1) (dC (.int 1))) daN)) (dAnd (dCall M_is_value (daC (d2 opIx (dV 1) (dC (.int 2))) daN)) (dCall M_is_below (daC (dV 0) (daC (d2 opIx (dV 1) (dC (.int 1))) daN)))))))
  sNx) sNx)
  (sSq (sIf (dB (d2 opEq (d2 opIx (dV 1) (dC (.int 0))) (dC (.str "shut")))) (sSq (sRet (dAnd (d2 opEq (d1 fLen (dV 1)) (dC (.int 3))) (dAnd (dCall M_is_spot (daC (d2 opIx (dV 1) (dC (.int 1))) daN)) (dAnd (dCall M_is_number (daC (d2 opIx (dV 1) (dC (.int 2))) daN)) (dCall M_is_below (daC (dV 0) (daC (d2 opIx (dV 1) (dC (.int 1))) daN)))))))
  sNx) sNx)
  (sSq (sIf (dB (d2 opEq (d2 opIx (dV 1) (dC (.int 0))) (dC (.str "cut")))) (sSq (sAs (gN 2) (dIfE (dB (d2 opEq (dV 0) (dC (.str "")))) (dC (.int 1)) (dC (.int 2))))
  (sSq (sRet (dAnd (d2 opEq (d1 fLen (dV 1)) (dC (.int 3))) (dAnd (dCall M_is_number (daC (d2 opIx (dV 1) (dC (.int 1))) daN)) (dCall M_is_between (daC (d2 opIx (dV 1) (dC (.int 2))) (daC (dV 2) (daC (d2 opShl (dC (.int 1)) (d2 opSub (dC (.int 16)) (d1 fLen (dV 0)))) daN)))))))
  sNx)) sNx)
  (sSq (sRet (dAnd (d2 opEq (d2 opIx (dV 1) (dC (.int 0))) (dC (.str "fork"))) (dAnd (d2 opEq (d1 fLen (dV 1)) (dC (.int 4))) (dAnd (dCall M_is_number (daC (d2 opIx (dV 1) (dC (.int 1))) daN)) (d2 opLt (d1 fLen (dV 0)) (dC (.int 16)))))))
  sNx))))))
def M_is_node : List D → Res D := defM 3 2 b_is_node
/-- is_fork_right(node); slots: 0 node -/
def b_is_fork_right : DS := (sSq (sRet (dAnd (d2 opGe (d2 opIx (dV 0) (dC (.int 1))) (dC (.int 2))) (d2 opEq (d2 opIx (dV 0) (dC (.int 1))) (d2 opAdd (dCall M_many_in (daC (d2 opIx (dV 0) (dC (.int 2))) daN)) (dCall M_many_in (daC (d2 opIx (dV 0) (dC (.int 3))) daN))))))
  sNx)
def M_is_fork_right : List D → Res D := defM 1 1 b_is_fork_right
/-- is_part(place, thing); slots: 0 place 1 thing 2 waiting 3 forks 4 node -/
def b_is_part : DS := (sSq (sAs (gN 2) (dLst (daC (dTup (daC (dV 0) (daC (dV 1) daN))) daN)))
  (sSq (sAs (gN 3) (dLst daN))
  (sSq (sWh (dTr (dV 2)) (sSq (sPop (gT [0, 4]) 2)
  (sSq (sIf (dtNot (dTr (dCall M_is_node (daC (dV 0) (daC (dV 4) daN))))) (sSq (sRet (dC (.bl false)))
  sNx) sNx)
  (sSq (sIf (dB (d2 opEq (d2 opIx (dV 4) (dC (.int 0))) (dC (.str "fork")))) (sSq (sApp 3 (dV 4))
  (sSq (sExt 2 (dLst (daC (dTup (daC (d2 opAdd (dV 0) (dC (.str "1"))) (daC (d2 opIx (dV 4) (dC (.int 3))) daN))) (daC (dTup (daC (d2 opAdd (dV 0) (dC (.str "0"))) (daC (d2 opIx (dV 4) (dC (.int 2))) daN))) daN))))
  sNx)) sNx)
  sNx))))
  (sSq (sRet (d1 fAll (dLc (diL (dV 3)) [4] (gN 4) tT (dCall M_is_fork_right (daC (dV 4) daN)))))
  sNx))))
def M_is_part : List D → Res D := defM 5 2 b_is_part
/-- is_tree(thing); slots: 0 thing -/
def b_is_tree : DS := (sSq (sRet (dCall M_is_part (daC (dC (.str "")) (daC (dV 0) daN))))
  sNx)
def M_is_tree : List D → Res D := defM 1 1 b_is_tree
/-- need_tree(thing); slots: 0 thing -/
def b_need_tree : DS := (sSq (sIf (dtNot (dTr (dCall M_is_tree (daC (dV 0) daN)))) (sSq (sRai "NoTree" [] daN)
  sNx) sNx)
  sNx)
def M_need_tree : List D → Res D := defM 1 1 b_need_tree
/-- need_keys(keys); slots: 0 keys 1 key -/
def b_need_keys : DS := (sSq (sIf (dtOr (dtNot (dTr (d1 fIsTup (dV 0)))) (dtNot (dTr (d1 fAll (dLc (diL (dV 0)) [1] (gN 1) tT (dCall M_is_spot (daC (dV 1) daN))))))) (sSq (sRai "NoKey" [] daN)
  sNx) sNx)
  sNx)
def M_need_keys : List D → Res D := defM 2 1 b_need_keys
/-- need_bits(bits); slots: 0 bits -/
def b_need_bits : DS := (sSq (sIf (dtNot (dTr (dCall M_is_between (daC (dV 0) (daC (dC (.int 4)) (daC (dC (.int 60)) daN)))))) (sSq (sRai "NoBits" [] daN)
  sNx) sNx)
  sNx)
def M_need_bits : List D → Res D := defM 1 1 b_need_bits
/-- is_open(tree, key); slots: 0 tree 1 key 2 end -/
def b_is_open : DS := (sSq (sAs (gN 2) (d2 opIx (dCall M_way_to (daC (dV 0) (daC (dV 1) daN))) (dC (.int 1))))
  (sSq (sRet (dAnd (d2 opNe (d2 opIx (dV 2) (dC (.int 0))) (dC (.str "cut"))) (dNot (dAnd (d2 opEq (d2 opIx (dV 2) (dC (.int 0))) (dC (.str "shut"))) (d2 opEq (d2 opIx (dV 2) (dC (.int 1))) (dV 1))))))
  sNx))
def M_is_open : List D → Res D := defM 3 2 b_is_open
/-- nodes_under(place, part); slots: 0 place 1 part 2 found 3 waiting 4 node -/
def b_nodes_under : DS := (sSq (sAs (gN 2) (dLst daN))
  (sSq (sAs (gN 3) (dLst (daC (dTup (daC (dV 0) (daC (dV 1) daN))) daN)))
  (sSq (sWh (dTr (dV 3)) (sSq (sPop (gT [0, 4]) 3)
  (sSq (sApp 2 (dTup (daC (dV 0) (daC (dV 4) daN))))
  (sSq (sIf (dB (d2 opEq (d2 opIx (dV 4) (dC (.int 0))) (dC (.str "fork")))) (sSq (sExt 3 (dLst (daC (dTup (daC (d2 opAdd (dV 0) (dC (.str "1"))) (daC (d2 opIx (dV 4) (dC (.int 3))) daN))) (daC (dTup (daC (d2 opAdd (dV 0) (dC (.str "0"))) (daC (d2 opIx (dV 4) (dC (.int 2))) daN))) daN))))
  sNx) sNx)
  sNx))))
  (sSq (sRet (dV 2))
  sNx))))
def M_nodes_under : List D → Res D := defM 5 2 b_nodes_under
/-- sum_by(text, bits); slots: 0 text 1 bits 2 found 3 whole 4 at 5 here 6 sign 7 power -/
def b_sum_by : DS := (sSq (sAs (gN 2) (dC (.int 104729)))
  (sSq (sAs (gN 3) (d2 opSub (d1 fLen (dV 0)) (d2 opMod (d1 fLen (dV 0)) (dC (.int 32)))))
  (sSq (sFor (diR3 (dC (.int 0)) (dV 3) (dC (.int 32))) (gN 4) (sSq (sAs (gN 5) (d1 fSum (dLc (diZip (diStr (dSl (dV 0) (doS (dV 4)) (doS (d2 opAdd (dV 4) (dC (.int 32)))))) (diTup (dC (.tup K_POWERS)))) [6, 7] (gT [6, 7]) tT (d2 opMulI (d1 fOrd (dV 6)) (dV 7)))))
  (sSq (sAs (gN 2) (d2 opMod (d2 opAdd (d2 opAdd (d2 opMulI (dV 2) (dC (.int 1756108757816216254))) (dV 5)) (dC (.int 1472633651945887258))) (dC (.int 2305843009213693951))))
  sNx)))
  (sSq (sFor (diStr (dSl (dV 0) (doS (dV 3)) doN)) (gN 6) (sSq (sAs (gN 2) (d2 opMod (d2 opAdd (d2 opAdd (d2 opMulI (dV 2) (dC (.int 6364136223846793005))) (dC (.int 1442695040888963407))) (d1 fOrd (dV 6))) (dC (.int 2305843009213693951))))
  sNx))
  (sSq (sRet (d2 opMod (d2 opFdiv (dV 2) (dC (.int 8))) (d2 opShl (dC (.int 1)) (dV 1))))
  sNx)))))
def M_sum_by : List D → Res D := defM 8 2 b_sum_by
/-- packed_text(thing); slots: 0 thing 1 left 2 found 3 here -/
def b_packed_text : DS := (sSq (sAs (gN 1) (dLst (daC (dV 0) daN)))
  (sSq (sAs (gN 2) (dLst daN))
  (sSq (sWh (dTr (dV 1)) (sSq (sPop (gN 3) 1)
  (sSq (sIf (dTr (d1 fIsOwn (dV 3))) (sSq (sApp 2 (dC (.str ")")))
  sNx) (sSq (sIf (dTr (d1 fIsTup (dV 3))) sNo (sSq (sIf (dTr (d1 fIsStr (dV 3))) (sSq (sApp 2 (d2 opAdd (d2 opAdd (d2 opAdd (dC (.str "t")) (d1 fStr (d1 fLen (dV 3)))) (dC (.str ":"))) (dV 3)))
  sNx) (sSq (sApp 2 (d2 opAdd (d2 opAdd (dC (.str "i")) (d1 fStr (dV 3))) (dC (.str ";"))))
  sNx))
  sNx))
  sNx))
  sNx)))
  (sSq (sRet (dSm mJoin (dC (.str "")) (dV 2)))
  sNx))))
def M_packed_text : List D → Res D := defM 4 1 b_packed_text
/-- value_sum(node, bits); slots: 0 node 1 bits -/
def b_value_sum : DS := (sSq (sRet (dIfE (dB (d2 opEq (d2 opIx (dV 0) (dC (.int 0))) (dC (.str "leaf")))) (dCall M_sum_by (daC (dCall M_packed_text (daC (d2 opIx (dV 0) (dC (.int 2))) daN)) (daC (dV 1) daN))) (d2 opIx (dV 0) (dC (.int 2)))))
  sNx)
def M_value_sum : List D → Res D := defM 2 2 b_value_sum
/-- node_text(node, left, right, bits); slots: 0 node 1 left 2 right 3 bits 4 one -/
def b_node_text : DS := (sSq (sIf (dB (d2 opEq (d2 opIx (dV 0) (dC (.int 0))) (dC (.str "none")))) (sSq (sRet (dC (.str "none")))
  sNx) sNx)
  (sSq (sIf (dB (d2 opIn (d2 opIx (dV 0) (dC (.int 0))) (dTup (daC (dC (.str "leaf")) (daC (dC (.str "shut")) daN))))) (sSq (sRet (d2 opAdd (d2 opAdd (d2 opAdd (dC (.str "leaf ")) (d1 fStr (d2 opIx (dV 0) (dC (.int 1))))) (dC (.str " "))) (d1 fStr (dCall M_value_sum (daC (dV 0) (daC (dV 3) daN))))))
  sNx) sNx)
  (sSq (sRet (d2 opAdd (dC (.str "fork ")) (dSm mJoin (dC (.str " ")) (dLc (diL (d2 opAdd (dV 1) (dV 2))) [4] (gN 4) tT (d1 fStr (dV 4))))))
  sNx)))
def M_node_text : List D → Res D := defM 5 4 b_node_text
/-- roots_under(place, part, bits); slots: 0 place 1 part 2 bits 3 found 4 node 5 text -/
def b_roots_under : DS := (sSq (sAs (gN 3) (dC (.dct [])))
  (sSq (sFor (diL (d1 opRev (dCall M_nodes_under (daC (dV 0) (daC (dV 1) daN))))) (gT [0, 4]) (sSq (sIf (dB (d2 opEq (d2 opIx (dV 4) (dC (.int 0))) (dC (.str "cut")))) (sSq (sPut 3 (dV 0) (dTup (daC (d2 opIx (dV 4) (dC (.int 1))) (daC (d2 opIx (dV 4) (dC (.int 2))) daN))))
  sNx) (sSq (sAs (gN 5) (dCall M_node_text (daC (dV 4) (daC (dGet1 (dV 3) (d2 opAdd (dV 0) (dC (.str "0")))) (daC (dGet1 (dV 3) (d2 opAdd (dV 0) (dC (.str "1")))) (daC (dV 2) daN))))))
  (sSq (sPut 3 (dV 0) (dTup (daC (dCall M_sum_by (daC (dV 5) (daC (dV 2) daN))) (daC (dCall M_many_in (daC (dV 4) daN)) daN))))
  sNx)))
  sNx))
  (sSq (sRet (dV 3))
  sNx)))
def M_roots_under : List D → Res D := defM 6 3 b_roots_under
/-- roots_of(tree, bits); slots: 0 tree 1 bits -/
def b_roots_of : DS := (sSq (sRet (dCall M_roots_under (daC (dC (.str "")) (daC (dV 0) (daC (dV 1) daN)))))
  sNx)
def M_roots_of : List D → Res D := defM 2 2 b_roots_of
/-- nodes_of(tree); slots: 0 tree -/
def b_nodes_of : DS := (sSq (sRet (dCall M_nodes_under (daC (dC (.str "")) (daC (dV 0) daN))))
  sNx)
def M_nodes_of : List D → Res D := defM 1 1 b_nodes_of
/-- closed(node, root, bits); slots: 0 node 1 root 2 bits -/
def b_closed : DS := (sSq (sRet (dIfE (dB (d2 opIn (d2 opIx (dV 0) (dC (.int 0))) (dTup (daC (dC (.str "leaf")) (daC (dC (.str "shut")) daN))))) (dTup (daC (dC (.str "shut")) (daC (d2 opIx (dV 0) (dC (.int 1))) (daC (dCall M_value_sum (daC (dV 0) (daC (dV 2) daN))) daN)))) (d2 opAdd (dTup (daC (dC (.str "cut")) daN)) (dV 1))))
  sNx)
def M_closed : List D → Res D := defM 3 3 b_closed
/-- rebuilt(tree, kept); slots: 0 tree 1 kept 2 found 3 place 4 node -/
def b_rebuilt : DS := (sSq (sAs (gN 2) (dC (.dct [])))
  (sSq (sFor (diL (d1 opRev (dCall M_nodes_of (daC (dV 0) daN)))) (gT [3, 4]) (sSq (sIf (dB (d2 opIn (dV 3) (dV 1))) (sSq (sPut 2 (dV 3) (d2 opIx (dV 1) (dV 3)))
  sNx) (sSq (sIf (dB (d2 opEq (d2 opIx (dV 4) (dC (.int 0))) (dC (.str "fork")))) (sSq (sPut 2 (dV 3) (dTup (daC (dC (.str "fork")) (daC (d2 opIx (dV 4) (dC (.int 1))) (daC (d2 opIx (dV 2) (d2 opAdd (dV 3) (dC (.str "0")))) (daC (d2 opIx (dV 2) (d2 opAdd (dV 3) (dC (.str "1")))) daN))))))
  sNx) (sSq (sPut 2 (dV 3) (dV 4))
  sNx))
  sNx))
  sNx))
  (sSq (sRet (d2 opIx (dV 2) (dC (.str ""))))
  sNx)))
def M_rebuilt : List D → Res D := defM 5 2 b_rebuilt
/-- cut_away(tree, places, bits); slots: 0 tree 1 places 2 bits 3 told 4 kept 5 place 6 node -/
def b_cut_away : DS := (sSq (sAs (gN 3) (dCall M_roots_of (daC (dV 0) (daC (dV 2) daN))))
  (sSq (sAs (gN 4) (dC (.dct [])))
  (sSq (sFor (diL (dCall M_nodes_of (daC (dV 0) daN))) (gT [5, 6]) (sSq (sIf (dtAnd (dB (d2 opNotIn (dV 5) (dV 1))) (dB (d2 opNe (d2 opIx (dV 6) (dC (.int 0))) (dC (.str "none"))))) (sSq (sPut 4 (dV 5) (dCall M_closed (daC (dV 6) (daC (d2 opIx (dV 3) (dV 5)) (daC (dV 2) daN)))))
  sNx) sNx)
  sNx))
  (sSq (sRet (dCall M_rebuilt (daC (dV 0) (daC (dV 4) daN))))
  sNx))))
def M_cut_away : List D → Res D := defM 7 3 b_cut_away
/-- places_to(tree, keys); slots: 0 tree 1 keys 2 found 3 key 4 place 5 way 6 end 7 _ 8 side -/
def b_places_to : DS := (sSq (sAs (gN 2) (dC (.dct [])))
  (sSq (sFor (diL (dV 1)) (gN 3) (sSq (sAs (gN 4) (dC (.str "")))
  (sSq (sAs (gT [5, 6]) (dCall M_way_to (daC (dV 0) (daC (dV 3) daN))))
  (sSq (sFor (diL (dV 5)) (gT [7, 8]) (sSq (sPut 2 (dV 4) (dC (.bl true)))
  (sSq (sAs (gN 4) (d2 opAdd (dV 4) (d1 fStr (dV 8))))
  sNx)))
  (sSq (sIf (dtAnd (dB (d2 opEq (d2 opIx (dV 6) (dC (.int 0))) (dC (.str "leaf")))) (dB (d2 opEq (d2 opIx (dV 6) (dC (.int 1))) (dV 3)))) (sSq (sPut 2 (dV 4) (dC (.bl true)))
  sNx) sNx)
  sNx)))))
  (sSq (sRet (dV 2))
  sNx)))
def M_places_to : List D → Res D := defM 9 2 b_places_to
/-- witness_for(tree, keys, bits); slots: 0 tree 1 keys 2 bits 3 key -/
def b_witness_for : DS := (sSq (sFor (diL (dV 1)) (gN 3) (sSq (sIf (dtNot (dTr (dCall M_is_open (daC (dV 0) (daC (dV 3) daN))))) (sSq (sRaiO "Missing" ["key"] (daC (dV 3) daN))
  sNx) sNx)
  sNx))
  (sSq (sRet (dCall M_cut_away (daC (dV 0) (daC (dCall M_places_to (daC (dV 0) (daC (dV 1) daN))) (daC (dV 2) daN)))))
  sNx))
def M_witness_for : List D → Res D := defM 4 3 b_witness_for
/-- cut_for(tree, keys, bits); slots: 0 tree 1 keys 2 bits -/
def b_cut_for : DS := (sSq (sE (dCall M_need_tree (daC (dV 0) daN)))
  (sSq (sE (dCall M_need_keys (daC (dV 1) daN)))
  (sSq (sE (dCall M_need_bits (daC (dV 2) daN)))
  (sSq (sRet (dCall M_witness_for (daC (dV 0) (daC (dV 1) (daC (dV 2) daN)))))
  sNx))))
def M_cut_for : List D → Res D := defM 3 3 b_cut_for
/-- _law_power(many); slots: 0 many 1 found 2 step -/
def b__law_power : DS := (sSq (sAs (gN 1) (dC (.int 1)))
  (sSq (sFor (diR1 (dV 0)) (gN 2) (sSq (sAs (gN 1) (d2 opMulI (dC (.int 2)) (dV 1)))
  sNx))
  (sSq (sRet (dV 1))
  sNx)))
def M__law_power : List D → Res D := defM 3 1 b__law_power
/-- _law_bit(spot, depth); slots: 0 spot 1 depth -/
def b__law_bit : DS := (sSq (sRet (d2 opMod (d1 fInt (d2 opFdiv (dV 0) (dCall M__law_power (daC (d2 opSub (dC (.int 15)) (dV 1)) daN)))) (dC (.int 2))))
  sNx)
def M__law_bit : List D → Res D := defM 2 2 b__law_bit
/-- _law_split(pairs); slots: 0 pairs 1 found 2 at 3 place 4 here 5 side 6 pair -/
def b__law_split : DS := (sSq (sAs (gN 1) (dLst (daC (dTup (daC (dC (.str "")) (daC (dV 0) daN))) daN)))
  (sSq (sAs (gN 2) (dC (.int 0)))
  (sSq (sWh (dB (d2 opLt (dV 2) (d1 fLen (dV 1)))) (sSq (sAs (gT [3, 4]) (d2 opIx (dV 1) (dV 2)))
  (sSq (sIf (dB (d2 opGt (d1 fLen (dV 4)) (dC (.int 1)))) (sSq (sFor (diR1 (dC (.int 2))) (gN 5) (sSq (sApp 1 (dTup (daC (d2 opAdd (dV 3) (d1 fStr (dV 5))) (daC (dLc (diL (dV 4)) [6] (gN 6) (dB (d2 opEq (dCall M__law_bit (daC (d2 opIx (dV 6) (dC (.int 0))) (daC (d1 fLen (dV 3)) daN))) (dV 5))) (dV 6)) daN))))
  sNx))
  sNx) sNx)
  (sSq (sAs (gN 2) (d2 opAdd (dV 2) (dC (.int 1))))
  sNx))))
  (sSq (sRet (dV 1))
  sNx))))
def M__law_split : List D → Res D := defM 7 1 b__law_split
/-- _law_sum(text, bits); slots: 0 text 1 bits 2 found 3 sign -/
def b__law_sum : DS := (sSq (sAs (gN 2) (dC (.int 104729)))
  (sSq (sFor (diStr (dV 0)) (gN 3) (sSq (sAs (gN 2) (d2 opMod (d1 fInt (d2 opAdd (d2 opAdd (d2 opMulI (dV 2) (dC (.int 6364136223846793005))) (dC (.int 1442695040888963407))) (d1 fOrd (dV 3)))) (dC (.int 2305843009213693951))))
  sNx))
  (sSq (sRet (d2 opMod (d1 fInt (d2 opFdiv (dV 2) (dC (.int 8)))) (dCall M__law_power (daC (dV 1) daN))))
  sNx)))
def M__law_sum : List D → Res D := defM 4 2 b__law_sum
/-- _law_packed(thing); slots: 0 thing 1 left 2 found 3 here -/
def b__law_packed : DS := (sSq (sAs (gN 1) (dLst (daC (dV 0) daN)))
  (sSq (sAs (gN 2) (dLst daN))
  (sSq (sWh (dTr (dV 1)) (sSq (sPop (gN 3) 1)
  (sSq (sIf (dTr (d1 fIsLst (dV 3))) (sSq (sApp 2 (dC (.str ")")))
  sNx) (sSq (sIf (dTr (d1 fIsTup (dV 3))) sNo (sSq (sIf (dTr (d1 fIsStr (dV 3))) (sSq (sApp 2 (d2 opAdd (d2 opAdd (d2 opAdd (dC (.str "t")) (d1 fStr (d1 fLen (dV 3)))) (dC (.str ":"))) (dV 3)))
  sNx) (sSq (sApp 2 (d2 opAdd (d2 opAdd (dC (.str "i")) (d1 fStr (dV 3))) (dC (.str ";"))))
  sNx))
  sNx))
  sNx))
  sNx)))
  (sSq (sRet (dSm mJoin (dC (.str "")) (dV 2)))
  sNx))))
def M__law_packed : List D → Res D := defM 4 1 b__law_packed
/-- _law_node_text(place, here, told, bits); slots: 0 place 1 here 2 told 3 bits 4 one -/
def b__law_node_text : DS := (sSq (sIf (dtNot (dTr (dV 1))) (sSq (sRet (dC (.str "none")))
  sNx) sNx)
  (sSq (sIf (dB (d2 opEq (d1 fLen (dV 1)) (dC (.int 1)))) (sSq (sRet (d2 opAdd (d2 opAdd (d2 opAdd (dC (.str "leaf ")) (d1 fStr (d2 opIx (d2 opIx (dV 1) (dC (.int 0))) (dC (.int 0))))) (dC (.str " "))) (d1 fStr (dCall M__law_sum (daC (dCall M__law_packed (daC (d2 opIx (d2 opIx (dV 1) (dC (.int 0))) (dC (.int 1))) daN)) (daC (dV 3) daN))))))
  sNx) sNx)
  (sSq (sRet (d2 opAdd (dC (.str "fork ")) (dSm mJoin (dC (.str " ")) (dLc (diL (d2 opAdd (d2 opIx (dV 2) (d2 opAdd (dV 0) (dC (.str "0")))) (d2 opIx (dV 2) (d2 opAdd (dV 0) (dC (.str "1")))))) [4] (gN 4) tT (d1 fStr (dV 4))))))
  sNx)))
def M__law_node_text : List D → Res D := defM 5 4 b__law_node_text
/-- _law_roots(kept, bits); slots: 0 kept 1 bits 2 told 3 place 4 here -/
def b__law_roots : DS := (sSq (sAs (gN 2) (dC (.dct [])))
  (sSq (sFor (diL (d1 opRev (dCall M__law_split (daC (d1 fSortedIt (dV 0)) daN)))) (gT [3, 4]) (sSq (sPut 2 (dV 3) (dTup (daC (dCall M__law_sum (daC (dCallF M__law_node_text (daC (dV 3) (daC (dV 4) (daC (dV 2) (daC (dV 1) daN))))) (daC (dV 1) daN))) (daC (d1 fLen (dV 4)) daN))))
  sNx))
  (sSq (sRet (dV 2))
  sNx)))
def M__law_roots : List D → Res D := defM 5 2 b__law_roots
/-- _law_spot_text(spot); slots: 0 spot 1 depth -/
def b__law_spot_text : DS := (sSq (sRet (dSm mJoin (dC (.str "")) (dLc (diR1 (dC (.int 16))) [1] (gN 1) tT (d1 fStr (dCall M__law_bit (daC (dV 0) (daC (dV 1) daN)))))))
  sNx)
def M__law_spot_text : List D → Res D := defM 2 1 b__law_spot_text
/-- _law_cut(kept, spots, bits); slots: 0 kept 1 spots 2 bits 3 told 4 places 5 spot 6 trees 7 place 8 here 9 near 10 one -/
def b__law_cut : DS := (sSq (sAs (gN 3) (dCall M__law_roots (daC (dV 0) (daC (dV 2) daN))))
  (sSq (sAs (gN 4) (dLc (diL (dV 1)) [5] (gN 5) tT (dCall M__law_spot_text (daC (dV 5) daN))))
  (sSq (sAs (gN 6) (dC (.dct [])))
  (sSq (sFor (diL (d1 opRev (dCall M__law_split (daC (d1 fSortedIt (dV 0)) daN)))) (gT [7, 8]) (sSq (sAs (gN 9) (d1 fAny (dLc (diL (dV 4)) [10] (gN 10) tT (dSm mStarts (dV 10) (dV 7)))))
  (sSq (sIf (dtNot (dTr (dV 8))) (sSq (sPut 6 (dV 7) (dTup (daC (dC (.str "none")) daN)))
  sNx) (sSq (sIf (dtAnd (dB (d2 opEq (d1 fLen (dV 8)) (dC (.int 1)))) (dB (d2 opIn (d2 opIx (d2 opIx (dV 8) (dC (.int 0))) (dC (.int 0))) (dV 1)))) (sSq (sPut 6 (dV 7) (d2 opAdd (dTup (daC (dC (.str "leaf")) daN)) (d2 opIx (dV 8) (dC (.int 0)))))
  sNx) (sSq (sIf (dB (d2 opEq (d1 fLen (dV 8)) (dC (.int 1)))) (sSq (sPut 6 (dV 7) (dTup (daC (dC (.str "shut")) (daC (d2 opIx (d2 opIx (dV 8) (dC (.int 0))) (dC (.int 0))) (daC (dCall M__law_sum (daC (dCall M__law_packed (daC (d2 opIx (d2 opIx (dV 8) (dC (.int 0))) (dC (.int 1))) daN)) (daC (dV 2) daN))) daN)))))
  sNx) (sSq (sIf (dtNot (dTr (dV 9))) (sSq (sPut 6 (dV 7) (d2 opAdd (dTup (daC (dC (.str "cut")) daN)) (d2 opIx (dV 3) (dV 7))))
  sNx) (sSq (sPut 6 (dV 7) (dTup (daC (dC (.str "fork")) (daC (d1 fLen (dV 8)) (daC (d2 opIx (dV 6) (d2 opAdd (dV 7) (dC (.str "0")))) (daC (d2 opIx (dV 6) (d2 opAdd (dV 7) (dC (.str "1")))) daN))))))
  sNx))
  sNx))
  sNx))
  sNx))
  sNx)))
  (sSq (sRet (d2 opIx (dV 6) (dC (.str ""))))
  sNx)))))
def M__law_cut : List D → Res D := defM 11 3 b__law_cut
/-- root_of(tree, bits); slots: 0 tree 1 bits -/
def b_root_of : DS := (sSq (sRet (d2 opIx (dCall M_roots_of (daC (dV 0) (daC (dV 1) daN))) (dC (.str ""))))
  sNx)
def M_root_of : List D → Res D := defM 2 2 b_root_of
/-- root(tree, bits); slots: 0 tree 1 bits -/
def b_root : DS := (sSq (sE (dCall M_need_tree (daC (dV 0) daN)))
  (sSq (sE (dCall M_need_bits (daC (dV 1) daN)))
  (sSq (sRet (dCall M_root_of (daC (dV 0) (daC (dV 1) daN))))
  sNx)))
def M_root : List D → Res D := defM 2 2 b_root
/-- is_closed(node); slots: 0 node -/
def b_is_closed : DS := (sSq (sRet (d2 opIn (d2 opIx (dV 0) (dC (.int 0))) (dTup (daC (dC (.str "cut")) (daC (dC (.str "shut")) daN)))))
  sNx)
def M_is_closed : List D → Res D := defM 1 1 b_is_closed
/-- stands_for(node, root, told, bits); slots: 0 node 1 root 2 told 3 bits -/
def b_stands_for : DS := (sSq (sIf (dB (d2 opEq (d2 opIx (dV 2) (dC (.int 0))) (dC (.str "cut")))) (sSq (sRet (d2 opEq (dV 1) (dSl (dV 2) (doS (dC (.int 1))) doN)))
  sNx) sNx)
  (sSq (sRet (dAnd (d2 opIn (d2 opIx (dV 0) (dC (.int 0))) (dTup (daC (dC (.str "leaf")) (daC (dC (.str "shut")) daN)))) (dAnd (d2 opEq (d2 opIx (dV 0) (dC (.int 1))) (d2 opIx (dV 2) (dC (.int 1)))) (d2 opEq (dCall M_value_sum (daC (dV 0) (daC (dV 3) daN))) (d2 opIx (dV 2) (dC (.int 2)))))))
  sNx))
def M_stands_for : List D → Res D := defM 4 4 b_stands_for
/-- alike(one, other); slots: 0 one 1 other -/
def b_alike : DS := (sSq (sIf (dtOr (dB (d2 opEq (d2 opIx (dV 0) (dC (.int 0))) (dC (.str "fork")))) (dB (d2 opEq (d2 opIx (dV 1) (dC (.int 0))) (dC (.str "fork"))))) (sSq (sRet (dAnd (d2 opEq (d2 opIx (dV 0) (dC (.int 0))) (d2 opIx (dV 1) (dC (.int 0)))) (d2 opEq (d2 opIx (dV 0) (dC (.int 1))) (d2 opIx (dV 1) (dC (.int 1))))))
  sNx) sNx)
  (sSq (sRet (d2 opEq (dV 0) (dV 1)))
  sNx))
def M_alike : List D → Res D := defM 2 2 b_alike
/-- is_pruning_of(full, tree, bits); slots: 0 full 1 tree 2 bits 3 told 4 nodes 5 place 6 node -/
def b_is_pruning_of : DS := (sSq (sAs (gN 3) (dCall M_roots_of (daC (dV 0) (daC (dV 2) daN))))
  (sSq (sAs (gN 4) (d1 fDict (dCall M_nodes_of (daC (dV 0) daN))))
  (sSq (sFor (diL (dCall M_nodes_of (daC (dV 1) daN))) (gT [5, 6]) (sSq (sIf (dB (d2 opNotIn (dV 5) (dV 4))) (sSq (sRet (dC (.bl false)))
  sNx) sNx)
  (sSq (sIf (dTr (dCall M_is_closed (daC (dV 6) daN))) (sSq (sIf (dtNot (dTr (dCall M_stands_for (daC (d2 opIx (dV 4) (dV 5)) (daC (d2 opIx (dV 3) (dV 5)) (daC (dV 6) (daC (dV 2) daN))))))) (sSq (sRet (dC (.bl false)))
  sNx) sNx)
  sNx) (sSq (sIf (dtNot (dTr (dCall M_alike (daC (d2 opIx (dV 4) (dV 5)) (daC (dV 6) daN))))) (sSq (sRet (dC (.bl false)))
  sNx) sNx)
  sNx))
  sNx)))
  (sSq (sRet (dC (.bl true)))
  sNx))))
def M_is_pruning_of : List D → Res D := defM 7 3 b_is_pruning_of
/-- is_pruning(full, tree, bits); slots: 0 full 1 tree 2 bits -/
def b_is_pruning : DS := (sSq (sE (dCall M_need_tree (daC (dV 0) daN)))
  (sSq (sE (dCall M_need_tree (daC (dV 1) daN)))
  (sSq (sE (dCall M_need_bits (daC (dV 2) daN)))
  (sSq (sRet (dCall M_is_pruning_of (daC (dV 0) (daC (dV 1) (daC (dV 2) daN)))))
  sNx))))
def M_is_pruning : List D → Res D := defM 3 3 b_is_pruning
/-- _law_end(tree, spot); slots: 0 tree 1 spot 2 here 3 depth -/
def b__law_end : DS := (sSq (sAs (gN 2) (dV 0))
  (sSq (sFor (diR1 (dC (.int 17))) (gN 3) (sSq (sIf (dB (d2 opEq (d2 opIx (dV 2) (dC (.int 0))) (dC (.str "fork")))) (sSq (sAs (gN 2) (d2 opIx (dV 2) (d2 opAdd (dC (.int 2)) (dCall M__law_bit (daC (dV 1) (daC (dV 3) daN))))))
  sNx) sNx)
  sNx))
  (sSq (sRet (dV 2))
  sNx)))
def M__law_end : List D → Res D := defM 4 2 b__law_end
/-- _law_flag(found, due); slots: 0 found 1 due -/
def b__law_flag : DS := (sSq (sIf (dTr (dV 1)) (sSq (sRet (d2 opIs (dV 0) (dC (.bl true))))
  sNx) sNx)
  (sSq (sRet (d2 opIs (dV 0) (dC (.bl false))))
  sNx))
def M__law_flag : List D → Res D := defM 2 2 b__law_flag
/-- opens(tree, key); slots: 0 tree 1 key -/
def b_opens : DS := (sSq (sE (dCall M_need_tree (daC (dV 0) daN)))
  (sSq (sIf (dtNot (dTr (dCall M_is_spot (daC (dV 1) daN)))) (sSq (sRai "NoKey" [] daN)
  sNx) sNx)
  (sSq (sRet (dCall M_is_open (daC (dV 0) (daC (dV 1) daN))))
  sNx)))
def M_opens : List D → Res D := defM 2 2 b_opens
/-- value_at(tree, key); slots: 0 tree 1 key 2 _ 3 end -/
def b_value_at : DS := (sSq (sAs (gT [2, 3]) (dCall M_way_to (daC (dV 0) (daC (dV 1) daN))))
  (sSq (sIf (dtOr (dB (d2 opEq (d2 opIx (dV 3) (dC (.int 0))) (dC (.str "cut")))) (dtAnd (dB (d2 opEq (d2 opIx (dV 3) (dC (.int 0))) (dC (.str "shut")))) (dB (d2 opEq (d2 opIx (dV 3) (dC (.int 1))) (dV 1))))) (sSq (sRaiO "Missing" ["key"] (daC (dV 1) daN))
  sNx) sNx)
  (sSq (sRet (dIfE (dtAnd (dB (d2 opEq (d2 opIx (dV 3) (dC (.int 0))) (dC (.str "leaf")))) (dB (d2 opEq (d2 opIx (dV 3) (dC (.int 1))) (dV 1)))) (d2 opIx (dV 3) (dC (.int 2))) (dC (.int 0))))
  sNx)))
def M_value_at : List D → Res D := defM 4 2 b_value_at
/-- get(tree, key); slots: 0 tree 1 key -/
def b_get : DS := (sSq (sE (dCall M_need_tree (daC (dV 0) daN)))
  (sSq (sE (dCall M_need_key (daC (dV 1) daN)))
  (sSq (sRet (dCall M_value_at (daC (dV 0) (daC (dV 1) daN))))
  sNx)))
def M_get : List D → Res D := defM 2 2 b_get
/-- put(tree, key, value); slots: 0 tree 1 key 2 value -/
def b_put : DS := (sSq (sE (dCall M_need_tree (daC (dV 0) daN)))
  (sSq (sE (dCall M_need_key (daC (dV 1) daN)))
  (sSq (sE (dCall M_need_value (daC (dV 2) daN)))
  (sSq (sRet (dCall M_changed_at (daC (dV 0) (daC (dV 1) (daC (dV 2) daN)))))
  sNx))))
def M_put : List D → Res D := defM 3 3 b_put
/-- _law_try(tree, spot, value); slots: 0 tree 1 spot 2 value 3 wrong -/
def b__law_try : DS := (sSq (sTryF 3 [("Missing", ["key"]), ("NoKey", []), ("NoTree", []), ("NoValue", [])] (sSq (sIf (dB (d2 opIs (dV 2) (dC .non))) (sSq (sRet (dTup (daC (dC (.str "told")) (daC (dCall M_get (daC (dV 0) (daC (dV 1) daN))) daN))))
  sNx) sNx)
  (sSq (sRet (dTup (daC (dC (.str "told")) (daC (dCall M_put (daC (dV 0) (daC (dV 1) (daC (dV 2) daN)))) daN))))
  sNx)) (fun x => (sSq (sIf (dB (xIs x "Missing")) (sSq (sRet (dTup (daC (dC (.str "missing")) (daC (xFlF x "key") daN)))) sNx) sNx) sNx)))
  (sSq (sRet (dTup (daC (dC (.str "wrong")) (daC (dC .non) daN))))
  sNx))
def M__law_try : List D → Res D := defM 4 3 b__law_try
/-- _law_whole_tree(kept); slots: 0 kept 1 trees 2 place 3 here -/
def b__law_whole_tree : DS := (sSq (sAs (gN 1) (dC (.dct [])))
  (sSq (sFor (diL (d1 opRev (dCall M__law_split (daC (d1 fSortedIt (dV 0)) daN)))) (gT [2, 3]) (sSq (sIf (dtNot (dTr (dV 3))) (sSq (sPut 1 (dV 2) (dTup (daC (dC (.str "none")) daN)))
  sNx) (sSq (sIf (dB (d2 opEq (d1 fLen (dV 3)) (dC (.int 1)))) (sSq (sPut 1 (dV 2) (d2 opAdd (dTup (daC (dC (.str "leaf")) daN)) (d2 opIx (dV 3) (dC (.int 0)))))
  sNx) (sSq (sPut 1 (dV 2) (dTup (daC (dC (.str "fork")) (daC (d1 fLen (dV 3)) (daC (d2 opIx (dV 1) (d2 opAdd (dV 2) (dC (.str "0")))) (daC (d2 opIx (dV 1) (d2 opAdd (dV 2) (dC (.str "1")))) daN))))))
  sNx))
  sNx))
  sNx))
  (sSq (sRet (d2 opIx (dV 1) (dC (.str ""))))
  sNx)))
def M__law_whole_tree : List D → Res D := defM 4 1 b__law_whole_tree
/-- _law_root(kept, bits); slots: 0 kept 1 bits -/
def b__law_root : DS := (sSq (sRet (d2 opIx (dCall M__law_roots (daC (dV 0) (daC (dV 1) daN))) (dC (.str ""))))
  sNx)
def M__law_root : List D → Res D := defM 2 2 b__law_root
/-- law(script); slots: 0 script 1 kept 2 bits 3 spots 4 whole 5 tree 6 there 7 digits 8 k 9 spot 10 value 11 end 12 hidden 13 told -/
def b_law : DS := (sSq (sAs (gN 1) (dCall M__law_map (daC (dCall M__law_at (daC (dV 0) (daC (dC (.int 0)) daN))) (daC (dCall M__law_at (daC (dV 0) (daC (dC (.int 1)) daN))) (daC (dC (.int 24)) daN)))))
  (sSq (sAs (gN 2) (dCall M__law_bits (daC (dCall M__law_at (daC (dV 0) (daC (dC (.int 2)) daN))) daN)))
  (sSq (sAs (gN 3) (dCall M__law_spots (daC (dCall M__law_at (daC (dV 0) (daC (dC (.int 3)) daN))) (daC (dV 1) (daC (dC (.int 8)) daN)))))
  (sSq (sAs (gN 4) (dCall M_led_tree (daC (d1 fTup (d1 fSortedIt (dV 1))) daN)))
  (sSq (sAs (gN 5) (dCall M_cut_for (daC (dV 4) (daC (dV 3) (daC (dV 2) daN)))))
  (sSq (sIf (dtOr (dB (d2 opNe (dV 5) (dCall M__law_cut (daC (dV 1) (daC (dV 3) (daC (dV 2) daN)))))) (dtOr (dB (d2 opNe (dCall M_root (daC (dV 5) (daC (dV 2) daN))) (dCall M_root (daC (dV 4) (daC (dV 2) daN))))) (dB (d2 opIsN (dCall M_is_pruning (daC (dV 4) (daC (dV 5) (daC (dV 2) daN)))) (dC (.bl true)))))) (sSq (sRet (dC (.bl false)))
  sNx) sNx)
  (sSq (sAs (gN 6) (d1 fDict (dV 1)))
  (sSq (sAs (gN 7) (dCall M__law_row (daC (dCall M__law_at (daC (dV 0) (daC (dC (.int 4)) daN))) (daC (dC (.int 24)) (daC (dC (.int 65536)) daN)))))
  (sSq (sFor (diR1 (dC (.int 12))) (gN 8) (sSq (sAs (gN 9) (d2 opIx (dV 7) (d2 opMulI (dC (.int 2)) (dV 8))))
  (sSq (sIf (dtAnd (dTr (dV 3)) (dB (d2 opGt (d2 opMod (d2 opIx (dV 7) (d2 opMulI (dC (.int 2)) (dV 8))) (dC (.int 5))) (dC (.int 0))))) (sSq (sAs (gN 9) (d2 opIx (dV 3) (d2 opMod (d2 opIx (dV 7) (d2 opMulI (dC (.int 2)) (dV 8))) (d1 fLen (dV 3)))))
  sNx) sNx)
  (sSq (sAs (gN 10) (d2 opIx (dLst (daC (dC .non) (daC (dC (.int 0)) (daC (d2 opAdd (dC (.int 1)) (d2 opIx (dV 7) (d2 opAdd (d2 opMulI (dC (.int 2)) (dV 8)) (dC (.int 1))))) daN)))) (d2 opMod (d2 opIx (dV 7) (d2 opAdd (d2 opMulI (dC (.int 2)) (dV 8)) (dC (.int 1)))) (dC (.int 3)))))
  (sSq (sAs (gN 11) (dCall M__law_end (daC (dV 5) (daC (dV 9) daN))))
  (sSq (sAs (gN 12) (dOr (d2 opEq (d2 opIx (dV 11) (dC (.int 0))) (dC (.str "cut"))) (d2 opEq (dSl (dV 11) doN (doS (dC (.int 2)))) (dTup (daC (dC (.str "shut")) (daC (dV 9) daN))))))
  (sSq (sIf (dtNot (dTr (dCall M__law_flag (daC (dCall M_opens (daC (dV 5) (daC (dV 9) daN))) (daC (dNot (dV 12)) daN))))) (sSq (sRet (dC (.bl false)))
  sNx) sNx)
  (sSq (sAs (gN 13) (dCall M__law_try (daC (dV 5) (daC (dV 9) (daC (dV 10) daN)))))
  (sSq (sIf (dtOr (dB (d2 opEq (d2 opIx (dV 11) (dC (.int 0))) (dC (.str "cut")))) (dtAnd (dTr (dV 12)) (dB (d2 opIs (dV 10) (dC .non))))) (sSq (sIf (dtOr (dB (d2 opNe (dV 13) (dTup (daC (dC (.str "missing")) (daC (dV 9) daN))))) (dB (d2 opIn (dV 9) (dV 3)))) (sSq (sRet (dC (.bl false)))
  sNx) sNx)
  sNx) (sSq (sIf (dB (d2 opIs (dV 10) (dC .non))) (sSq (sIf (dB (d2 opNe (dV 13) (dTup (daC (dC (.str "told")) (daC (dGet2 (dV 6) (dV 9) (dC (.int 0))) daN))))) (sSq (sRet (dC (.bl false)))
  sNx) sNx)
  sNx) (sSq (sIf (dB (d2 opNe (d2 opIx (dV 13) (dC (.int 0))) (dC (.str "told")))) (sSq (sRet (dC (.bl false)))
  sNx) sNx)
  (sSq (sPut 6 (dV 9) (dV 10))
  (sSq (sIf (dB (d2 opEq (dV 10) (dC (.int 0)))) (sSq (sDel 6 (dV 9))
  sNx) sNx)
  (sSq (sAs (gN 5) (d2 opIx (dV 13) (dC (.int 1))))
  (sSq (sAs (gN 4) (dCall M_put (daC (dV 4) (daC (dV 9) (daC (dV 10) daN)))))
  (sSq (sIf (dtOr (dB (d2 opNe (dV 4) (dCall M__law_whole_tree (daC (dV 6) daN)))) (dB (d2 opNe (dCall M_root (daC (dV 5) (daC (dV 2) daN))) (dCall M__law_root (daC (dV 6) (daC (dV 2) daN)))))) (sSq (sRet (dC (.bl false)))
  sNx) sNx)
  (sSq (sIf (dB (d2 opIsN (dCall M_is_pruning (daC (dV 4) (daC (dV 5) (daC (dV 2) daN)))) (dC (.bl true)))) (sSq (sRet (dC (.bl false)))
  sNx) sNx)
  sNx))))))))
  sNx))
  sNx)))))))))
  (sSq (sRet (d2 opEq (dCall M__law_try (daC (dV 4) (daC (dC (.int 0)) (daC (dC .non) daN)))) (dTup (daC (dC (.str "told")) (daC (dGet2 (dV 6) (dC (.int 0)) (dC (.int 0))) daN)))))
  sNx))))))))))
def M_law : List D → Res D := defM 14 1 b_law
end K49
namespace K49
open PySem PySem.Spec L2 DL
def top (i : Nat) : Stmt := PySem.Challenge.pw_leanledger_k49_whole_witnesses_lead_alik.main.body.getD i (.Pass ⟨0, 0, 0, 0⟩)
/-- what the module holds -/
structure GF (K : PySem.W.Frag) (mg : Str → Option Value) : Prop where
  g_abs : mg "abs" = none
  g_all : mg "all" = none
  g_any : mg "any" = none
  g_bool : mg "bool" = none
  g_dict : mg "dict" = none
  g_enumerate : mg "enumerate" = none
  g_int : mg "int" = none
  g_isinstance : mg "isinstance" = none
  g_len : mg "len" = none
  g_list : mg "list" = none
  g_max : mg "max" = none
  g_min : mg "min" = none
  g_ord : mg "ord" = none
  g_range : mg "range" = none
  g_sorted : mg "sorted" = none
  g_str : mg "str" = none
  g_sum : mg "sum" = none
  g_tuple : mg "tuple" = none
  g_zip : mg "zip" = none
  c_BEGIN : ∃ t, mg "BEGIN" = some (.int 104729 t)
  c_CHUNK : ∃ t, mg "CHUNK" = some (.int 32 t)
  c_CHUNK_PLUS : ∃ t, mg "CHUNK_PLUS" = some (.int 1472633651945887258 t)
  c_CHUNK_TIMES : ∃ t, mg "CHUNK_TIMES" = some (.int 1756108757816216254 t)
  c_DEPTH : ∃ t, mg "DEPTH" = some (.int 16 t)
  c_FEWEST_BITS : ∃ t, mg "FEWEST_BITS" = some (.int 4 t)
  c_GREATEST : ∃ t, mg "GREATEST" = some (.int 1152921504606846976 t)
  c_LONGEST : ∃ t, mg "LONGEST" = some (.int 60000 t)
  c_MOST_BITS : ∃ t, mg "MOST_BITS" = some (.int 60 t)
  c_NONE : KT K mg "NONE" K_NONE
  c_PLUS : ∃ t, mg "PLUS" = some (.int 1442695040888963407 t)
  c_POWERS : KT K mg "POWERS" K_POWERS
  c_PRIME : ∃ t, mg "PRIME" = some (.int 2305843009213693951 t)
  c_SPOTS : ∃ t, mg "SPOTS" = some (.int 65536 t)
  c_TIMES : ∃ t, mg "TIMES" = some (.int 6364136223846793005 t)
  x_NoBits : ∃ C, XF K mg "NoBits" C
  x_NoKey : ∃ C, XF K mg "NoKey" C
  x_NoTree : ∃ C, XF K mg "NoTree" C
  x_NoValue : ∃ C, XF K mg "NoValue" C
  n_Missing : ∀ D, mg "Missing" = some (.ref D) → ∀ f ∈ (["key"] : List Str), PySem.W.findIn K (.ref D) f = some none
  i_Closer : ∃ C, mg "Closer" = some (.ref C) ∧ ∀ d, PySem.W.kitOne K (.type (tyN d)) (.ref C) = some false
  L_LedgerError : ∃ C, mg "LedgerError" = some (.ref C) ∧ ∀ L : List Str, (∀ c ∈ L, c ∈ (["Missing", "NoKey", "NoTree", "NoValue"] : List Str)) → XL K mg (.ref C) L
  a_Missing : ∃ C, mg "Missing" = some (.ref C) ∧ ∀ c ∈ (["Missing", "NoKey", "NoTree", "NoValue"] : List Str), ∀ D, mg c = some (.ref D) → PySem.W.kitOne K (.ref D) (.ref C) = some (c == "Missing")
section
variable {P : Program} {w : World} {K : PySem.W.Frag} {mg : Str → Option Value} {base : Heap} {f : Addr} {fd : FuncData}
abbrev s_Missing : Stmt := (clsB (top 6)).getD 0 (.Pass ⟨0, 0, 0, 0⟩)
theorem S_Missing : FnScope ["self", "key"] ["self", "key"] (defScope s_Missing) := ⟨rfl, rfl, rfl, by decide +kernel, rfl, by decide +kernel, by decide +kernel⟩
abbrev s__law_mixed : Stmt := top 88
theorem S__law_mixed : FnScope ["cell", "k", "mixed"] ["cell", "k"] (defScope s__law_mixed) := ⟨rfl, rfl, rfl, by decide +kernel, rfl, by decide +kernel, by decide +kernel⟩
theorem ok__law_mixed (G : GF K mg) (F : Fun K "_law_mixed" "_law_mixed" s__law_mixed f fd)  : FnOk P w K mg base (L2.CX P w) 1 f fd ["cell", "k"] (spD K mg M__law_mixed) :=
  have S := S__law_mixed
  okD (O := []) (b := b__law_mixed) F S rfl (by decide) fun cdv A outer s H E C =>
  (bC (sN 2 S.nd (eMod (eInt G.g_int (eAdd (eMul (eAdd (eAbs G.g_abs (ev 0)) eI) eI) (eMul (ev 1) eI))) eI))
  (bC (sRt (eMod (eInt G.g_int (eAdd (eMul (ev 2) eI) (eMul (ev 1) eI))) eI))
  bNil))
abbrev s__law_row : Stmt := top 95
theorem S__law_row : FnScope ["cell", "many", "top", "found", "left", "great", "k"] ["cell", "many", "top"] (defScope s__law_row) := ⟨rfl, rfl, rfl, by decide +kernel, rfl, by decide +kernel, by decide +kernel⟩
theorem ok__law_row (G : GF K mg) (F : Fun K "_law_row" "_law_row" s__law_row f fd) (F__law_mixed : FE P w K mg base 1 "_law_mixed" ["cell", "k"] M__law_mixed) : FnOk P w K mg base (L2.CX P w) 2 f fd ["cell", "many", "top"] (spD K mg M__law_row) :=
  have S := S__law_row
  okD (O := [3]) (b := b__law_row) F S rfl (by decide) fun cdv A outer s H E C =>
  (bC (sO 3 S.nd (nLst aN))
  (bC (sN 4 S.nd (eInt G.g_int (ev 0)))
  (bC (sN 5 S.nd (eGe (ev 4) eI))
  (bC (foL C.po C.calm (iR1 G.g_range (ev 1)) (gxN 6 S.nd) (bC (sIfE (tTr (ev 5)) (bC (sAp 3 (eMod (eInt G.g_int (ev 4)) (ev 2)))
  (bC (sN 4 S.nd (eFdiv (ev 4) (ev 2)))
  bNil)) (bC (sAp 3 (eMod (eFdiv (eCall C ⟨F__law_mixed⟩ (aC (ev 0) (aC (ev 6) aN))) eI) (ev 2)))
  bNil))
  bNil))
  (bC (sRt (eo 3).zero)
  bNil)))))
abbrev s__law_map : Stmt := top 90
theorem S__law_map : FnScope ["cell", "more", "most", "digits", "marks", "close", "kept", "k", "spot", "value"] ["cell", "more", "most"] (defScope s__law_map) := ⟨rfl, rfl, rfl, by decide +kernel, rfl, by decide +kernel, by decide +kernel⟩
theorem ok__law_map (G : GF K mg) (F : Fun K "_law_map" "_law_map" s__law_map f fd) (F__law_row : FE P w K mg base 2 "_law_row" ["cell", "many", "top"] M__law_row) : FnOk P w K mg base (L2.CX P w) 3 f fd ["cell", "more", "most"] (spD K mg M__law_map) :=
  have S := S__law_map
  okD (O := [6]) (b := b__law_map) F S rfl (by decide) fun cdv A outer s H E C =>
  (bC (sN 3 S.nd (eCall C ⟨F__law_row⟩ (aC (ev 0) (aC eI (aC eI aN)))))
  (bC (sN 4 S.nd (eCall C ⟨F__law_row⟩ (aC (ev 1) (aC (eMul eI (ev 2)) (aC eI aN)))))
  (bC (sN 5 S.nd (eMod (eIx C.hu (ev 3) eI) eI))
  (bC (sO 6 S.nd nD0)
  (bC (foL C.po C.calm (iR1 G.g_range (eMod (eIx C.hu (ev 3) eI) (eAdd (ev 2) eI))) (gxN 7 S.nd) (bC (sN 8 S.nd (eIx C.hu (ev 4) (eMul eI (ev 7))))
  (bC (sIfE (tEq C.hu (ev 5) eI) (bC (sN 8 S.nd (eMod (eInt G.g_int (ev 8)) eI))
  bNil) bNil)
  (bC (sIfE (tEq C.hu (ev 5) eI) (bC (sN 8 S.nd (eAdd (eMul (eMod (eInt G.g_int (ev 8)) eI) eI) (eMod (eIx C.hu (ev 4) (eAdd (eMul eI (ev 7)) eI)) eI)))
  bNil) bNil)
  (bC (sN 9 S.nd (eAdd eI (eIx C.hu (ev 4) (eAdd (eMul eI (ev 7)) eI))))
  (bC (sIfE (tEq C.hu (eMod (eIx C.hu (ev 4) (eAdd (eMul eI (ev 7)) eI)) eI) eI) (bC (sN 9 S.nd (eAdd eS (eStr G.g_str (eIx C.hu (ev 4) (eAdd (eMul eI (ev 7)) eI)))))
  bNil) bNil)
  (bC (sPu 6 C.hu1 (ev 9) (ev 8))
  bNil)))))))
  (bC (sRt (eo 6).zero)
  bNil))))))
abbrev s__law_at : Stmt := top 91
theorem S__law_at : FnScope ["script", "k"] ["script", "k"] (defScope s__law_at) := ⟨rfl, rfl, rfl, by decide +kernel, rfl, by decide +kernel, by decide +kernel⟩
theorem ok__law_at (G : GF K mg) (F : Fun K "_law_at" "_law_at" s__law_at f fd)  : FnOk P w K mg base (L2.CX P w) 1 f fd ["script", "k"] (spD K mg M__law_at) :=
  have S := S__law_at
  okD (O := []) (b := b__law_at) F S rfl (by decide) fun cdv A outer s H E C =>
  (bC (sIfE (tLt (ev 1) (eLen G.g_len (ev 0))) (bC (sRt (eInt G.g_int (eIx C.hu (ev 0) (ev 1))))
  bNil) bNil)
  (bC (sRt (eAdd eI (eMul eI (ev 1))))
  bNil))
abbrev s__law_bits : Stmt := top 92
theorem S__law_bits : FnScope ["cell"] ["cell"] (defScope s__law_bits) := ⟨rfl, rfl, rfl, by decide +kernel, rfl, by decide +kernel, by decide +kernel⟩
theorem ok__law_bits (G : GF K mg) (F : Fun K "_law_bits" "_law_bits" s__law_bits f fd) (F__law_row : FE P w K mg base 2 "_law_row" ["cell", "many", "top"] M__law_row) : FnOk P w K mg base (L2.CX P w) 3 f fd ["cell"] (spD K mg M__law_bits) :=
  have S := S__law_bits
  okD (O := []) (b := b__law_bits) F S rfl (by decide) fun cdv A outer s H E C =>
  (bC (sRt (eIx C.hu (eLst (aC eI (aC eI (aC eI (aC eI (aC eI (aC eI (aC eI aN)))))))) (eIx C.hu (eCall C ⟨F__law_row⟩ (aC (ev 0) (aC eI (aC eI aN)))) eI)))
  bNil)
abbrev s__law_spots : Stmt := top 93
theorem S__law_spots : FnScope ["cell", "kept", "most", "digits", "have", "found", "k", "spot"] ["cell", "kept", "most"] (defScope s__law_spots) := ⟨rfl, rfl, rfl, by decide +kernel, rfl, by decide +kernel, by decide +kernel⟩
theorem ok__law_spots (G : GF K mg) (F : Fun K "_law_spots" "_law_spots" s__law_spots f fd) (F__law_row : FE P w K mg base 2 "_law_row" ["cell", "many", "top"] M__law_row) : FnOk P w K mg base (L2.CX P w) 3 f fd ["cell", "kept", "most"] (spD K mg M__law_spots) :=
  have S := S__law_spots
  okD (O := [5]) (b := b__law_spots) F S rfl (by decide) fun cdv A outer s H E C =>
  (bC (sN 3 S.nd (eCall C ⟨F__law_row⟩ (aC (ev 0) (aC (eAdd (ev 2) eI) (aC eI aN)))))
  (bC (sN 4 S.nd (eSorted C.calm G.g_sorted (ev 1)))
  (bC (sO 5 S.nd (nLst aN))
  (bC (foL C.po C.calm (iR1 G.g_range (eMod (eIx C.hu (ev 3) eI) (eAdd (ev 2) eI))) (gxN 6 S.nd) (bC (sN 7 S.nd (eIx C.hu (ev 3) (eAdd eI (ev 6))))
  (bC (sIfE (wA (tTr (ev 4)) (wA1 (tGt (eMod (ev 7) eI) eI))).t (bC (sN 7 S.nd (eIx C.hu (ev 4) (eMod (ev 7) (eLen G.g_len (ev 4)))))
  bNil) (bC (sIfE (wA (tTr (ev 4)) (wA1 (tEq C.hu (eMod (ev 7) eI) eI))).t (bC (sN 7 S.nd (eMax2 C.calm G.g_max eI (eMin2 C.calm G.g_min eI (eSub (eAdd (eIx C.hu (ev 4) (eMod (ev 7) (eLen G.g_len (ev 4)))) (eMod (ev 7) eI)) eI))))
  bNil) bNil)
  bNil))
  (bC (sAp 5 (ev 7))
  bNil))))
  (bC (sRt (eTuple G.g_tuple (eo 5)))
  bNil)))))
abbrev s_is_tuple_of : Stmt := top 12
theorem S_is_tuple_of : FnScope ["thing", "many"] ["thing", "many"] (defScope s_is_tuple_of) := ⟨rfl, rfl, rfl, by decide +kernel, rfl, by decide +kernel, by decide +kernel⟩
theorem ok_is_tuple_of (G : GF K mg) (F : Fun K "is_tuple_of" "is_tuple_of" s_is_tuple_of f fd)  : FnOk P w K mg base (L2.CX P w) 1 f fd ["thing", "many"] (spD K mg M_is_tuple_of) :=
  have S := S_is_tuple_of
  okD (O := []) (b := b_is_tuple_of) F S rfl (by decide) fun cdv A outer s H E C =>
  (bC (sRt (eAnd (eIsT G.g_tuple PyProof.Rows.boot_tuple is_tup G.g_isinstance (ev 0)) (eOne (eEq C.hu (eLen G.g_len (ev 0)) (ev 1)))))
  bNil)
abbrev s_is_integer : Stmt := top 8
theorem S_is_integer : FnScope ["thing"] ["thing"] (defScope s_is_integer) := ⟨rfl, rfl, rfl, by decide +kernel, rfl, by decide +kernel, by decide +kernel⟩
theorem ok_is_integer (G : GF K mg) (F : Fun K "is_integer" "is_integer" s_is_integer f fd)  : FnOk P w K mg base (L2.CX P w) 1 f fd ["thing"] (spD K mg M_is_integer) :=
  have S := S_is_integer
  okD (O := []) (b := b_is_integer) F S rfl (by decide) fun cdv A outer s H E C =>
  (bC (sRt (eAnd (eIsT G.g_int PyProof.Rows.boot_int is_int G.g_isinstance (ev 0)) (eOne (eNot (eIsT G.g_bool PyProof.Rows.boot_bool is_bool G.g_isinstance (ev 0))))))
  bNil)
abbrev s_is_under : Stmt := top 11
theorem S_is_under : FnScope ["thing", "many"] ["thing", "many"] (defScope s_is_under) := ⟨rfl, rfl, rfl, by decide +kernel, rfl, by decide +kernel, by decide +kernel⟩
theorem ok_is_under (G : GF K mg) (F : Fun K "is_under" "is_under" s_is_under f fd) (F_is_integer : FE P w K mg base 1 "is_integer" ["thing"] M_is_integer) : FnOk P w K mg base (L2.CX P w) 2 f fd ["thing", "many"] (spD K mg M_is_under) :=
  have S := S_is_under
  okD (O := []) (b := b_is_under) F S rfl (by decide) fun cdv A outer s H E C =>
  (bC (sRt (eAnd (eCall C ⟨F_is_integer⟩ (aC (ev 0) aN)) (eOne (eCh (g := fun i j => decide (i ≤ j)) (g' := fun i j => decide (i < j)) op_le op_lt eI (ev 0) (ev 1)))))
  bNil)
abbrev s_is_spot : Stmt := top 35
theorem S_is_spot : FnScope ["thing"] ["thing"] (defScope s_is_spot) := ⟨rfl, rfl, rfl, by decide +kernel, rfl, by decide +kernel, by decide +kernel⟩
theorem ok_is_spot (G : GF K mg) (F : Fun K "is_spot" "is_spot" s_is_spot f fd) (F_is_under : FE P w K mg base 2 "is_under" ["thing", "many"] M_is_under) : FnOk P w K mg base (L2.CX P w) 3 f fd ["thing"] (spD K mg M_is_spot) :=
  have S := S_is_spot
  okD (O := []) (b := b_is_spot) F S rfl (by decide) fun cdv A outer s H E C =>
  (bC (sRt (eCall C ⟨F_is_under⟩ (aC (ev 0) (aC (eG G.c_SPOTS) aN))))
  bNil)
abbrev s_need_key : Stmt := top 53
theorem S_need_key : FnScope ["thing"] ["thing"] (defScope s_need_key) := ⟨rfl, rfl, rfl, by decide +kernel, rfl, by decide +kernel, by decide +kernel⟩
theorem ok_need_key (G : GF K mg) (F : Fun K "need_key" "need_key" s_need_key f fd) (F_is_spot : FE P w K mg base 3 "is_spot" ["thing"] M_is_spot) : FnOk P w K mg base (L2.CX P w) 4 f fd ["thing"] (spD K mg M_need_key) :=
  have S := S_need_key
  okD (O := []) (b := b_need_key) F S rfl (by decide) fun cdv A outer s H E C =>
  (bC (sIfE (tNt (tTr (eCall C ⟨F_is_spot⟩ (aC (ev 0) aN)))) (bC (sRa C G.x_NoKey.choose_spec)
  bNil) bNil)
  bNil)
abbrev s_is_between : Stmt := top 10
theorem S_is_between : FnScope ["thing", "least", "most"] ["thing", "least", "most"] (defScope s_is_between) := ⟨rfl, rfl, rfl, by decide +kernel, rfl, by decide +kernel, by decide +kernel⟩
theorem ok_is_between (G : GF K mg) (F : Fun K "is_between" "is_between" s_is_between f fd) (F_is_integer : FE P w K mg base 1 "is_integer" ["thing"] M_is_integer) : FnOk P w K mg base (L2.CX P w) 2 f fd ["thing", "least", "most"] (spD K mg M_is_between) :=
  have S := S_is_between
  okD (O := []) (b := b_is_between) F S rfl (by decide) fun cdv A outer s H E C =>
  (bC (sRt (eAnd (eCall C ⟨F_is_integer⟩ (aC (ev 0) aN)) (eOne (eCh (g := fun i j => decide (i ≤ j)) (g' := fun i j => decide (i ≤ j)) op_le op_le (ev 1) (ev 0) (ev 2)))))
  bNil)
abbrev s_is_value : Stmt := top 36
theorem S_is_value : FnScope ["thing"] ["thing"] (defScope s_is_value) := ⟨rfl, rfl, rfl, by decide +kernel, rfl, by decide +kernel, by decide +kernel⟩
theorem ok_is_value (G : GF K mg) (F : Fun K "is_value" "is_value" s_is_value f fd) (F_is_between : FE P w K mg base 2 "is_between" ["thing", "least", "most"] M_is_between) : FnOk P w K mg base (L2.CX P w) 3 f fd ["thing"] (spD K mg M_is_value) :=
  have S := S_is_value
  okD (O := []) (b := b_is_value) F S rfl (by decide) fun cdv A outer s H E C =>
  (bC (sIfE (tTr (eIsT G.g_str PyProof.Rows.boot_str is_str G.g_isinstance (ev 0))) (bC (sRt (eCh (g := fun i j => decide (i < j)) (g' := fun i j => decide (i ≤ j)) op_lt op_le eI (eLen G.g_len (ev 0)) (eG G.c_LONGEST)))
  bNil) bNil)
  (bC (sRt (eCall C ⟨F_is_between⟩ (aC (ev 0) (aC eI (aC (eG G.c_GREATEST) aN)))))
  bNil))
abbrev s_is_number : Stmt := top 9
theorem S_is_number : FnScope ["thing"] ["thing"] (defScope s_is_number) := ⟨rfl, rfl, rfl, by decide +kernel, rfl, by decide +kernel, by decide +kernel⟩
theorem ok_is_number (G : GF K mg) (F : Fun K "is_number" "is_number" s_is_number f fd) (F_is_integer : FE P w K mg base 1 "is_integer" ["thing"] M_is_integer) : FnOk P w K mg base (L2.CX P w) 2 f fd ["thing"] (spD K mg M_is_number) :=
  have S := S_is_number
  okD (O := []) (b := b_is_number) F S rfl (by decide) fun cdv A outer s H E C =>
  (bC (sRt (eAnd (eCall C ⟨F_is_integer⟩ (aC (ev 0) aN)) (eOne (eGe (ev 0) eI))))
  bNil)
abbrev s_need_value : Stmt := top 60
theorem S_need_value : FnScope ["thing"] ["thing"] (defScope s_need_value) := ⟨rfl, rfl, rfl, by decide +kernel, rfl, by decide +kernel, by decide +kernel⟩
theorem ok_need_value (G : GF K mg) (F : Fun K "need_value" "need_value" s_need_value f fd) (F_is_value : FE P w K mg base 3 "is_value" ["thing"] M_is_value) (F_is_number : FE P w K mg base 2 "is_number" ["thing"] M_is_number) : FnOk P w K mg base (L2.CX P w) 4 f fd ["thing"] (spD K mg M_need_value) :=
  have S := S_need_value
  okD (O := []) (b := b_need_value) F S rfl (by decide) fun cdv A outer s H E C =>
  (bC (sIfE (wA (tNt (tTr (eCall C ⟨F_is_value⟩ (aC (ev 0) aN)))) (wA1 (tNt (wA (tTr (eCall C ⟨F_is_number⟩ (aC (ev 0) aN))) (wA1 (tEq C.hu (ev 0) eI))).t))).t (bC (sRa C G.x_NoValue.choose_spec)
  bNil) bNil)
  bNil)
abbrev s_bit_of : Stmt := top 37
theorem S_bit_of : FnScope ["key", "depth"] ["key", "depth"] (defScope s_bit_of) := ⟨rfl, rfl, rfl, by decide +kernel, rfl, by decide +kernel, by decide +kernel⟩
theorem ok_bit_of (G : GF K mg) (F : Fun K "bit_of" "bit_of" s_bit_of f fd)  : FnOk P w K mg base (L2.CX P w) 1 f fd ["key", "depth"] (spD K mg M_bit_of) :=
  have S := S_bit_of
  okD (O := []) (b := b_bit_of) F S rfl (by decide) fun cdv A outer s H E C =>
  (bC (sRt (eAnd1 (eShr (ev 0) (eSub (eSub (eG G.c_DEPTH) eI) (ev 1))) eI))
  bNil)
abbrev s_way_to : Stmt := top 54
theorem S_way_to : FnScope ["tree", "key", "found", "here", "side"] ["tree", "key"] (defScope s_way_to) := ⟨rfl, rfl, rfl, by decide +kernel, rfl, by decide +kernel, by decide +kernel⟩
theorem ok_way_to (G : GF K mg) (F : Fun K "way_to" "way_to" s_way_to f fd) (F_bit_of : FE P w K mg base 1 "bit_of" ["key", "depth"] M_bit_of) : FnOk P w K mg base (L2.CX P w) 2 f fd ["tree", "key"] (spD K mg M_way_to) :=
  have S := S_way_to
  okD (O := [2]) (b := b_way_to) F S rfl (by decide) fun cdv A outer s H E C =>
  (bC (sO 2 S.nd (nLst aN))
  (bC (sN 3 S.nd (ev 0))
  (bC (whL C.po (tEq C.hu (eIx C.hu (ev 3) eI) eS) (bC (sN 4 S.nd (eCall C ⟨F_bit_of⟩ (aC (ev 1) (aC (eLen G.g_len (eo 2).zero) aN))))
  (bC (sAp 2 (eTup (aC (ev 3) (aC (ev 4) aN))))
  (bC (sN 3 S.nd (eIx C.hu (ev 3) (eAdd eI (ev 4))))
  bNil))))
  (bC (sRt (eTup0 (aC (eo 2).zero (aC (ev 3) aN))))
  bNil))))
abbrev s_many_in : Stmt := top 38
theorem S_many_in : FnScope ["node"] ["node"] (defScope s_many_in) := ⟨rfl, rfl, rfl, by decide +kernel, rfl, by decide +kernel, by decide +kernel⟩
theorem ok_many_in (G : GF K mg) (F : Fun K "many_in" "many_in" s_many_in f fd)  : FnOk P w K mg base (L2.CX P w) 1 f fd ["node"] (spD K mg M_many_in) :=
  have S := S_many_in
  okD (O := []) (b := b_many_in) F S rfl (by decide) fun cdv A outer s H E C =>
  (bC (sIfE (tEq C.hu (eIx C.hu (ev 0) eI) eS) (bC (sRt eI)
  bNil) bNil)
  (bC (sIfE (tIn C.hu (eIx C.hu (ev 0) eI) (eTup (aC eS (aC eS aN)))) (bC (sRt eI)
  bNil) bNil)
  (bC (sRt (eIf (tEq C.hu (eIx C.hu (ev 0) eI) eS) (eIx C.hu (ev 0) eI) (eIx C.hu (ev 0) eI)))
  bNil)))
abbrev s_fork_of : Stmt := top 58
theorem S_fork_of : FnScope ["left", "right"] ["left", "right"] (defScope s_fork_of) := ⟨rfl, rfl, rfl, by decide +kernel, rfl, by decide +kernel, by decide +kernel⟩
theorem ok_fork_of (G : GF K mg) (F : Fun K "fork_of" "fork_of" s_fork_of f fd) (F_many_in : FE P w K mg base 1 "many_in" ["node"] M_many_in) : FnOk P w K mg base (L2.CX P w) 2 f fd ["left", "right"] (spD K mg M_fork_of) :=
  have S := S_fork_of
  okD (O := []) (b := b_fork_of) F S rfl (by decide) fun cdv A outer s H E C =>
  (bC (sRt (eTup (aC eS (aC (eAdd (eCall C ⟨F_many_in⟩ (aC (ev 0) aN)) (eCall C ⟨F_many_in⟩ (aC (ev 1) aN))) (aC (ev 0) (aC (ev 1) aN))))))
  bNil)
abbrev s_with_leaf : Stmt := top 57
theorem S_with_leaf : FnScope ["end", "depth", "leaf", "turn", "here", "at"] ["end", "depth", "leaf"] (defScope s_with_leaf) := ⟨rfl, rfl, rfl, by decide +kernel, rfl, by decide +kernel, by decide +kernel⟩
theorem ok_with_leaf (G : GF K mg) (F : Fun K "with_leaf" "with_leaf" s_with_leaf f fd) (F_bit_of : FE P w K mg base 1 "bit_of" ["key", "depth"] M_bit_of) (F_fork_of : FE P w K mg base 2 "fork_of" ["left", "right"] M_fork_of) : FnOk P w K mg base (L2.CX P w) 3 f fd ["end", "depth", "leaf"] (spD K mg M_with_leaf) :=
  have S := S_with_leaf
  okD (O := []) (b := b_with_leaf) F S rfl (by decide) fun cdv A outer s H E C =>
  (bC (sIfE (tEq C.hu (eIx C.hu (ev 0) eI) eS) (bC (sRt (ev 2))
  bNil) bNil)
  (bC (sN 3 S.nd (ev 1))
  (bC (whL C.po (tEq C.hu (eCall C ⟨F_bit_of⟩ (aC (eIx C.hu (ev 0) eI) (aC (ev 3) aN))) (eCall C ⟨F_bit_of⟩ (aC (eIx C.hu (ev 2) eI) (aC (ev 3) aN)))) (bC (sAu 3 S.nd ip_add eI)
  bNil))
  (bC (sN 4 S.nd (eIf (tEq C.hu (eCall C ⟨F_bit_of⟩ (aC (eIx C.hu (ev 2) eI) (aC (ev 3) aN))) eI) (eCall C ⟨F_fork_of⟩ (aC (ev 2) (aC (ev 0) aN))) (eCall C ⟨F_fork_of⟩ (aC (ev 0) (aC (ev 2) aN)))))
  (bC (foL C.po C.calm (iR3 G.g_range (eSub (ev 3) eI) (eSub (ev 1) eI) (eNeg eI)) (gxN 5 S.nd) (bC (sN 4 S.nd (eIf (tEq C.hu (eCall C ⟨F_bit_of⟩ (aC (eIx C.hu (ev 2) eI) (aC (ev 5) aN))) eI) (eCall C ⟨F_fork_of⟩ (aC (ev 4) (aC (eGT G.c_NONE) aN))) (eCall C ⟨F_fork_of⟩ (aC (eGT G.c_NONE) (aC (ev 4) aN)))))
  bNil))
  (bC (sRt (ev 4))
  bNil))))))
abbrev s_joined : Stmt := top 39
theorem S_joined : FnScope ["left", "right", "many"] ["left", "right"] (defScope s_joined) := ⟨rfl, rfl, rfl, by decide +kernel, rfl, by decide +kernel, by decide +kernel⟩
theorem ok_joined (G : GF K mg) (F : Fun K "joined" "joined" s_joined f fd) (F_many_in : FE P w K mg base 1 "many_in" ["node"] M_many_in) : FnOk P w K mg base (L2.CX P w) 2 f fd ["left", "right"] (spD K mg M_joined) :=
  have S := S_joined
  okD (O := []) (b := b_joined) F S rfl (by decide) fun cdv A outer s H E C =>
  (bC (sN 2 S.nd (eAdd (eCall C ⟨F_many_in⟩ (aC (ev 0) aN)) (eCall C ⟨F_many_in⟩ (aC (ev 1) aN))))
  (bC (sIfE (tEq C.hu (ev 2) eI) (bC (sRt (eGT G.c_NONE))
  bNil) bNil)
  (bC (sIfE (tEq C.hu (ev 2) eI) (bC (sRt (eIf (tEq C.hu (eCall C ⟨F_many_in⟩ (aC (ev 0) aN)) eI) (ev 0) (ev 1)))
  bNil) bNil)
  (bC (sRt (eTup (aC eS (aC (ev 2) (aC (ev 0) (aC (ev 1) aN))))))
  bNil))))
abbrev s_changed_at : Stmt := top 59
theorem S_changed_at : FnScope ["tree", "key", "value", "way", "end", "mine", "here", "fork", "side"] ["tree", "key", "value"] (defScope s_changed_at) := ⟨rfl, rfl, rfl, by decide +kernel, rfl, by decide +kernel, by decide +kernel⟩
theorem ok_changed_at (G : GF K mg) (F : Fun K "changed_at" "changed_at" s_changed_at f fd) (F_way_to : FE P w K mg base 2 "way_to" ["tree", "key"] M_way_to) (F_with_leaf : FE P w K mg base 3 "with_leaf" ["end", "depth", "leaf"] M_with_leaf) (F_joined : FE P w K mg base 2 "joined" ["left", "right"] M_joined) (O_Missing : XO P w K mg base "Missing" ["key"]) : FnOk P w K mg base (L2.CX P w) 4 f fd ["tree", "key", "value"] (spD K mg M_changed_at) :=
  have S := S_changed_at
  okD (O := []) (b := b_changed_at) F S rfl (by decide) fun cdv A outer s H E C =>
  (bC (sT (eCall C ⟨F_way_to⟩ (aC (ev 0) (aC (ev 1) aN))) (gxT C.calm (tnC 3 S.nd (tnC 4 S.nd tnN))))
  (bC (sIfE (tEq C.hu (eIx C.hu (ev 4) eI) eS) (bC (sRaO C O_Missing (aC (ev 1) aN))
  bNil) bNil)
  (bC (sN 5 S.nd (eAnd (eNe C.hu (eIx C.hu (ev 4) eI) eS) (eOne (eEq C.hu (eIx C.hu (ev 4) eI) (ev 1)))))
  (bC (sIfE (wA (tEq C.hu (ev 2) eI) (wA1 (tNt (tTr (ev 5))))).t (bC (sRt (ev 0))
  bNil) bNil)
  (bC (sIfE (tEq C.hu (ev 2) eI) (bC (sN 6 S.nd (eGT G.c_NONE))
  bNil) (bC (sIfE (tTr (ev 5)) (bC (sN 6 S.nd (eTup (aC eS (aC (ev 1) (aC (ev 2) aN)))))
  bNil) (bC (sN 6 S.nd (eCall C ⟨F_with_leaf⟩ (aC (ev 4) (aC (eLen G.g_len (ev 3)) (aC (eTup (aC eS (aC (ev 1) (aC (ev 2) aN)))) aN)))))
  bNil))
  bNil))
  (bC (foL C.po C.calm (iL (eRev (ev 3))) (gxT C.calm (tnC 7 S.nd (tnC 8 S.nd tnN))) (bC (sN 6 S.nd (eIf (tEq C.hu (ev 8) eI) (eCall C ⟨F_joined⟩ (aC (ev 6) (aC (eIx C.hu (ev 7) eI) aN))) (eCall C ⟨F_joined⟩ (aC (eIx C.hu (ev 7) eI) (aC (ev 6) aN)))))
  bNil))
  (bC (sRt (ev 6))
  bNil)))))))
abbrev s_tree_of : Stmt := top 64
theorem S_tree_of : FnScope ["pairs", "found", "key", "value"] ["pairs"] (defScope s_tree_of) := ⟨rfl, rfl, rfl, by decide +kernel, rfl, by decide +kernel, by decide +kernel⟩
theorem ok_tree_of (G : GF K mg) (F : Fun K "tree_of" "tree_of" s_tree_of f fd) (F_changed_at : FE P w K mg base 4 "changed_at" ["tree", "key", "value"] M_changed_at) : FnOk P w K mg base (L2.CX P w) 5 f fd ["pairs"] (spD K mg M_tree_of) :=
  have S := S_tree_of
  okD (O := []) (b := b_tree_of) F S rfl (by decide) fun cdv A outer s H E C =>
  (bC (sN 1 S.nd (eGT G.c_NONE))
  (bC (foL C.po C.calm (iL (ev 0)) (gxT C.calm (tnC 2 S.nd (tnC 3 S.nd tnN))) (bC (sN 1 S.nd (eCall C ⟨F_changed_at⟩ (aC (ev 1) (aC (ev 2) (aC (ev 3) aN)))))
  bNil))
  (bC (sRt (ev 1))
  bNil)))
abbrev s_led_tree : Stmt := top 65
theorem S_led_tree : FnScope ["pairs", "pair", "key", "value"] ["pairs"] (defScope s_led_tree) := ⟨rfl, rfl, rfl, by decide +kernel, rfl, by decide +kernel, by decide +kernel⟩
theorem ok_led_tree (G : GF K mg) (F : Fun K "led_tree" "led_tree" s_led_tree f fd) (F_is_tuple_of : FE P w K mg base 1 "is_tuple_of" ["thing", "many"] M_is_tuple_of) (F_need_key : FE P w K mg base 4 "need_key" ["thing"] M_need_key) (F_need_value : FE P w K mg base 4 "need_value" ["thing"] M_need_value) (F_tree_of : FE P w K mg base 5 "tree_of" ["pairs"] M_tree_of) : FnOk P w K mg base (L2.CX P w) 6 f fd ["pairs"] (spD K mg M_led_tree) :=
  have S := S_led_tree
  okD (O := []) (b := b_led_tree) F S rfl (by decide) fun cdv A outer s H E C =>
  (bC (sIfE (wO (tNt (tTr (eIsT G.g_tuple PyProof.Rows.boot_tuple is_tup G.g_isinstance (ev 0)))) (wO1 (tNt (tTr (eAll C.calm G.g_all (eLc (own := [("pair", 1)]) C S.nd (iL (ev 0)) (blkOk_by (by rfl)) (fun _ _ _ _ _ => (gxN 1 S.nd)) (fun _ _ _ _ _ C => q0) (fun _ _ _ _ _ C => (eCall C ⟨F_is_tuple_of⟩ (aC (ev 1) (aC eI aN)))))))))).t (bC (sRa C G.x_NoValue.choose_spec)
  bNil) bNil)
  (bC (foL C.po C.calm (iL (ev 0)) (gxT C.calm (tnC 2 S.nd (tnC 3 S.nd tnN))) (bC (sEx (eCall C ⟨F_need_key⟩ (aC (ev 2) aN)))
  (bC (sEx (eCall C ⟨F_need_value⟩ (aC (ev 3) aN)))
  bNil)))
  (bC (sRt (eCall C ⟨F_tree_of⟩ (aC (ev 0) aN)))
  bNil)))
abbrev s_is_below : Stmt := top 47
theorem S_is_below : FnScope ["place", "key", "depth", "sign"] ["place", "key"] (defScope s_is_below) := ⟨rfl, rfl, rfl, by decide +kernel, rfl, by decide +kernel, by decide +kernel⟩
theorem ok_is_below (G : GF K mg) (F : Fun K "is_below" "is_below" s_is_below f fd) (F_bit_of : FE P w K mg base 1 "bit_of" ["key", "depth"] M_bit_of) : FnOk P w K mg base (L2.CX P w) 2 f fd ["place", "key"] (spD K mg M_is_below) :=
  have S := S_is_below
  okD (O := []) (b := b_is_below) F S rfl (by decide) fun cdv A outer s H E C =>
  (bC (sRt (eAll C.calm G.g_all (eLc (own := [("depth", 2), ("sign", 3)]) C S.nd (iEnS G.g_enumerate (ev 0)) (blkOk_by (by rfl)) (fun _ _ _ _ _ => (gxT C.calm (tnC 2 S.nd (tnC 3 S.nd tnN)))) (fun _ _ _ _ _ C => q0) (fun _ _ _ _ _ C => (eEq C.hu (eStr G.g_str (eCall C ⟨F_bit_of⟩ (aC (ev 1) (aC (ev 2) aN)))) (ev 3))))))
  bNil)
abbrev s_is_node : Stmt := top 46
theorem S_is_node : FnScope ["place", "thing", "least"] ["place", "thing"] (defScope s_is_node) := ⟨rfl, rfl, rfl, by decide +kernel, rfl, by decide +kernel, by decide +kernel⟩
theorem ok_is_node (G : GF K mg) (F : Fun K "is_node" "is_node" s_is_node f fd) (F_is_spot : FE P w K mg base 3 "is_spot" ["thing"] M_is_spot) (F_is_value : FE P w K mg base 3 "is_value" ["thing"] M_is_value) (F_is_below : FE P w K mg base 2 "is_below" ["place", "key"] M_is_below) (F_is_number : FE P w K mg base 2 "is_number" ["thing"] M_is_number) (F_is_between : FE P w K mg base 2 "is_between" ["thing", "least", "most"] M_is_between) : FnOk P w K mg base (L2.CX P w) 4 f fd ["place", "thing"] (spD K mg M_is_node) :=
  have S := S_is_node
  okD (O := []) (b := b_is_node) F S rfl (by decide) fun cdv A outer s H E C =>
  (bC (sIfE (wO (tNt (tTr (eIsT G.g_tuple PyProof.Rows.boot_tuple is_tup G.g_isinstance (ev 1)))) (wO (tEq C.hu (eLen G.g_len (ev 1)) eI) (wO1 (tNt (tTr (eIsT G.g_str PyProof.Rows.boot_str is_str G.g_isinstance (eIx C.hu (ev 1) eI))))))).t (bC (sRt eB)
  bNil) bNil)
  (bC (sIfE (tEq C.hu (eIx C.hu (ev 1) eI) eS) (bC (sRt (eEq C.hu (eLen G.g_len (ev 1)) eI))
  bNil) bNil)
  (bC (sIfE (tEq C.hu (eIx C.hu (ev 1) eI) eS) (bC (sRt (eAnd (eEq C.hu (eLen G.g_len (ev 1)) eI) (eAnd (eCall C ⟨F_is_spot⟩ (aC (eIx C.hu (ev 1) eI) aN)) (eAnd (eCall C ⟨F_is_value⟩ (aC (eIx C.hu (ev 1) eI) aN)) (eOne (eCall C ⟨F_is_below⟩ (aC (ev 0) (aC (eIx C.hu (ev 1) eI) aN))))))))
  bNil) bNil)
  (bC (sIfE (tEq C.hu (eIx C.hu (ev 1) eI) eS) (bC (sRt (eAnd (eEq C.hu (eLen G.g_len (ev 1)) eI) (eAnd (eCall C ⟨F_is_spot⟩ (aC (eIx C.hu (ev 1) eI) aN)) (eAnd (eCall C ⟨F_is_number⟩ (aC (eIx C.hu (ev 1) eI) aN)) (eOne (eCall C ⟨F_is_below⟩ (aC (ev 0) (aC (eIx C.hu (ev 1) eI) aN))))))))
  bNil) bNil)
  (bC (sIfE (tEq C.hu (eIx C.hu (ev 1) eI) eS) (bC (sN 2 S.nd (eIf (tEq C.hu (ev 0) eS) eI eI))
  (bC (sRt (eAnd (eEq C.hu (eLen G.g_len (ev 1)) eI) (eAnd (eCall C ⟨F_is_number⟩ (aC (eIx C.hu (ev 1) eI) aN)) (eOne (eCall C ⟨F_is_between⟩ (aC (eIx C.hu (ev 1) eI) (aC (ev 2) (aC (eShl eI (eSub (eG G.c_DEPTH) (eLen G.g_len (ev 0)))) aN))))))))
  bNil)) bNil)
  (bC (sRt (eAnd (eEq C.hu (eIx C.hu (ev 1) eI) eS) (eAnd (eEq C.hu (eLen G.g_len (ev 1)) eI) (eAnd (eCall C ⟨F_is_number⟩ (aC (eIx C.hu (ev 1) eI) aN)) (eOne (eLt (eLen G.g_len (ev 0)) (eG G.c_DEPTH)))))))
  bNil))))))
abbrev s_is_fork_right : Stmt := top 48
theorem S_is_fork_right : FnScope ["node"] ["node"] (defScope s_is_fork_right) := ⟨rfl, rfl, rfl, by decide +kernel, rfl, by decide +kernel, by decide +kernel⟩
theorem ok_is_fork_right (G : GF K mg) (F : Fun K "is_fork_right" "is_fork_right" s_is_fork_right f fd) (F_many_in : FE P w K mg base 1 "many_in" ["node"] M_many_in) : FnOk P w K mg base (L2.CX P w) 2 f fd ["node"] (spD K mg M_is_fork_right) :=
  have S := S_is_fork_right
  okD (O := []) (b := b_is_fork_right) F S rfl (by decide) fun cdv A outer s H E C =>
  (bC (sRt (eAnd (eGe (eIx C.hu (ev 0) eI) eI) (eOne (eEq C.hu (eIx C.hu (ev 0) eI) (eAdd (eCall C ⟨F_many_in⟩ (aC (eIx C.hu (ev 0) eI) aN)) (eCall C ⟨F_many_in⟩ (aC (eIx C.hu (ev 0) eI) aN)))))))
  bNil)
abbrev s_is_part : Stmt := top 49
theorem S_is_part : FnScope ["place", "thing", "waiting", "forks", "node"] ["place", "thing"] (defScope s_is_part) := ⟨rfl, rfl, rfl, by decide +kernel, rfl, by decide +kernel, by decide +kernel⟩
theorem ok_is_part (G : GF K mg) (F : Fun K "is_part" "is_part" s_is_part f fd) (F_is_node : FE P w K mg base 4 "is_node" ["place", "thing"] M_is_node) (F_is_fork_right : FE P w K mg base 2 "is_fork_right" ["node"] M_is_fork_right) : FnOk P w K mg base (L2.CX P w) 5 f fd ["place", "thing"] (spD K mg M_is_part) :=
  have S := S_is_part
  okD (O := [2, 3]) (b := b_is_part) F S rfl (by decide) fun cdv A outer s H E C =>
  (bC (sO 2 S.nd (nLst (aC (eTup (aC (ev 0) (aC (ev 1) aN))) aN)))
  (bC (sO 3 S.nd (nLst aN))
  (bC (whL C.po (tTr (eo 2).zero) (bC (sPp 2 (gxT C.calm (tnC 0 S.nd (tnC 4 S.nd tnN))))
  (bC (sIfE (tNt (tTr (eCall C ⟨F_is_node⟩ (aC (ev 0) (aC (ev 4) aN))))) (bC (sRt eB)
  bNil) bNil)
  (bC (sIfE (tEq C.hu (eIx C.hu (ev 4) eI) eS) (bC (sAp 3 (ev 4))
  (bC (sExE 2 (eLst (aC (eTup (aC (eAdd (ev 0) eS) (aC (eIx C.hu (ev 4) eI) aN))) (aC (eTup (aC (eAdd (ev 0) eS) (aC (eIx C.hu (ev 4) eI) aN))) aN))))
  bNil)) bNil)
  bNil))))
  (bC (sRt (eAll C.calm G.g_all (eLc (own := [("node", 4)]) C S.nd (iLo (eo 3)) (blkOk_by (by rfl)) (fun _ _ _ _ _ => (gxN 4 S.nd)) (fun _ _ _ _ _ C => q0) (fun _ _ _ _ _ C => (eCall C ⟨F_is_fork_right⟩ (aC (ev 4) aN))))))
  bNil))))
abbrev s_is_tree : Stmt := top 50
theorem S_is_tree : FnScope ["thing"] ["thing"] (defScope s_is_tree) := ⟨rfl, rfl, rfl, by decide +kernel, rfl, by decide +kernel, by decide +kernel⟩
theorem ok_is_tree (G : GF K mg) (F : Fun K "is_tree" "is_tree" s_is_tree f fd) (F_is_part : FE P w K mg base 5 "is_part" ["place", "thing"] M_is_part) : FnOk P w K mg base (L2.CX P w) 6 f fd ["thing"] (spD K mg M_is_tree) :=
  have S := S_is_tree
  okD (O := []) (b := b_is_tree) F S rfl (by decide) fun cdv A outer s H E C =>
  (bC (sRt (eCall C ⟨F_is_part⟩ (aC eS (aC (ev 0) aN))))
  bNil)
abbrev s_need_tree : Stmt := top 51
theorem S_need_tree : FnScope ["thing"] ["thing"] (defScope s_need_tree) := ⟨rfl, rfl, rfl, by decide +kernel, rfl, by decide +kernel, by decide +kernel⟩
theorem ok_need_tree (G : GF K mg) (F : Fun K "need_tree" "need_tree" s_need_tree f fd) (F_is_tree : FE P w K mg base 6 "is_tree" ["thing"] M_is_tree) : FnOk P w K mg base (L2.CX P w) 7 f fd ["thing"] (spD K mg M_need_tree) :=
  have S := S_need_tree
  okD (O := []) (b := b_need_tree) F S rfl (by decide) fun cdv A outer s H E C =>
  (bC (sIfE (tNt (tTr (eCall C ⟨F_is_tree⟩ (aC (ev 0) aN)))) (bC (sRa C G.x_NoTree.choose_spec)
  bNil) bNil)
  bNil)
abbrev s_need_keys : Stmt := top 71
theorem S_need_keys : FnScope ["keys", "key"] ["keys"] (defScope s_need_keys) := ⟨rfl, rfl, rfl, by decide +kernel, rfl, by decide +kernel, by decide +kernel⟩
theorem ok_need_keys (G : GF K mg) (F : Fun K "need_keys" "need_keys" s_need_keys f fd) (F_is_spot : FE P w K mg base 3 "is_spot" ["thing"] M_is_spot) : FnOk P w K mg base (L2.CX P w) 4 f fd ["keys"] (spD K mg M_need_keys) :=
  have S := S_need_keys
  okD (O := []) (b := b_need_keys) F S rfl (by decide) fun cdv A outer s H E C =>
  (bC (sIfE (wO (tNt (tTr (eIsT G.g_tuple PyProof.Rows.boot_tuple is_tup G.g_isinstance (ev 0)))) (wO1 (tNt (tTr (eAll C.calm G.g_all (eLc (own := [("key", 1)]) C S.nd (iL (ev 0)) (blkOk_by (by rfl)) (fun _ _ _ _ _ => (gxN 1 S.nd)) (fun _ _ _ _ _ C => q0) (fun _ _ _ _ _ C => (eCall C ⟨F_is_spot⟩ (aC (ev 1) aN))))))))).t (bC (sRa C G.x_NoKey.choose_spec)
  bNil) bNil)
  bNil)
abbrev s_need_bits : Stmt := top 27
theorem S_need_bits : FnScope ["bits"] ["bits"] (defScope s_need_bits) := ⟨rfl, rfl, rfl, by decide +kernel, rfl, by decide +kernel, by decide +kernel⟩
theorem ok_need_bits (G : GF K mg) (F : Fun K "need_bits" "need_bits" s_need_bits f fd) (F_is_between : FE P w K mg base 2 "is_between" ["thing", "least", "most"] M_is_between) : FnOk P w K mg base (L2.CX P w) 3 f fd ["bits"] (spD K mg M_need_bits) :=
  have S := S_need_bits
  okD (O := []) (b := b_need_bits) F S rfl (by decide) fun cdv A outer s H E C =>
  (bC (sIfE (tNt (tTr (eCall C ⟨F_is_between⟩ (aC (ev 0) (aC (eG G.c_FEWEST_BITS) (aC (eG G.c_MOST_BITS) aN)))))) (bC (sRa C G.x_NoBits.choose_spec)
  bNil) bNil)
  bNil)
abbrev s_is_open : Stmt := top 74
theorem S_is_open : FnScope ["tree", "key", "end"] ["tree", "key"] (defScope s_is_open) := ⟨rfl, rfl, rfl, by decide +kernel, rfl, by decide +kernel, by decide +kernel⟩
theorem ok_is_open (G : GF K mg) (F : Fun K "is_open" "is_open" s_is_open f fd) (F_way_to : FE P w K mg base 2 "way_to" ["tree", "key"] M_way_to) : FnOk P w K mg base (L2.CX P w) 3 f fd ["tree", "key"] (spD K mg M_is_open) :=
  have S := S_is_open
  okD (O := []) (b := b_is_open) F S rfl (by decide) fun cdv A outer s H E C =>
  (bC (sN 2 S.nd (eIx C.hu (eCall C ⟨F_way_to⟩ (aC (ev 0) (aC (ev 1) aN))) eI))
  (bC (sRt (eAnd (eNe C.hu (eIx C.hu (ev 2) eI) eS) (eOne (eNot (eAnd (eEq C.hu (eIx C.hu (ev 2) eI) eS) (eOne (eEq C.hu (eIx C.hu (ev 2) eI) (ev 1))))))))
  bNil))
abbrev s_nodes_under : Stmt := top 40
theorem S_nodes_under : FnScope ["place", "part", "found", "waiting", "node"] ["place", "part"] (defScope s_nodes_under) := ⟨rfl, rfl, rfl, by decide +kernel, rfl, by decide +kernel, by decide +kernel⟩
theorem ok_nodes_under (G : GF K mg) (F : Fun K "nodes_under" "nodes_under" s_nodes_under f fd)  : FnOk P w K mg base (L2.CX P w) 1 f fd ["place", "part"] (spD K mg M_nodes_under) :=
  have S := S_nodes_under
  okD (O := [2, 3]) (b := b_nodes_under) F S rfl (by decide) fun cdv A outer s H E C =>
  (bC (sO 2 S.nd (nLst aN))
  (bC (sO 3 S.nd (nLst (aC (eTup (aC (ev 0) (aC (ev 1) aN))) aN)))
  (bC (whL C.po (tTr (eo 3).zero) (bC (sPp 3 (gxT C.calm (tnC 0 S.nd (tnC 4 S.nd tnN))))
  (bC (sAp 2 (eTup (aC (ev 0) (aC (ev 4) aN))))
  (bC (sIfE (tEq C.hu (eIx C.hu (ev 4) eI) eS) (bC (sExE 3 (eLst (aC (eTup (aC (eAdd (ev 0) eS) (aC (eIx C.hu (ev 4) eI) aN))) (aC (eTup (aC (eAdd (ev 0) eS) (aC (eIx C.hu (ev 4) eI) aN))) aN))))
  bNil) bNil)
  bNil))))
  (bC (sRt (eo 2).zero)
  bNil))))
abbrev s_sum_by : Stmt := top 28
theorem S_sum_by : FnScope ["text", "bits", "found", "whole", "at", "here", "sign", "power"] ["text", "bits"] (defScope s_sum_by) := ⟨rfl, rfl, rfl, by decide +kernel, rfl, by decide +kernel, by decide +kernel⟩
theorem ok_sum_by (G : GF K mg) (F : Fun K "sum_by" "sum_by" s_sum_by f fd)  : FnOk P w K mg base (L2.CX P w) 1 f fd ["text", "bits"] (spD K mg M_sum_by) :=
  have S := S_sum_by
  okD (O := []) (b := b_sum_by) F S rfl (by decide) fun cdv A outer s H E C =>
  (bC (sN 2 S.nd (eG G.c_BEGIN))
  (bC (sN 3 S.nd (eSub (eLen G.g_len (ev 0)) (eMod (eLen G.g_len (ev 0)) (eG G.c_CHUNK))))
  (bC (foL C.po C.calm (iR3 G.g_range eI (ev 3) (eG G.c_CHUNK)) (gxN 4 S.nd) (bC (sN 5 S.nd (eSum C.calm G.g_sum (eLc (own := [("sign", 6), ("power", 7)]) C S.nd (iZipST G.g_zip (eSl (ev 0) (oS (ev 4)) (oS (eAdd (ev 4) (eG G.c_CHUNK)))) (eGT G.c_POWERS)) (blkOk_by (by rfl)) (fun _ _ _ _ _ => (gxT C.calm (tnC 6 S.nd (tnC 7 S.nd tnN)))) (fun _ _ _ _ _ C => q0) (fun _ _ _ _ _ C => (eMul (eOrd G.g_ord (ev 6)) (ev 7))))))
  (bC (sN 2 S.nd (eMod (eAdd (eAdd (eMul (ev 2) (eG G.c_CHUNK_TIMES)) (ev 5)) (eG G.c_CHUNK_PLUS)) (eG G.c_PRIME)))
  bNil)))
  (bC (foL C.po C.calm (iS (eSl (ev 0) (oS (ev 3)) oN)) (gxN 6 S.nd) (bC (sN 2 S.nd (eMod (eAdd (eAdd (eMul (ev 2) (eG G.c_TIMES)) (eG G.c_PLUS)) (eOrd G.g_ord (ev 6))) (eG G.c_PRIME)))
  bNil))
  (bC (sRt (eMod (eFdiv (ev 2) eI) (eShl eI (ev 1))))
  bNil)))))
abbrev s_packed_text : Stmt := top 15
theorem S_packed_text : FnScope ["thing", "left", "found", "here"] ["thing"] (defScope s_packed_text) := ⟨rfl, rfl, rfl, by decide +kernel, rfl, by decide +kernel, by decide +kernel⟩
theorem ok_packed_text (G : GF K mg) (F : Fun K "packed_text" "packed_text" s_packed_text f fd)  : FnOk P w K mg base (L2.CX P w) 1 f fd ["thing"] (spD K mg M_packed_text) :=
  have S := S_packed_text
  okD (O := [1, 2]) (b := b_packed_text) F S rfl (by decide) fun cdv A outer s H E C =>
  (bC (sO 1 S.nd (nLst (aC (ev 0) aN)))
  (bC (sO 2 S.nd (nLst aN))
  (bC (whL C.po (tTr (eo 1).zero) (bC (sPp 1 (gxN 3 S.nd))
  (bC (sIfE (tTr (eIsC G.i_Closer.choose_spec.1 G.i_Closer.choose_spec.2 G.g_isinstance (ev 3))) (bC (sAp 2 eS)
  bNil) (bC (sIfE (tTr (eIsT G.g_tuple PyProof.Rows.boot_tuple is_tup G.g_isinstance (ev 3))) bNv (bC (sIfE (tTr (eIsT G.g_str PyProof.Rows.boot_str is_str G.g_isinstance (ev 3))) (bC (sAp 2 (eAdd (eAdd (eAdd eS (eStr G.g_str (eLen G.g_len (ev 3)))) eS) (ev 3)))
  bNil) (bC (sAp 2 (eAdd (eAdd eS (eStr G.g_str (ev 3))) eS))
  bNil))
  bNil))
  bNil))
  bNil)))
  (bC (sRt (eJoin eS (eo 2).zero))
  bNil))))
abbrev s_value_sum : Stmt := top 42
theorem S_value_sum : FnScope ["node", "bits"] ["node", "bits"] (defScope s_value_sum) := ⟨rfl, rfl, rfl, by decide +kernel, rfl, by decide +kernel, by decide +kernel⟩
theorem ok_value_sum (G : GF K mg) (F : Fun K "value_sum" "value_sum" s_value_sum f fd) (F_sum_by : FE P w K mg base 1 "sum_by" ["text", "bits"] M_sum_by) (F_packed_text : FE P w K mg base 1 "packed_text" ["thing"] M_packed_text) : FnOk P w K mg base (L2.CX P w) 2 f fd ["node", "bits"] (spD K mg M_value_sum) :=
  have S := S_value_sum
  okD (O := []) (b := b_value_sum) F S rfl (by decide) fun cdv A outer s H E C =>
  (bC (sRt (eIf (tEq C.hu (eIx C.hu (ev 0) eI) eS) (eCall C ⟨F_sum_by⟩ (aC (eCall C ⟨F_packed_text⟩ (aC (eIx C.hu (ev 0) eI) aN)) (aC (ev 1) aN))) (eIx C.hu (ev 0) eI)))
  bNil)
abbrev s_node_text : Stmt := top 43
theorem S_node_text : FnScope ["node", "left", "right", "bits", "one"] ["node", "left", "right", "bits"] (defScope s_node_text) := ⟨rfl, rfl, rfl, by decide +kernel, rfl, by decide +kernel, by decide +kernel⟩
theorem ok_node_text (G : GF K mg) (F : Fun K "node_text" "node_text" s_node_text f fd) (F_value_sum : FE P w K mg base 2 "value_sum" ["node", "bits"] M_value_sum) : FnOk P w K mg base (L2.CX P w) 3 f fd ["node", "left", "right", "bits"] (spD K mg M_node_text) :=
  have S := S_node_text
  okD (O := []) (b := b_node_text) F S rfl (by decide) fun cdv A outer s H E C =>
  (bC (sIfE (tEq C.hu (eIx C.hu (ev 0) eI) eS) (bC (sRt eS)
  bNil) bNil)
  (bC (sIfE (tIn C.hu (eIx C.hu (ev 0) eI) (eTup (aC eS (aC eS aN)))) (bC (sRt (eAdd (eAdd (eAdd eS (eStr G.g_str (eIx C.hu (ev 0) eI))) eS) (eStr G.g_str (eCall C ⟨F_value_sum⟩ (aC (ev 0) (aC (ev 3) aN))))))
  bNil) bNil)
  (bC (sRt (eAdd eS (eJoin eS (eLc (own := [("one", 4)]) C S.nd (iL (eAdd (ev 1) (ev 2))) (blkOk_by (by rfl)) (fun _ _ _ _ _ => (gxN 4 S.nd)) (fun _ _ _ _ _ C => q0) (fun _ _ _ _ _ C => (eStr G.g_str (ev 4)))))))
  bNil)))
abbrev s_roots_under : Stmt := top 44
theorem S_roots_under : FnScope ["place", "part", "bits", "found", "node", "text"] ["place", "part", "bits"] (defScope s_roots_under) := ⟨rfl, rfl, rfl, by decide +kernel, rfl, by decide +kernel, by decide +kernel⟩
theorem ok_roots_under (G : GF K mg) (F : Fun K "roots_under" "roots_under" s_roots_under f fd) (F_nodes_under : FE P w K mg base 1 "nodes_under" ["place", "part"] M_nodes_under) (F_node_text : FE P w K mg base 3 "node_text" ["node", "left", "right", "bits"] M_node_text) (F_sum_by : FE P w K mg base 1 "sum_by" ["text", "bits"] M_sum_by) (F_many_in : FE P w K mg base 1 "many_in" ["node"] M_many_in) : FnOk P w K mg base (L2.CX P w) 4 f fd ["place", "part", "bits"] (spD K mg M_roots_under) :=
  have S := S_roots_under
  okD (O := [3]) (b := b_roots_under) F S rfl (by decide) fun cdv A outer s H E C =>
  (bC (sO 3 S.nd nD0)
  (bC (foL C.po C.calm (iL (eRev (eCall C ⟨F_nodes_under⟩ (aC (ev 0) (aC (ev 1) aN))))) (gxT C.calm (tnC 0 S.nd (tnC 4 S.nd tnN))) (bC (sIfE (tEq C.hu (eIx C.hu (ev 4) eI) eS) (bC (sPu 3 C.hu1 (eTup (aC (eIx C.hu (ev 4) eI) (aC (eIx C.hu (ev 4) eI) aN))) (ev 0))
  bNil) (bC (sN 5 S.nd (eCall C ⟨F_node_text⟩ (aC (ev 4) (aC (eGet1 C.hu1 (eo 3) (eAdd (ev 0) eS) ⟨rfl, rfl, rfl, rfl⟩) (aC (eGet1 C.hu1 (eo 3) (eAdd (ev 0) eS) ⟨rfl, rfl, rfl, rfl⟩) (aC (ev 2) aN))))))
  (bC (sPu 3 C.hu1 (eTup (aC (eCall C ⟨F_sum_by⟩ (aC (ev 5) (aC (ev 2) aN))) (aC (eCall C ⟨F_many_in⟩ (aC (ev 4) aN)) aN))) (ev 0))
  bNil)))
  bNil))
  (bC (sRt (eo 3).zero)
  bNil)))
abbrev s_roots_of : Stmt := top 45
theorem S_roots_of : FnScope ["tree", "bits"] ["tree", "bits"] (defScope s_roots_of) := ⟨rfl, rfl, rfl, by decide +kernel, rfl, by decide +kernel, by decide +kernel⟩
theorem ok_roots_of (G : GF K mg) (F : Fun K "roots_of" "roots_of" s_roots_of f fd) (F_roots_under : FE P w K mg base 4 "roots_under" ["place", "part", "bits"] M_roots_under) : FnOk P w K mg base (L2.CX P w) 5 f fd ["tree", "bits"] (spD K mg M_roots_of) :=
  have S := S_roots_of
  okD (O := []) (b := b_roots_of) F S rfl (by decide) fun cdv A outer s H E C =>
  (bC (sRt (eCall C ⟨F_roots_under⟩ (aC eS (aC (ev 0) (aC (ev 1) aN)))))
  bNil)
abbrev s_nodes_of : Stmt := top 41
theorem S_nodes_of : FnScope ["tree"] ["tree"] (defScope s_nodes_of) := ⟨rfl, rfl, rfl, by decide +kernel, rfl, by decide +kernel, by decide +kernel⟩
theorem ok_nodes_of (G : GF K mg) (F : Fun K "nodes_of" "nodes_of" s_nodes_of f fd) (F_nodes_under : FE P w K mg base 1 "nodes_under" ["place", "part"] M_nodes_under) : FnOk P w K mg base (L2.CX P w) 2 f fd ["tree"] (spD K mg M_nodes_of) :=
  have S := S_nodes_of
  okD (O := []) (b := b_nodes_of) F S rfl (by decide) fun cdv A outer s H E C =>
  (bC (sRt (eCall C ⟨F_nodes_under⟩ (aC eS (aC (ev 0) aN))))
  bNil)
abbrev s_closed : Stmt := top 70
theorem S_closed : FnScope ["node", "root", "bits"] ["node", "root", "bits"] (defScope s_closed) := ⟨rfl, rfl, rfl, by decide +kernel, rfl, by decide +kernel, by decide +kernel⟩
theorem ok_closed (G : GF K mg) (F : Fun K "closed" "closed" s_closed f fd) (F_value_sum : FE P w K mg base 2 "value_sum" ["node", "bits"] M_value_sum) : FnOk P w K mg base (L2.CX P w) 3 f fd ["node", "root", "bits"] (spD K mg M_closed) :=
  have S := S_closed
  okD (O := []) (b := b_closed) F S rfl (by decide) fun cdv A outer s H E C =>
  (bC (sRt (eIf (tIn C.hu (eIx C.hu (ev 0) eI) (eTup (aC eS (aC eS aN)))) (eTup (aC eS (aC (eIx C.hu (ev 0) eI) (aC (eCall C ⟨F_value_sum⟩ (aC (ev 0) (aC (ev 2) aN))) aN)))) (eAdd (eTup (aC eS aN)) (ev 1))))
  bNil)
abbrev s_rebuilt : Stmt := top 68
theorem S_rebuilt : FnScope ["tree", "kept", "found", "place", "node"] ["tree", "kept"] (defScope s_rebuilt) := ⟨rfl, rfl, rfl, by decide +kernel, rfl, by decide +kernel, by decide +kernel⟩
theorem ok_rebuilt (G : GF K mg) (F : Fun K "rebuilt" "rebuilt" s_rebuilt f fd) (F_nodes_of : FE P w K mg base 2 "nodes_of" ["tree"] M_nodes_of) : FnOk P w K mg base (L2.CX P w) 3 f fd ["tree", "kept"] (spD K mg M_rebuilt) :=
  have S := S_rebuilt
  okD (O := [2]) (b := b_rebuilt) F S rfl (by decide) fun cdv A outer s H E C =>
  (bC (sO 2 S.nd nD0)
  (bC (foL C.po C.calm (iL (eRev (eCall C ⟨F_nodes_of⟩ (aC (ev 0) aN)))) (gxT C.calm (tnC 3 S.nd (tnC 4 S.nd tnN))) (bC (sIfE (tIn C.hu (ev 3) (ev 1)) (bC (sPu 2 C.hu1 (eIx C.hu (ev 1) (ev 3)) (ev 3))
  bNil) (bC (sIfE (tEq C.hu (eIx C.hu (ev 4) eI) eS) (bC (sPu 2 C.hu1 (eTup (aC eS (aC (eIx C.hu (ev 4) eI) (aC (eIx C.hu (eo 2) (eAdd (ev 3) eS)) (aC (eIx C.hu (eo 2) (eAdd (ev 3) eS)) aN))))) (ev 3))
  bNil) (bC (sPu 2 C.hu1 (ev 4) (ev 3))
  bNil))
  bNil))
  bNil))
  (bC (sRt (eIx C.hu (eo 2) eS))
  bNil)))
abbrev s_cut_away : Stmt := top 69
theorem S_cut_away : FnScope ["tree", "places", "bits", "told", "kept", "place", "node"] ["tree", "places", "bits"] (defScope s_cut_away) := ⟨rfl, rfl, rfl, by decide +kernel, rfl, by decide +kernel, by decide +kernel⟩
theorem ok_cut_away (G : GF K mg) (F : Fun K "cut_away" "cut_away" s_cut_away f fd) (F_roots_of : FE P w K mg base 5 "roots_of" ["tree", "bits"] M_roots_of) (F_nodes_of : FE P w K mg base 2 "nodes_of" ["tree"] M_nodes_of) (F_closed : FE P w K mg base 3 "closed" ["node", "root", "bits"] M_closed) (F_rebuilt : FE P w K mg base 3 "rebuilt" ["tree", "kept"] M_rebuilt) : FnOk P w K mg base (L2.CX P w) 6 f fd ["tree", "places", "bits"] (spD K mg M_cut_away) :=
  have S := S_cut_away
  okD (O := [4]) (b := b_cut_away) F S rfl (by decide) fun cdv A outer s H E C =>
  (bC (sN 3 S.nd (eCall C ⟨F_roots_of⟩ (aC (ev 0) (aC (ev 2) aN))))
  (bC (sO 4 S.nd nD0)
  (bC (foL C.po C.calm (iL (eCall C ⟨F_nodes_of⟩ (aC (ev 0) aN))) (gxT C.calm (tnC 5 S.nd (tnC 6 S.nd tnN))) (bC (sIfE (wA (tNin C.hu (ev 5) (ev 1)) (wA1 (tNe C.hu (eIx C.hu (ev 6) eI) eS))).t (bC (sPu 4 C.hu1 (eCall C ⟨F_closed⟩ (aC (ev 6) (aC (eIx C.hu (ev 3) (ev 5)) (aC (ev 2) aN)))) (ev 5))
  bNil) bNil)
  bNil))
  (bC (sRt (eCall0 C ⟨F_rebuilt⟩ (aC (ev 0) (aC (eo 4).zero aN))))
  bNil))))
abbrev s_places_to : Stmt := top 67
theorem S_places_to : FnScope ["tree", "keys", "found", "key", "place", "way", "end", "_", "side"] ["tree", "keys"] (defScope s_places_to) := ⟨rfl, rfl, rfl, by decide +kernel, rfl, by decide +kernel, by decide +kernel⟩
theorem ok_places_to (G : GF K mg) (F : Fun K "places_to" "places_to" s_places_to f fd) (F_way_to : FE P w K mg base 2 "way_to" ["tree", "key"] M_way_to) : FnOk P w K mg base (L2.CX P w) 3 f fd ["tree", "keys"] (spD K mg M_places_to) :=
  have S := S_places_to
  okD (O := [2]) (b := b_places_to) F S rfl (by decide) fun cdv A outer s H E C =>
  (bC (sO 2 S.nd nD0)
  (bC (foL C.po C.calm (iL (ev 1)) (gxN 3 S.nd) (bC (sN 4 S.nd eS)
  (bC (sT (eCall C ⟨F_way_to⟩ (aC (ev 0) (aC (ev 3) aN))) (gxT C.calm (tnC 5 S.nd (tnC 6 S.nd tnN))))
  (bC (foL C.po C.calm (iL (ev 5)) (gxT C.calm (tnC 7 S.nd (tnC 8 S.nd tnN))) (bC (sPu 2 C.hu1 eB (ev 4))
  (bC (sN 4 S.nd (eAdd (ev 4) (eStr G.g_str (ev 8))))
  bNil)))
  (bC (sIfE (wA (tEq C.hu (eIx C.hu (ev 6) eI) eS) (wA1 (tEq C.hu (eIx C.hu (ev 6) eI) (ev 3)))).t (bC (sPu 2 C.hu1 eB (ev 4))
  bNil) bNil)
  bNil)))))
  (bC (sRt (eo 2).zero)
  bNil)))
abbrev s_witness_for : Stmt := top 73
theorem S_witness_for : FnScope ["tree", "keys", "bits", "key"] ["tree", "keys", "bits"] (defScope s_witness_for) := ⟨rfl, rfl, rfl, by decide +kernel, rfl, by decide +kernel, by decide +kernel⟩
theorem ok_witness_for (G : GF K mg) (F : Fun K "witness_for" "witness_for" s_witness_for f fd) (F_is_open : FE P w K mg base 3 "is_open" ["tree", "key"] M_is_open) (F_cut_away : FE P w K mg base 6 "cut_away" ["tree", "places", "bits"] M_cut_away) (F_places_to : FE P w K mg base 3 "places_to" ["tree", "keys"] M_places_to) (O_Missing : XO P w K mg base "Missing" ["key"]) : FnOk P w K mg base (L2.CX P w) 7 f fd ["tree", "keys", "bits"] (spD K mg M_witness_for) :=
  have S := S_witness_for
  okD (O := []) (b := b_witness_for) F S rfl (by decide) fun cdv A outer s H E C =>
  (bC (foL C.po C.calm (iL (ev 1)) (gxN 3 S.nd) (bC (sIfE (tNt (tTr (eCall C ⟨F_is_open⟩ (aC (ev 0) (aC (ev 3) aN))))) (bC (sRaO C O_Missing (aC (ev 3) aN))
  bNil) bNil)
  bNil))
  (bC (sRt (eCall C ⟨F_cut_away⟩ (aC (ev 0) (aC (eCall C ⟨F_places_to⟩ (aC (ev 0) (aC (ev 1) aN))) (aC (ev 2) aN)))))
  bNil))
abbrev s_cut_for : Stmt := top 72
theorem S_cut_for : FnScope ["tree", "keys", "bits"] ["tree", "keys", "bits"] (defScope s_cut_for) := ⟨rfl, rfl, rfl, by decide +kernel, rfl, by decide +kernel, by decide +kernel⟩
theorem ok_cut_for (G : GF K mg) (F : Fun K "cut_for" "cut_for" s_cut_for f fd) (F_need_tree : FE P w K mg base 7 "need_tree" ["thing"] M_need_tree) (F_need_keys : FE P w K mg base 4 "need_keys" ["keys"] M_need_keys) (F_need_bits : FE P w K mg base 3 "need_bits" ["bits"] M_need_bits) (F_witness_for : FE P w K mg base 7 "witness_for" ["tree", "keys", "bits"] M_witness_for) : FnOk P w K mg base (L2.CX P w) 8 f fd ["tree", "keys", "bits"] (spD K mg M_cut_for) :=
  have S := S_cut_for
  okD (O := []) (b := b_cut_for) F S rfl (by decide) fun cdv A outer s H E C =>
  (bC (sEx (eCall C ⟨F_need_tree⟩ (aC (ev 0) aN)))
  (bC (sEx (eCall C ⟨F_need_keys⟩ (aC (ev 1) aN)))
  (bC (sEx (eCall C ⟨F_need_bits⟩ (aC (ev 2) aN)))
  (bC (sRt (eCall C ⟨F_witness_for⟩ (aC (ev 0) (aC (ev 1) (aC (ev 2) aN)))))
  bNil))))
abbrev s__law_power : Stmt := top 82
theorem S__law_power : FnScope ["many", "found", "step"] ["many"] (defScope s__law_power) := ⟨rfl, rfl, rfl, by decide +kernel, rfl, by decide +kernel, by decide +kernel⟩
theorem ok__law_power (G : GF K mg) (F : Fun K "_law_power" "_law_power" s__law_power f fd)  : FnOk P w K mg base (L2.CX P w) 1 f fd ["many"] (spD K mg M__law_power) :=
  have S := S__law_power
  okD (O := []) (b := b__law_power) F S rfl (by decide) fun cdv A outer s H E C =>
  (bC (sN 1 S.nd eI)
  (bC (foL C.po C.calm (iR1 G.g_range (ev 0)) (gxN 2 S.nd) (bC (sN 1 S.nd (eMul eI (ev 1)))
  bNil))
  (bC (sRt (ev 1))
  bNil)))
abbrev s__law_bit : Stmt := top 89
theorem S__law_bit : FnScope ["spot", "depth"] ["spot", "depth"] (defScope s__law_bit) := ⟨rfl, rfl, rfl, by decide +kernel, rfl, by decide +kernel, by decide +kernel⟩
theorem ok__law_bit (G : GF K mg) (F : Fun K "_law_bit" "_law_bit" s__law_bit f fd) (F__law_power : FE P w K mg base 1 "_law_power" ["many"] M__law_power) : FnOk P w K mg base (L2.CX P w) 2 f fd ["spot", "depth"] (spD K mg M__law_bit) :=
  have S := S__law_bit
  okD (O := []) (b := b__law_bit) F S rfl (by decide) fun cdv A outer s H E C =>
  (bC (sRt (eMod (eInt G.g_int (eFdiv (ev 0) (eCall C ⟨F__law_power⟩ (aC (eSub eI (ev 1)) aN)))) eI))
  bNil)
abbrev s__law_split : Stmt := top 85
theorem S__law_split : FnScope ["pairs", "found", "at", "place", "here", "side", "pair"] ["pairs"] (defScope s__law_split) := ⟨rfl, rfl, rfl, by decide +kernel, rfl, by decide +kernel, by decide +kernel⟩
theorem ok__law_split (G : GF K mg) (F : Fun K "_law_split" "_law_split" s__law_split f fd) (F__law_bit : FE P w K mg base 2 "_law_bit" ["spot", "depth"] M__law_bit) : FnOk P w K mg base (L2.CX P w) 3 f fd ["pairs"] (spD K mg M__law_split) :=
  have S := S__law_split
  okD (O := [1]) (b := b__law_split) F S rfl (by decide) fun cdv A outer s H E C =>
  (bC (sO 1 S.nd (nLst (aC (eTup (aC eS (aC (ev 0) aN))) aN)))
  (bC (sN 2 S.nd eI)
  (bC (whL C.po (tLt (ev 2) (eLen G.g_len (eo 1).zero)) (bC (sT (eIx C.hu (eo 1) (ev 2)) (gxT C.calm (tnC 3 S.nd (tnC 4 S.nd tnN))))
  (bC (sIfE (tGt (eLen G.g_len (ev 4)) eI) (bC (foL C.po C.calm (iR1 G.g_range eI) (gxN 5 S.nd) (bC (sAp 1 (eTup (aC (eAdd (ev 3) (eStr G.g_str (ev 5))) (aC (eLc (own := [("pair", 6)]) C S.nd (iL (ev 4)) (blkOk_by (by rfl)) (fun _ _ _ _ _ => (gxN 6 S.nd)) (fun _ _ _ _ _ C => (q1 (tEq C.hu (eCall C ⟨F__law_bit⟩ (aC (eIx C.hu (ev 6) eI) (aC (eLen G.g_len (ev 3)) aN))) (ev 5)))) (fun _ _ _ _ _ C => (ev 6))) aN))))
  bNil))
  bNil) bNil)
  (bC (sN 2 S.nd (eAdd (ev 2) eI))
  bNil))))
  (bC (sRt (eo 1).zero)
  bNil))))
abbrev s__law_sum : Stmt := top 86
theorem S__law_sum : FnScope ["text", "bits", "found", "sign"] ["text", "bits"] (defScope s__law_sum) := ⟨rfl, rfl, rfl, by decide +kernel, rfl, by decide +kernel, by decide +kernel⟩
theorem ok__law_sum (G : GF K mg) (F : Fun K "_law_sum" "_law_sum" s__law_sum f fd) (F__law_power : FE P w K mg base 1 "_law_power" ["many"] M__law_power) : FnOk P w K mg base (L2.CX P w) 2 f fd ["text", "bits"] (spD K mg M__law_sum) :=
  have S := S__law_sum
  okD (O := []) (b := b__law_sum) F S rfl (by decide) fun cdv A outer s H E C =>
  (bC (sN 2 S.nd eI)
  (bC (foL C.po C.calm (iS (ev 0)) (gxN 3 S.nd) (bC (sN 2 S.nd (eMod (eInt G.g_int (eAdd (eAdd (eMul (ev 2) eI) eI) (eOrd G.g_ord (ev 3)))) eI))
  bNil))
  (bC (sRt (eMod (eInt G.g_int (eFdiv (ev 2) eI)) (eCall C ⟨F__law_power⟩ (aC (ev 1) aN))))
  bNil)))
abbrev s__law_packed : Stmt := top 87
theorem S__law_packed : FnScope ["thing", "left", "found", "here"] ["thing"] (defScope s__law_packed) := ⟨rfl, rfl, rfl, by decide +kernel, rfl, by decide +kernel, by decide +kernel⟩
theorem ok__law_packed (G : GF K mg) (F : Fun K "_law_packed" "_law_packed" s__law_packed f fd)  : FnOk P w K mg base (L2.CX P w) 1 f fd ["thing"] (spD K mg M__law_packed) :=
  have S := S__law_packed
  okD (O := [1, 2]) (b := b__law_packed) F S rfl (by decide) fun cdv A outer s H E C =>
  (bC (sO 1 S.nd (nLst (aC (ev 0) aN)))
  (bC (sO 2 S.nd (nLst aN))
  (bC (whL C.po (tTr (eo 1).zero) (bC (sPp 1 (gxN 3 S.nd))
  (bC (sIfE (tTr (eIsT G.g_list PyProof.Rows.boot_list is_lst G.g_isinstance (ev 3))) (bC (sAp 2 eS)
  bNil) (bC (sIfE (tTr (eIsT G.g_tuple PyProof.Rows.boot_tuple is_tup G.g_isinstance (ev 3))) bNv (bC (sIfE (tTr (eIsT G.g_str PyProof.Rows.boot_str is_str G.g_isinstance (ev 3))) (bC (sAp 2 (eAdd (eAdd (eAdd eS (eStr G.g_str (eLen G.g_len (ev 3)))) eS) (ev 3)))
  bNil) (bC (sAp 2 (eAdd (eAdd eS (eStr G.g_str (ev 3))) eS))
  bNil))
  bNil))
  bNil))
  bNil)))
  (bC (sRt (eJoin eS (eo 2).zero))
  bNil))))
abbrev s__law_node_text : Stmt := top 81
theorem S__law_node_text : FnScope ["place", "here", "told", "bits", "one"] ["place", "here", "told", "bits"] (defScope s__law_node_text) := ⟨rfl, rfl, rfl, by decide +kernel, rfl, by decide +kernel, by decide +kernel⟩
theorem ok__law_node_text (G : GF K mg) (F : Fun K "_law_node_text" "_law_node_text" s__law_node_text f fd) (F__law_sum : FE P w K mg base 2 "_law_sum" ["text", "bits"] M__law_sum) (F__law_packed : FE P w K mg base 1 "_law_packed" ["thing"] M__law_packed) : FnOk P w K mg base (L2.CX P w) 3 f fd ["place", "here", "told", "bits"] (spD K mg M__law_node_text) :=
  have S := S__law_node_text
  okD (O := []) (b := b__law_node_text) F S rfl (by decide) fun cdv A outer s H E C =>
  (bC (sIfE (tNt (tTr (ev 1))) (bC (sRt eS)
  bNil) bNil)
  (bC (sIfE (tEq C.hu (eLen G.g_len (ev 1)) eI) (bC (sRt (eAdd (eAdd (eAdd eS (eStr G.g_str (eIx C.hu (eIx C.hu (ev 1) eI) eI))) eS) (eStr G.g_str (eCall C ⟨F__law_sum⟩ (aC (eCall C ⟨F__law_packed⟩ (aC (eIx C.hu (eIx C.hu (ev 1) eI) eI) aN)) (aC (ev 3) aN))))))
  bNil) bNil)
  (bC (sRt (eAdd eS (eJoin eS (eLc (own := [("one", 4)]) C S.nd (iL (eAdd (eIx C.hu (ev 2) (eAdd (ev 0) eS)) (eIx C.hu (ev 2) (eAdd (ev 0) eS)))) (blkOk_by (by rfl)) (fun _ _ _ _ _ => (gxN 4 S.nd)) (fun _ _ _ _ _ C => q0) (fun _ _ _ _ _ C => (eStr G.g_str (ev 4)))))))
  bNil)))
abbrev s__law_roots : Stmt := top 83
theorem S__law_roots : FnScope ["kept", "bits", "told", "place", "here"] ["kept", "bits"] (defScope s__law_roots) := ⟨rfl, rfl, rfl, by decide +kernel, rfl, by decide +kernel, by decide +kernel⟩
theorem ok__law_roots (G : GF K mg) (F : Fun K "_law_roots" "_law_roots" s__law_roots f fd) (F__law_split : FE P w K mg base 3 "_law_split" ["pairs"] M__law_split) (F__law_sum : FE P w K mg base 2 "_law_sum" ["text", "bits"] M__law_sum) (F__law_node_text : FE P w K mg base 3 "_law_node_text" ["place", "here", "told", "bits"] M__law_node_text) : FnOk P w K mg base (L2.CX P w) 4 f fd ["kept", "bits"] (spD K mg M__law_roots) :=
  have S := S__law_roots
  okD (O := [2]) (b := b__law_roots) F S rfl (by decide) fun cdv A outer s H E C =>
  (bC (sO 2 S.nd nD0)
  (bC (foL C.po C.calm (iL (eRev (eCall C ⟨F__law_split⟩ (aC (eSortedIt C.calm G.g_sorted (ev 0)) aN)))) (gxT C.calm (tnC 3 S.nd (tnC 4 S.nd tnN))) (bC (sPu 2 C.hu1 (eTup (aC (eCall C ⟨F__law_sum⟩ (aC (eCallF C ⟨F__law_node_text⟩ (aC (ev 3) (aC (ev 4) (aC (eo 2).zero (aC (ev 1) aN))))) (aC (ev 1) aN))) (aC (eLen G.g_len (ev 4)) aN))) (ev 3))
  bNil))
  (bC (sRt (eo 2).zero)
  bNil)))
abbrev s__law_spot_text : Stmt := top 84
theorem S__law_spot_text : FnScope ["spot", "depth"] ["spot"] (defScope s__law_spot_text) := ⟨rfl, rfl, rfl, by decide +kernel, rfl, by decide +kernel, by decide +kernel⟩
theorem ok__law_spot_text (G : GF K mg) (F : Fun K "_law_spot_text" "_law_spot_text" s__law_spot_text f fd) (F__law_bit : FE P w K mg base 2 "_law_bit" ["spot", "depth"] M__law_bit) : FnOk P w K mg base (L2.CX P w) 3 f fd ["spot"] (spD K mg M__law_spot_text) :=
  have S := S__law_spot_text
  okD (O := []) (b := b__law_spot_text) F S rfl (by decide) fun cdv A outer s H E C =>
  (bC (sRt (eJoin eS (eLc (own := [("depth", 1)]) C S.nd (iR1 G.g_range eI) (blkOk_by (by rfl)) (fun _ _ _ _ _ => (gxN 1 S.nd)) (fun _ _ _ _ _ C => q0) (fun _ _ _ _ _ C => (eStr G.g_str (eCall C ⟨F__law_bit⟩ (aC (ev 0) (aC (ev 1) aN))))))))
  bNil)
abbrev s__law_cut : Stmt := top 94
theorem S__law_cut : FnScope ["kept", "spots", "bits", "told", "places", "spot", "trees", "place", "here", "near", "one"] ["kept", "spots", "bits"] (defScope s__law_cut) := ⟨rfl, rfl, rfl, by decide +kernel, rfl, by decide +kernel, by decide +kernel⟩
theorem ok__law_cut (G : GF K mg) (F : Fun K "_law_cut" "_law_cut" s__law_cut f fd) (F__law_roots : FE P w K mg base 4 "_law_roots" ["kept", "bits"] M__law_roots) (F__law_spot_text : FE P w K mg base 3 "_law_spot_text" ["spot"] M__law_spot_text) (F__law_split : FE P w K mg base 3 "_law_split" ["pairs"] M__law_split) (F__law_sum : FE P w K mg base 2 "_law_sum" ["text", "bits"] M__law_sum) (F__law_packed : FE P w K mg base 1 "_law_packed" ["thing"] M__law_packed) : FnOk P w K mg base (L2.CX P w) 5 f fd ["kept", "spots", "bits"] (spD K mg M__law_cut) :=
  have S := S__law_cut
  okD (O := [6]) (b := b__law_cut) F S rfl (by decide) fun cdv A outer s H E C =>
  (bC (sN 3 S.nd (eCall C ⟨F__law_roots⟩ (aC (ev 0) (aC (ev 2) aN))))
  (bC (sNL 4 (own := [("spot", 5)]) C S.nd (iL (ev 1)) (blkOk_by (by rfl)) (fun _ _ _ _ _ => (gxN 5 S.nd)) (fun _ _ _ _ _ C => q0) (fun _ _ _ _ _ C => (eCall C ⟨F__law_spot_text⟩ (aC (ev 5) aN))))
  (bC (sO 6 S.nd nD0)
  (bC (foL C.po C.calm (iL (eRev (eCall C ⟨F__law_split⟩ (aC (eSortedIt C.calm G.g_sorted (ev 0)) aN)))) (gxT C.calm (tnC 7 S.nd (tnC 8 S.nd tnN))) (bC (sN 9 S.nd (eAny C.calm G.g_any (eLc (own := [("one", 10)]) C S.nd (iL (ev 4)) (blkOk_by (by rfl)) (fun _ _ _ _ _ => (gxN 10 S.nd)) (fun _ _ _ _ _ C => q0) (fun _ _ _ _ _ C => (eStarts (ev 10) (ev 7))))))
  (bC (sIfE (tNt (tTr (ev 8))) (bC (sPu 6 C.hu1 (eTup (aC eS aN)) (ev 7))
  bNil) (bC (sIfE (wA (tEq C.hu (eLen G.g_len (ev 8)) eI) (wA1 (tIn C.hu (eIx C.hu (eIx C.hu (ev 8) eI) eI) (ev 1)))).t (bC (sPu 6 C.hu1 (eAdd (eTup (aC eS aN)) (eIx C.hu (ev 8) eI)) (ev 7))
  bNil) (bC (sIfE (tEq C.hu (eLen G.g_len (ev 8)) eI) (bC (sPu 6 C.hu1 (eTup (aC eS (aC (eIx C.hu (eIx C.hu (ev 8) eI) eI) (aC (eCall C ⟨F__law_sum⟩ (aC (eCall C ⟨F__law_packed⟩ (aC (eIx C.hu (eIx C.hu (ev 8) eI) eI) aN)) (aC (ev 2) aN))) aN)))) (ev 7))
  bNil) (bC (sIfE (tNt (tTr (ev 9))) (bC (sPu 6 C.hu1 (eAdd (eTup (aC eS aN)) (eIx C.hu (ev 3) (ev 7))) (ev 7))
  bNil) (bC (sPu 6 C.hu1 (eTup (aC eS (aC (eLen G.g_len (ev 8)) (aC (eIx C.hu (eo 6) (eAdd (ev 7) eS)) (aC (eIx C.hu (eo 6) (eAdd (ev 7) eS)) aN))))) (ev 7))
  bNil))
  bNil))
  bNil))
  bNil))
  bNil)))
  (bC (sRt (eIx C.hu (eo 6) eS))
  bNil)))))
abbrev s_root_of : Stmt := top 62
theorem S_root_of : FnScope ["tree", "bits"] ["tree", "bits"] (defScope s_root_of) := ⟨rfl, rfl, rfl, by decide +kernel, rfl, by decide +kernel, by decide +kernel⟩
theorem ok_root_of (G : GF K mg) (F : Fun K "root_of" "root_of" s_root_of f fd) (F_roots_of : FE P w K mg base 5 "roots_of" ["tree", "bits"] M_roots_of) : FnOk P w K mg base (L2.CX P w) 6 f fd ["tree", "bits"] (spD K mg M_root_of) :=
  have S := S_root_of
  okD (O := []) (b := b_root_of) F S rfl (by decide) fun cdv A outer s H E C =>
  (bC (sRt (eIx C.hu (eCall C ⟨F_roots_of⟩ (aC (ev 0) (aC (ev 1) aN))) eS))
  bNil)
abbrev s_root : Stmt := top 63
theorem S_root : FnScope ["tree", "bits"] ["tree", "bits"] (defScope s_root) := ⟨rfl, rfl, rfl, by decide +kernel, rfl, by decide +kernel, by decide +kernel⟩
theorem ok_root (G : GF K mg) (F : Fun K "root" "root" s_root f fd) (F_need_tree : FE P w K mg base 7 "need_tree" ["thing"] M_need_tree) (F_need_bits : FE P w K mg base 3 "need_bits" ["bits"] M_need_bits) (F_root_of : FE P w K mg base 6 "root_of" ["tree", "bits"] M_root_of) : FnOk P w K mg base (L2.CX P w) 8 f fd ["tree", "bits"] (spD K mg M_root) :=
  have S := S_root
  okD (O := []) (b := b_root) F S rfl (by decide) fun cdv A outer s H E C =>
  (bC (sEx (eCall C ⟨F_need_tree⟩ (aC (ev 0) aN)))
  (bC (sEx (eCall C ⟨F_need_bits⟩ (aC (ev 1) aN)))
  (bC (sRt (eCall C ⟨F_root_of⟩ (aC (ev 0) (aC (ev 1) aN))))
  bNil)))
abbrev s_is_closed : Stmt := top 52
theorem S_is_closed : FnScope ["node"] ["node"] (defScope s_is_closed) := ⟨rfl, rfl, rfl, by decide +kernel, rfl, by decide +kernel, by decide +kernel⟩
theorem ok_is_closed (G : GF K mg) (F : Fun K "is_closed" "is_closed" s_is_closed f fd)  : FnOk P w K mg base (L2.CX P w) 1 f fd ["node"] (spD K mg M_is_closed) :=
  have S := S_is_closed
  okD (O := []) (b := b_is_closed) F S rfl (by decide) fun cdv A outer s H E C =>
  (bC (sRt (eIn C.hu (eIx C.hu (ev 0) eI) (eTup (aC eS (aC eS aN)))))
  bNil)
abbrev s_stands_for : Stmt := top 77
theorem S_stands_for : FnScope ["node", "root", "told", "bits"] ["node", "root", "told", "bits"] (defScope s_stands_for) := ⟨rfl, rfl, rfl, by decide +kernel, rfl, by decide +kernel, by decide +kernel⟩
theorem ok_stands_for (G : GF K mg) (F : Fun K "stands_for" "stands_for" s_stands_for f fd) (F_value_sum : FE P w K mg base 2 "value_sum" ["node", "bits"] M_value_sum) : FnOk P w K mg base (L2.CX P w) 3 f fd ["node", "root", "told", "bits"] (spD K mg M_stands_for) :=
  have S := S_stands_for
  okD (O := []) (b := b_stands_for) F S rfl (by decide) fun cdv A outer s H E C =>
  (bC (sIfE (tEq C.hu (eIx C.hu (ev 2) eI) eS) (bC (sRt (eEq C.hu (ev 1) (eSl (ev 2) (oS eI) oN)))
  bNil) bNil)
  (bC (sRt (eAnd (eIn C.hu (eIx C.hu (ev 0) eI) (eTup (aC eS (aC eS aN)))) (eAnd (eEq C.hu (eIx C.hu (ev 0) eI) (eIx C.hu (ev 2) eI)) (eOne (eEq C.hu (eCall C ⟨F_value_sum⟩ (aC (ev 0) (aC (ev 3) aN))) (eIx C.hu (ev 2) eI))))))
  bNil))
abbrev s_alike : Stmt := top 76
theorem S_alike : FnScope ["one", "other"] ["one", "other"] (defScope s_alike) := ⟨rfl, rfl, rfl, by decide +kernel, rfl, by decide +kernel, by decide +kernel⟩
theorem ok_alike (G : GF K mg) (F : Fun K "alike" "alike" s_alike f fd)  : FnOk P w K mg base (L2.CX P w) 1 f fd ["one", "other"] (spD K mg M_alike) :=
  have S := S_alike
  okD (O := []) (b := b_alike) F S rfl (by decide) fun cdv A outer s H E C =>
  (bC (sIfE (wO (tEq C.hu (eIx C.hu (ev 0) eI) eS) (wO1 (tEq C.hu (eIx C.hu (ev 1) eI) eS))).t (bC (sRt (eAnd (eEq C.hu (eIx C.hu (ev 0) eI) (eIx C.hu (ev 1) eI)) (eOne (eEq C.hu (eIx C.hu (ev 0) eI) (eIx C.hu (ev 1) eI)))))
  bNil) bNil)
  (bC (sRt (eEq C.hu (ev 0) (ev 1)))
  bNil))
abbrev s_is_pruning_of : Stmt := top 78
theorem S_is_pruning_of : FnScope ["full", "tree", "bits", "told", "nodes", "place", "node"] ["full", "tree", "bits"] (defScope s_is_pruning_of) := ⟨rfl, rfl, rfl, by decide +kernel, rfl, by decide +kernel, by decide +kernel⟩
theorem ok_is_pruning_of (G : GF K mg) (F : Fun K "is_pruning_of" "is_pruning_of" s_is_pruning_of f fd) (F_roots_of : FE P w K mg base 5 "roots_of" ["tree", "bits"] M_roots_of) (F_nodes_of : FE P w K mg base 2 "nodes_of" ["tree"] M_nodes_of) (F_is_closed : FE P w K mg base 1 "is_closed" ["node"] M_is_closed) (F_stands_for : FE P w K mg base 3 "stands_for" ["node", "root", "told", "bits"] M_stands_for) (F_alike : FE P w K mg base 1 "alike" ["one", "other"] M_alike) : FnOk P w K mg base (L2.CX P w) 6 f fd ["full", "tree", "bits"] (spD K mg M_is_pruning_of) :=
  have S := S_is_pruning_of
  okD (O := []) (b := b_is_pruning_of) F S rfl (by decide) fun cdv A outer s H E C =>
  (bC (sN 3 S.nd (eCall C ⟨F_roots_of⟩ (aC (ev 0) (aC (ev 2) aN))))
  (bC (sN 4 S.nd (eDict C.calm G.g_dict (eCall C ⟨F_nodes_of⟩ (aC (ev 0) aN))))
  (bC (foL C.po C.calm (iL (eCall C ⟨F_nodes_of⟩ (aC (ev 1) aN))) (gxT C.calm (tnC 5 S.nd (tnC 6 S.nd tnN))) (bC (sIfE (tNin C.hu (ev 5) (ev 4)) (bC (sRt eB)
  bNil) bNil)
  (bC (sIfE (tTr (eCall C ⟨F_is_closed⟩ (aC (ev 6) aN))) (bC (sIfE (tNt (tTr (eCall C ⟨F_stands_for⟩ (aC (eIx C.hu (ev 4) (ev 5)) (aC (eIx C.hu (ev 3) (ev 5)) (aC (ev 6) (aC (ev 2) aN))))))) (bC (sRt eB)
  bNil) bNil)
  bNil) (bC (sIfE (tNt (tTr (eCall C ⟨F_alike⟩ (aC (eIx C.hu (ev 4) (ev 5)) (aC (ev 6) aN))))) (bC (sRt eB)
  bNil) bNil)
  bNil))
  bNil)))
  (bC (sRt eB)
  bNil))))
abbrev s_is_pruning : Stmt := top 79
theorem S_is_pruning : FnScope ["full", "tree", "bits"] ["full", "tree", "bits"] (defScope s_is_pruning) := ⟨rfl, rfl, rfl, by decide +kernel, rfl, by decide +kernel, by decide +kernel⟩
theorem ok_is_pruning (G : GF K mg) (F : Fun K "is_pruning" "is_pruning" s_is_pruning f fd) (F_need_tree : FE P w K mg base 7 "need_tree" ["thing"] M_need_tree) (F_need_bits : FE P w K mg base 3 "need_bits" ["bits"] M_need_bits) (F_is_pruning_of : FE P w K mg base 6 "is_pruning_of" ["full", "tree", "bits"] M_is_pruning_of) : FnOk P w K mg base (L2.CX P w) 8 f fd ["full", "tree", "bits"] (spD K mg M_is_pruning) :=
  have S := S_is_pruning
  okD (O := []) (b := b_is_pruning) F S rfl (by decide) fun cdv A outer s H E C =>
  (bC (sEx (eCall C ⟨F_need_tree⟩ (aC (ev 0) aN)))
  (bC (sEx (eCall C ⟨F_need_tree⟩ (aC (ev 1) aN)))
  (bC (sEx (eCall C ⟨F_need_bits⟩ (aC (ev 2) aN)))
  (bC (sRt (eCall C ⟨F_is_pruning_of⟩ (aC (ev 0) (aC (ev 1) (aC (ev 2) aN)))))
  bNil))))
abbrev s__law_end : Stmt := top 96
theorem S__law_end : FnScope ["tree", "spot", "here", "depth"] ["tree", "spot"] (defScope s__law_end) := ⟨rfl, rfl, rfl, by decide +kernel, rfl, by decide +kernel, by decide +kernel⟩
theorem ok__law_end (G : GF K mg) (F : Fun K "_law_end" "_law_end" s__law_end f fd) (F__law_bit : FE P w K mg base 2 "_law_bit" ["spot", "depth"] M__law_bit) : FnOk P w K mg base (L2.CX P w) 3 f fd ["tree", "spot"] (spD K mg M__law_end) :=
  have S := S__law_end
  okD (O := []) (b := b__law_end) F S rfl (by decide) fun cdv A outer s H E C =>
  (bC (sN 2 S.nd (ev 0))
  (bC (foL C.po C.calm (iR1 G.g_range eI) (gxN 3 S.nd) (bC (sIfE (tEq C.hu (eIx C.hu (ev 2) eI) eS) (bC (sN 2 S.nd (eIx C.hu (ev 2) (eAdd eI (eCall C ⟨F__law_bit⟩ (aC (ev 1) (aC (ev 3) aN))))))
  bNil) bNil)
  bNil))
  (bC (sRt (ev 2))
  bNil)))
abbrev s__law_flag : Stmt := top 97
theorem S__law_flag : FnScope ["found", "due"] ["found", "due"] (defScope s__law_flag) := ⟨rfl, rfl, rfl, by decide +kernel, rfl, by decide +kernel, by decide +kernel⟩
theorem ok__law_flag (G : GF K mg) (F : Fun K "_law_flag" "_law_flag" s__law_flag f fd)  : FnOk P w K mg base (L2.CX P w) 1 f fd ["found", "due"] (spD K mg M__law_flag) :=
  have S := S__law_flag
  okD (O := []) (b := b__law_flag) F S rfl (by decide) fun cdv A outer s H E C =>
  (bC (sIfE (tTr (ev 1)) (bC (sRt (eIs (ev 0) eB))
  bNil) bNil)
  (bC (sRt (eIs (ev 0) eB))
  bNil))
abbrev s_opens : Stmt := top 75
theorem S_opens : FnScope ["tree", "key"] ["tree", "key"] (defScope s_opens) := ⟨rfl, rfl, rfl, by decide +kernel, rfl, by decide +kernel, by decide +kernel⟩
theorem ok_opens (G : GF K mg) (F : Fun K "opens" "opens" s_opens f fd) (F_need_tree : FE P w K mg base 7 "need_tree" ["thing"] M_need_tree) (F_is_spot : FE P w K mg base 3 "is_spot" ["thing"] M_is_spot) (F_is_open : FE P w K mg base 3 "is_open" ["tree", "key"] M_is_open) : FnOk P w K mg base (L2.CX P w) 8 f fd ["tree", "key"] (spD K mg M_opens) :=
  have S := S_opens
  okD (O := []) (b := b_opens) F S rfl (by decide) fun cdv A outer s H E C =>
  (bC (sEx (eCall C ⟨F_need_tree⟩ (aC (ev 0) aN)))
  (bC (sIfE (tNt (tTr (eCall C ⟨F_is_spot⟩ (aC (ev 1) aN)))) (bC (sRa C G.x_NoKey.choose_spec)
  bNil) bNil)
  (bC (sRt (eCall C ⟨F_is_open⟩ (aC (ev 0) (aC (ev 1) aN))))
  bNil)))
abbrev s_value_at : Stmt := top 55
theorem S_value_at : FnScope ["tree", "key", "_", "end"] ["tree", "key"] (defScope s_value_at) := ⟨rfl, rfl, rfl, by decide +kernel, rfl, by decide +kernel, by decide +kernel⟩
theorem ok_value_at (G : GF K mg) (F : Fun K "value_at" "value_at" s_value_at f fd) (F_way_to : FE P w K mg base 2 "way_to" ["tree", "key"] M_way_to) (O_Missing : XO P w K mg base "Missing" ["key"]) : FnOk P w K mg base (L2.CX P w) 3 f fd ["tree", "key"] (spD K mg M_value_at) :=
  have S := S_value_at
  okD (O := []) (b := b_value_at) F S rfl (by decide) fun cdv A outer s H E C =>
  (bC (sT (eCall C ⟨F_way_to⟩ (aC (ev 0) (aC (ev 1) aN))) (gxT C.calm (tnC 2 S.nd (tnC 3 S.nd tnN))))
  (bC (sIfE (wO (tEq C.hu (eIx C.hu (ev 3) eI) eS) (wO1 (wA (tEq C.hu (eIx C.hu (ev 3) eI) eS) (wA1 (tEq C.hu (eIx C.hu (ev 3) eI) (ev 1)))).t)).t (bC (sRaO C O_Missing (aC (ev 1) aN))
  bNil) bNil)
  (bC (sRt (eIf (wA (tEq C.hu (eIx C.hu (ev 3) eI) eS) (wA1 (tEq C.hu (eIx C.hu (ev 3) eI) (ev 1)))).t (eIx C.hu (ev 3) eI) eI))
  bNil)))
abbrev s_get : Stmt := top 56
theorem S_get : FnScope ["tree", "key"] ["tree", "key"] (defScope s_get) := ⟨rfl, rfl, rfl, by decide +kernel, rfl, by decide +kernel, by decide +kernel⟩
theorem ok_get (G : GF K mg) (F : Fun K "get" "get" s_get f fd) (F_need_tree : FE P w K mg base 7 "need_tree" ["thing"] M_need_tree) (F_need_key : FE P w K mg base 4 "need_key" ["thing"] M_need_key) (F_value_at : FE P w K mg base 3 "value_at" ["tree", "key"] M_value_at) : FnOk P w K mg base (L2.CX P w) 8 f fd ["tree", "key"] (spD K mg M_get) :=
  have S := S_get
  okD (O := []) (b := b_get) F S rfl (by decide) fun cdv A outer s H E C =>
  (bC (sEx (eCall C ⟨F_need_tree⟩ (aC (ev 0) aN)))
  (bC (sEx (eCall C ⟨F_need_key⟩ (aC (ev 1) aN)))
  (bC (sRt (eCall C ⟨F_value_at⟩ (aC (ev 0) (aC (ev 1) aN))))
  bNil)))
abbrev s_put : Stmt := top 61
theorem S_put : FnScope ["tree", "key", "value"] ["tree", "key", "value"] (defScope s_put) := ⟨rfl, rfl, rfl, by decide +kernel, rfl, by decide +kernel, by decide +kernel⟩
theorem ok_put (G : GF K mg) (F : Fun K "put" "put" s_put f fd) (F_need_tree : FE P w K mg base 7 "need_tree" ["thing"] M_need_tree) (F_need_key : FE P w K mg base 4 "need_key" ["thing"] M_need_key) (F_need_value : FE P w K mg base 4 "need_value" ["thing"] M_need_value) (F_changed_at : FE P w K mg base 4 "changed_at" ["tree", "key", "value"] M_changed_at) : FnOk P w K mg base (L2.CX P w) 8 f fd ["tree", "key", "value"] (spD K mg M_put) :=
  have S := S_put
  okD (O := []) (b := b_put) F S rfl (by decide) fun cdv A outer s H E C =>
  (bC (sEx (eCall C ⟨F_need_tree⟩ (aC (ev 0) aN)))
  (bC (sEx (eCall C ⟨F_need_key⟩ (aC (ev 1) aN)))
  (bC (sEx (eCall C ⟨F_need_value⟩ (aC (ev 2) aN)))
  (bC (sRt (eCall C ⟨F_changed_at⟩ (aC (ev 0) (aC (ev 1) (aC (ev 2) aN)))))
  bNil))))
abbrev s__law_try : Stmt := top 100
theorem S__law_try : FnScope ["tree", "spot", "value", "wrong"] ["tree", "spot", "value"] (defScope s__law_try) := ⟨rfl, rfl, rfl, by decide +kernel, rfl, by decide +kernel, by decide +kernel⟩
theorem ok__law_try (G : GF K mg) (F : Fun K "_law_try" "_law_try" s__law_try f fd) (F_get : FE P w K mg base 8 "get" ["tree", "key"] M_get) (F_put : FE P w K mg base 8 "put" ["tree", "key", "value"] M_put) : FnOk P w K mg base (L2.CX P w) 9 f fd ["tree", "spot", "value"] (spD K mg M__law_try) :=
  have S := S__law_try
  okD (O := []) (b := b__law_try) F S rfl (by decide) fun cdv A outer s H E C =>
  (bC (sTrF C rfl rfl S.nd (i := 3) rfl rfl ⟨rfl, by decide, Or.inl G.L_LedgerError.choose_spec.1⟩ (by decide) (G.L_LedgerError.choose_spec.2 ["Missing", "NoKey", "NoTree", "NoValue"] (by decide)) (fun _ _ _ C => (bC (sIfE (tIs (ev 2) eN) (bC (sRt (eTup (aC eS (aC (eCall C ⟨F_get⟩ (aC (ev 0) (aC (ev 1) aN))) aN))))
  bNil) bNil)
  (bC (sRt (eTup (aC eS (aC (eCall C ⟨F_put⟩ (aC (ev 0) (aC (ev 1) (aC (ev 2) aN)))) aN))))
  bNil))) (fun x => (still_sq (still_if (still_sq still_ret still_nx) still_nx) still_nx)) (fun a oe D d pn x hx hD hE hz hv => (fC (fIf (fXs hE hz hv G.a_Missing.choose_spec.1 (G.a_Missing.choose_spec.2 x.cls hx _ hD) G.g_isinstance rfl) rfl (fun hT => (fC (fRt (fXT (aFC eFS (aFC (eFF hE (G.n_Missing D (by rw [← hT]; exact hD) "key" (by decide)) hz hv rfl) aFN)) (fl_cons (fl_c rfl) (fl_cons fl_f fl_n)))) still_ret
   fNil)) fNil) (still_if (still_sq still_ret still_nx) still_nx)
   fNil)))
  (bC (sRt (eTup (aC eS (aC eN aN))))
  bNil))
abbrev s__law_whole_tree : Stmt := top 98
theorem S__law_whole_tree : FnScope ["kept", "trees", "place", "here"] ["kept"] (defScope s__law_whole_tree) := ⟨rfl, rfl, rfl, by decide +kernel, rfl, by decide +kernel, by decide +kernel⟩
theorem ok__law_whole_tree (G : GF K mg) (F : Fun K "_law_whole_tree" "_law_whole_tree" s__law_whole_tree f fd) (F__law_split : FE P w K mg base 3 "_law_split" ["pairs"] M__law_split) : FnOk P w K mg base (L2.CX P w) 4 f fd ["kept"] (spD K mg M__law_whole_tree) :=
  have S := S__law_whole_tree
  okD (O := [1]) (b := b__law_whole_tree) F S rfl (by decide) fun cdv A outer s H E C =>
  (bC (sO 1 S.nd nD0)
  (bC (foL C.po C.calm (iL (eRev (eCall C ⟨F__law_split⟩ (aC (eSortedIt C.calm G.g_sorted (ev 0)) aN)))) (gxT C.calm (tnC 2 S.nd (tnC 3 S.nd tnN))) (bC (sIfE (tNt (tTr (ev 3))) (bC (sPu 1 C.hu1 (eTup (aC eS aN)) (ev 2))
  bNil) (bC (sIfE (tEq C.hu (eLen G.g_len (ev 3)) eI) (bC (sPu 1 C.hu1 (eAdd (eTup (aC eS aN)) (eIx C.hu (ev 3) eI)) (ev 2))
  bNil) (bC (sPu 1 C.hu1 (eTup (aC eS (aC (eLen G.g_len (ev 3)) (aC (eIx C.hu (eo 1) (eAdd (ev 2) eS)) (aC (eIx C.hu (eo 1) (eAdd (ev 2) eS)) aN))))) (ev 2))
  bNil))
  bNil))
  bNil))
  (bC (sRt (eIx C.hu (eo 1) eS))
  bNil)))
abbrev s__law_root : Stmt := top 99
theorem S__law_root : FnScope ["kept", "bits"] ["kept", "bits"] (defScope s__law_root) := ⟨rfl, rfl, rfl, by decide +kernel, rfl, by decide +kernel, by decide +kernel⟩
theorem ok__law_root (G : GF K mg) (F : Fun K "_law_root" "_law_root" s__law_root f fd) (F__law_roots : FE P w K mg base 4 "_law_roots" ["kept", "bits"] M__law_roots) : FnOk P w K mg base (L2.CX P w) 5 f fd ["kept", "bits"] (spD K mg M__law_root) :=
  have S := S__law_root
  okD (O := []) (b := b__law_root) F S rfl (by decide) fun cdv A outer s H E C =>
  (bC (sRt (eIx C.hu (eCall C ⟨F__law_roots⟩ (aC (ev 0) (aC (ev 1) aN))) eS))
  bNil)
abbrev s_law : Stmt := top 101
theorem S_law : FnScope ["script", "kept", "bits", "spots", "whole", "tree", "there", "digits", "k", "spot", "value", "end", "hidden", "told"] ["script"] (defScope s_law) := ⟨rfl, rfl, rfl, by decide +kernel, rfl, by decide +kernel, by decide +kernel⟩
theorem ok_law (G : GF K mg) (F : Fun K "law" "law" s_law f fd) (F__law_map : FE P w K mg base 3 "_law_map" ["cell", "more", "most"] M__law_map) (F__law_at : FE P w K mg base 1 "_law_at" ["script", "k"] M__law_at) (F__law_bits : FE P w K mg base 3 "_law_bits" ["cell"] M__law_bits) (F__law_spots : FE P w K mg base 3 "_law_spots" ["cell", "kept", "most"] M__law_spots) (F_led_tree : FE P w K mg base 6 "led_tree" ["pairs"] M_led_tree) (F_cut_for : FE P w K mg base 8 "cut_for" ["tree", "keys", "bits"] M_cut_for) (F__law_cut : FE P w K mg base 5 "_law_cut" ["kept", "spots", "bits"] M__law_cut) (F_root : FE P w K mg base 8 "root" ["tree", "bits"] M_root) (F_is_pruning : FE P w K mg base 8 "is_pruning" ["full", "tree", "bits"] M_is_pruning) (F__law_row : FE P w K mg base 2 "_law_row" ["cell", "many", "top"] M__law_row) (F__law_end : FE P w K mg base 3 "_law_end" ["tree", "spot"] M__law_end) (F__law_flag : FE P w K mg base 1 "_law_flag" ["found", "due"] M__law_flag) (F_opens : FE P w K mg base 8 "opens" ["tree", "key"] M_opens) (F__law_try : FE P w K mg base 9 "_law_try" ["tree", "spot", "value"] M__law_try) (F_put : FE P w K mg base 8 "put" ["tree", "key", "value"] M_put) (F__law_whole_tree : FE P w K mg base 4 "_law_whole_tree" ["kept"] M__law_whole_tree) (F__law_root : FE P w K mg base 5 "_law_root" ["kept", "bits"] M__law_root) : FnOk P w K mg base CX0 10 f fd ["script"] (spD0 K mg M_law) :=
  have S := S_law
  okD0 (O := [6]) (b := b_law) F S rfl (by decide) fun cdv A outer s H E C =>
  (bC (sN 1 S.nd (eCall C ⟨F__law_map⟩ (aC (eCall C ⟨F__law_at⟩ (aC (ev 0) (aC eI aN))) (aC (eCall C ⟨F__law_at⟩ (aC (ev 0) (aC eI aN))) (aC eI aN)))))
  (bC (sN 2 S.nd (eCall C ⟨F__law_bits⟩ (aC (eCall C ⟨F__law_at⟩ (aC (ev 0) (aC eI aN))) aN)))
  (bC (sN 3 S.nd (eCall C ⟨F__law_spots⟩ (aC (eCall C ⟨F__law_at⟩ (aC (ev 0) (aC eI aN))) (aC (ev 1) (aC eI aN)))))
  (bC (sN 4 S.nd (eCall C ⟨F_led_tree⟩ (aC (eTuple G.g_tuple (eSortedIt C.calm G.g_sorted (ev 1))) aN)))
  (bC (sN 5 S.nd (eCall C ⟨F_cut_for⟩ (aC (ev 4) (aC (ev 3) (aC (ev 2) aN)))))
  (bC (sIfE (wO (tNe C.hu (ev 5) (eCall C ⟨F__law_cut⟩ (aC (ev 1) (aC (ev 3) (aC (ev 2) aN))))) (wO (tNe C.hu (eCall C ⟨F_root⟩ (aC (ev 5) (aC (ev 2) aN))) (eCall C ⟨F_root⟩ (aC (ev 4) (aC (ev 2) aN)))) (wO1 (tIsN (eCall C ⟨F_is_pruning⟩ (aC (ev 4) (aC (ev 5) (aC (ev 2) aN)))) eB)))).t (bC (sRt eB)
  bNil) bNil)
  (bC (sO 6 S.nd (nDict C.calm G.g_dict (ev 1)))
  (bC (sN 7 S.nd (eCall C ⟨F__law_row⟩ (aC (eCall C ⟨F__law_at⟩ (aC (ev 0) (aC eI aN))) (aC eI (aC eI aN)))))
  (bC (foL C.po C.calm (iR1 G.g_range eI) (gxN 8 S.nd) (bC (sN 9 S.nd (eIx C.hu (ev 7) (eMul eI (ev 8))))
  (bC (sIfE (wA (tTr (ev 3)) (wA1 (tGt (eMod (eIx C.hu (ev 7) (eMul eI (ev 8))) eI) eI))).t (bC (sN 9 S.nd (eIx C.hu (ev 3) (eMod (eIx C.hu (ev 7) (eMul eI (ev 8))) (eLen G.g_len (ev 3)))))
  bNil) bNil)
  (bC (sN 10 S.nd (eIx C.hu (eLst (aC eN (aC eI (aC (eAdd eI (eIx C.hu (ev 7) (eAdd (eMul eI (ev 8)) eI))) aN)))) (eMod (eIx C.hu (ev 7) (eAdd (eMul eI (ev 8)) eI)) eI)))
  (bC (sN 11 S.nd (eCall C ⟨F__law_end⟩ (aC (ev 5) (aC (ev 9) aN))))
  (bC (sN 12 S.nd (eOr (eEq C.hu (eIx C.hu (ev 11) eI) eS) (eOne (eEq C.hu (eSl (ev 11) oN (oS eI)) (eTup (aC eS (aC (ev 9) aN)))))))
  (bC (sIfE (tNt (tTr (eCall C ⟨F__law_flag⟩ (aC (eCall C ⟨F_opens⟩ (aC (ev 5) (aC (ev 9) aN))) (aC (eNot (ev 12)) aN))))) (bC (sRt eB)
  bNil) bNil)
  (bC (sN 13 S.nd (eCall C ⟨F__law_try⟩ (aC (ev 5) (aC (ev 9) (aC (ev 10) aN)))))
  (bC (sIfE (wO (tEq C.hu (eIx C.hu (ev 11) eI) eS) (wO1 (wA (tTr (ev 12)) (wA1 (tIs (ev 10) eN))).t)).t (bC (sIfE (wO (tNe C.hu (ev 13) (eTup (aC eS (aC (ev 9) aN)))) (wO1 (tIn C.hu (ev 9) (ev 3)))).t (bC (sRt eB)
  bNil) bNil)
  bNil) (bC (sIfE (tIs (ev 10) eN) (bC (sIfE (tNe C.hu (ev 13) (eTup (aC eS (aC (eGet2 C.hu1 (eo 6) (ev 9) eI ⟨rfl, rfl, rfl, rfl⟩) aN)))) (bC (sRt eB)
  bNil) bNil)
  bNil) (bC (sIfE (tNe C.hu (eIx C.hu (ev 13) eI) eS) (bC (sRt eB)
  bNil) bNil)
  (bC (sPu 6 C.hu1 (ev 10) (ev 9))
  (bC (sIfE (tEq C.hu (ev 10) eI) (bC (sDe 6 (ev 9) ⟨rfl, rfl, rfl, rfl⟩)
  bNil) bNil)
  (bC (sN 5 S.nd (eIx C.hu (ev 13) eI))
  (bC (sN 4 S.nd (eCall C ⟨F_put⟩ (aC (ev 4) (aC (ev 9) (aC (ev 10) aN)))))
  (bC (sIfE (wO (tNe C.hu (ev 4) (eCall0 C ⟨F__law_whole_tree⟩ (aC (eo 6).zero aN))) (wO1 (tNe C.hu (eCall C ⟨F_root⟩ (aC (ev 5) (aC (ev 2) aN))) (eCall0 C ⟨F__law_root⟩ (aC (eo 6).zero (aC (ev 2) aN)))))).t (bC (sRt eB)
  bNil) bNil)
  (bC (sIfE (tIsN (eCall C ⟨F_is_pruning⟩ (aC (ev 4) (aC (ev 5) (aC (ev 2) aN)))) eB) (bC (sRt eB)
  bNil) bNil)
  bNil))))))))
  bNil))
  bNil)))))))))
  (bC (sRt (eEq C.hu (eCall C ⟨F__law_try⟩ (aC (ev 4) (aC eI (aC eN aN)))) (eTup (aC eS (aC (eGet2 C.hu1 (eo 6) eI eI ⟨rfl, rfl, rfl, rfl⟩) aN)))))
  bNil))))))))))
end
end K49
set_option maxHeartbeats 0
namespace K49
open PySem PySem.Spec L2 DL
/-! the head -/
def d__law_mixed : He.DefD := ⟨("_law_mixed", none), "_law_mixed", "_law_mixed", defArgs s__law_mixed, defBody s__law_mixed, defScope s__law_mixed, [], []⟩
def d__law_row : He.DefD := ⟨("_law_row", none), "_law_row", "_law_row", defArgs s__law_row, defBody s__law_row, defScope s__law_row, [], []⟩
def d__law_map : He.DefD := ⟨("_law_map", none), "_law_map", "_law_map", defArgs s__law_map, defBody s__law_map, defScope s__law_map, [], []⟩
def d__law_at : He.DefD := ⟨("_law_at", none), "_law_at", "_law_at", defArgs s__law_at, defBody s__law_at, defScope s__law_at, [], []⟩
def d__law_bits : He.DefD := ⟨("_law_bits", none), "_law_bits", "_law_bits", defArgs s__law_bits, defBody s__law_bits, defScope s__law_bits, [], []⟩
def d__law_spots : He.DefD := ⟨("_law_spots", none), "_law_spots", "_law_spots", defArgs s__law_spots, defBody s__law_spots, defScope s__law_spots, [], []⟩
def d_is_tuple_of : He.DefD := ⟨("is_tuple_of", none), "is_tuple_of", "is_tuple_of", defArgs s_is_tuple_of, defBody s_is_tuple_of, defScope s_is_tuple_of, [], []⟩
def d_is_integer : He.DefD := ⟨("is_integer", none), "is_integer", "is_integer", defArgs s_is_integer, defBody s_is_integer, defScope s_is_integer, [], []⟩
def d_is_under : He.DefD := ⟨("is_under", none), "is_under", "is_under", defArgs s_is_under, defBody s_is_under, defScope s_is_under, [], []⟩
def d_is_spot : He.DefD := ⟨("is_spot", none), "is_spot", "is_spot", defArgs s_is_spot, defBody s_is_spot, defScope s_is_spot, [], []⟩
def d_need_key : He.DefD := ⟨("need_key", none), "need_key", "need_key", defArgs s_need_key, defBody s_need_key, defScope s_need_key, [], []⟩
def d_is_between : He.DefD := ⟨("is_between", none), "is_between", "is_between", defArgs s_is_between, defBody s_is_between, defScope s_is_between, [], []⟩
def d_is_value : He.DefD := ⟨("is_value", none), "is_value", "is_value", defArgs s_is_value, defBody s_is_value, defScope s_is_value, [], []⟩
def d_is_number : He.DefD := ⟨("is_number", none), "is_number", "is_number", defArgs s_is_number, defBody s_is_number, defScope s_is_number, [], []⟩
def d_need_value : He.DefD := ⟨("need_value", none), "need_value", "need_value", defArgs s_need_value, defBody s_need_value, defScope s_need_value, [], []⟩
def d_bit_of : He.DefD := ⟨("bit_of", none), "bit_of", "bit_of", defArgs s_bit_of, defBody s_bit_of, defScope s_bit_of, [], []⟩
def d_way_to : He.DefD := ⟨("way_to", none), "way_to", "way_to", defArgs s_way_to, defBody s_way_to, defScope s_way_to, [], []⟩
def d_many_in : He.DefD := ⟨("many_in", none), "many_in", "many_in", defArgs s_many_in, defBody s_many_in, defScope s_many_in, [], []⟩
def d_fork_of : He.DefD := ⟨("fork_of", none), "fork_of", "fork_of", defArgs s_fork_of, defBody s_fork_of, defScope s_fork_of, [], []⟩
def d_with_leaf : He.DefD := ⟨("with_leaf", none), "with_leaf", "with_leaf", defArgs s_with_leaf, defBody s_with_leaf, defScope s_with_leaf, [], []⟩
def d_joined : He.DefD := ⟨("joined", none), "joined", "joined", defArgs s_joined, defBody s_joined, defScope s_joined, [], []⟩
def d_changed_at : He.DefD := ⟨("changed_at", none), "changed_at", "changed_at", defArgs s_changed_at, defBody s_changed_at, defScope s_changed_at, [], []⟩
def d_tree_of : He.DefD := ⟨("tree_of", none), "tree_of", "tree_of", defArgs s_tree_of, defBody s_tree_of, defScope s_tree_of, [], []⟩
def d_led_tree : He.DefD := ⟨("led_tree", none), "led_tree", "led_tree", defArgs s_led_tree, defBody s_led_tree, defScope s_led_tree, [], []⟩
def d_is_below : He.DefD := ⟨("is_below", none), "is_below", "is_below", defArgs s_is_below, defBody s_is_below, defScope s_is_below, [], []⟩
def d_is_node : He.DefD := ⟨("is_node", none), "is_node", "is_node", defArgs s_is_node, defBody s_is_node, defScope s_is_node, [], []⟩
def d_is_fork_right : He.DefD := ⟨("is_fork_right", none), "is_fork_right", "is_fork_right", defArgs s_is_fork_right, defBody s_is_fork_right, defScope s_is_fork_right, [], []⟩
def d_is_part : He.DefD := ⟨("is_part", none), "is_part", "is_part", defArgs s_is_part, defBody s_is_part, defScope s_is_part, [], []⟩
def d_is_tree : He.DefD := ⟨("is_tree", none), "is_tree", "is_tree", defArgs s_is_tree, defBody s_is_tree, defScope s_is_tree, [], []⟩
def d_need_tree : He.DefD := ⟨("need_tree", none), "need_tree", "need_tree", defArgs s_need_tree, defBody s_need_tree, defScope s_need_tree, [], []⟩
def d_need_keys : He.DefD := ⟨("need_keys", none), "need_keys", "need_keys", defArgs s_need_keys, defBody s_need_keys, defScope s_need_keys, [], []⟩
def d_need_bits : He.DefD := ⟨("need_bits", none), "need_bits", "need_bits", defArgs s_need_bits, defBody s_need_bits, defScope s_need_bits, [], []⟩
def d_is_open : He.DefD := ⟨("is_open", none), "is_open", "is_open", defArgs s_is_open, defBody s_is_open, defScope s_is_open, [], []⟩
def d_nodes_under : He.DefD := ⟨("nodes_under", none), "nodes_under", "nodes_under", defArgs s_nodes_under, defBody s_nodes_under, defScope s_nodes_under, [], []⟩
def d_sum_by : He.DefD := ⟨("sum_by", none), "sum_by", "sum_by", defArgs s_sum_by, defBody s_sum_by, defScope s_sum_by, [], []⟩
def d_packed_text : He.DefD := ⟨("packed_text", none), "packed_text", "packed_text", defArgs s_packed_text, defBody s_packed_text, defScope s_packed_text, [], []⟩
def d_value_sum : He.DefD := ⟨("value_sum", none), "value_sum", "value_sum", defArgs s_value_sum, defBody s_value_sum, defScope s_value_sum, [], []⟩
def d_node_text : He.DefD := ⟨("node_text", none), "node_text", "node_text", defArgs s_node_text, defBody s_node_text, defScope s_node_text, [], []⟩
def d_roots_under : He.DefD := ⟨("roots_under", none), "roots_under", "roots_under", defArgs s_roots_under, defBody s_roots_under, defScope s_roots_under, [], []⟩
def d_roots_of : He.DefD := ⟨("roots_of", none), "roots_of", "roots_of", defArgs s_roots_of, defBody s_roots_of, defScope s_roots_of, [], []⟩
def d_nodes_of : He.DefD := ⟨("nodes_of", none), "nodes_of", "nodes_of", defArgs s_nodes_of, defBody s_nodes_of, defScope s_nodes_of, [], []⟩
def d_closed : He.DefD := ⟨("closed", none), "closed", "closed", defArgs s_closed, defBody s_closed, defScope s_closed, [], []⟩
def d_rebuilt : He.DefD := ⟨("rebuilt", none), "rebuilt", "rebuilt", defArgs s_rebuilt, defBody s_rebuilt, defScope s_rebuilt, [], []⟩
def d_cut_away : He.DefD := ⟨("cut_away", none), "cut_away", "cut_away", defArgs s_cut_away, defBody s_cut_away, defScope s_cut_away, [], []⟩
def d_places_to : He.DefD := ⟨("places_to", none), "places_to", "places_to", defArgs s_places_to, defBody s_places_to, defScope s_places_to, [], []⟩
def d_witness_for : He.DefD := ⟨("witness_for", none), "witness_for", "witness_for", defArgs s_witness_for, defBody s_witness_for, defScope s_witness_for, [], []⟩
def d_cut_for : He.DefD := ⟨("cut_for", none), "cut_for", "cut_for", defArgs s_cut_for, defBody s_cut_for, defScope s_cut_for, [], []⟩
def d__law_power : He.DefD := ⟨("_law_power", none), "_law_power", "_law_power", defArgs s__law_power, defBody s__law_power, defScope s__law_power, [], []⟩
def d__law_bit : He.DefD := ⟨("_law_bit", none), "_law_bit", "_law_bit", defArgs s__law_bit, defBody s__law_bit, defScope s__law_bit, [], []⟩
def d__law_split : He.DefD := ⟨("_law_split", none), "_law_split", "_law_split", defArgs s__law_split, defBody s__law_split, defScope s__law_split, [], []⟩
def d__law_sum : He.DefD := ⟨("_law_sum", none), "_law_sum", "_law_sum", defArgs s__law_sum, defBody s__law_sum, defScope s__law_sum, [], []⟩
def d__law_packed : He.DefD := ⟨("_law_packed", none), "_law_packed", "_law_packed", defArgs s__law_packed, defBody s__law_packed, defScope s__law_packed, [], []⟩
def d__law_node_text : He.DefD := ⟨("_law_node_text", none), "_law_node_text", "_law_node_text", defArgs s__law_node_text, defBody s__law_node_text, defScope s__law_node_text, [], []⟩
def d__law_roots : He.DefD := ⟨("_law_roots", none), "_law_roots", "_law_roots", defArgs s__law_roots, defBody s__law_roots, defScope s__law_roots, [], []⟩
def d__law_spot_text : He.DefD := ⟨("_law_spot_text", none), "_law_spot_text", "_law_spot_text", defArgs s__law_spot_text, defBody s__law_spot_text, defScope s__law_spot_text, [], []⟩
def d__law_cut : He.DefD := ⟨("_law_cut", none), "_law_cut", "_law_cut", defArgs s__law_cut, defBody s__law_cut, defScope s__law_cut, [], []⟩
def d_root_of : He.DefD := ⟨("root_of", none), "root_of", "root_of", defArgs s_root_of, defBody s_root_of, defScope s_root_of, [], []⟩
def d_root : He.DefD := ⟨("root", none), "root", "root", defArgs s_root, defBody s_root, defScope s_root, [], []⟩
def d_is_closed : He.DefD := ⟨("is_closed", none), "is_closed", "is_closed", defArgs s_is_closed, defBody s_is_closed, defScope s_is_closed, [], []⟩
def d_stands_for : He.DefD := ⟨("stands_for", none), "stands_for", "stands_for", defArgs s_stands_for, defBody s_stands_for, defScope s_stands_for, [], []⟩
def d_alike : He.DefD := ⟨("alike", none), "alike", "alike", defArgs s_alike, defBody s_alike, defScope s_alike, [], []⟩
def d_is_pruning_of : He.DefD := ⟨("is_pruning_of", none), "is_pruning_of", "is_pruning_of", defArgs s_is_pruning_of, defBody s_is_pruning_of, defScope s_is_pruning_of, [], []⟩
def d_is_pruning : He.DefD := ⟨("is_pruning", none), "is_pruning", "is_pruning", defArgs s_is_pruning, defBody s_is_pruning, defScope s_is_pruning, [], []⟩
def d__law_end : He.DefD := ⟨("_law_end", none), "_law_end", "_law_end", defArgs s__law_end, defBody s__law_end, defScope s__law_end, [], []⟩
def d__law_flag : He.DefD := ⟨("_law_flag", none), "_law_flag", "_law_flag", defArgs s__law_flag, defBody s__law_flag, defScope s__law_flag, [], []⟩
def d_opens : He.DefD := ⟨("opens", none), "opens", "opens", defArgs s_opens, defBody s_opens, defScope s_opens, [], []⟩
def d_value_at : He.DefD := ⟨("value_at", none), "value_at", "value_at", defArgs s_value_at, defBody s_value_at, defScope s_value_at, [], []⟩
def d_get : He.DefD := ⟨("get", none), "get", "get", defArgs s_get, defBody s_get, defScope s_get, [], []⟩
def d_put : He.DefD := ⟨("put", none), "put", "put", defArgs s_put, defBody s_put, defScope s_put, [], []⟩
def d__law_try : He.DefD := ⟨("_law_try", none), "_law_try", "_law_try", defArgs s__law_try, defBody s__law_try, defScope s__law_try, [], []⟩
def d__law_whole_tree : He.DefD := ⟨("_law_whole_tree", none), "_law_whole_tree", "_law_whole_tree", defArgs s__law_whole_tree, defBody s__law_whole_tree, defScope s__law_whole_tree, [], []⟩
def d__law_root : He.DefD := ⟨("_law_root", none), "_law_root", "_law_root", defArgs s__law_root, defBody s__law_root, defScope s__law_root, [], []⟩
def d_law : He.DefD := ⟨("law", none), "law", "law", defArgs s_law, defBody s_law, defScope s_law, [], []⟩
def d_Missing : He.DefD := ⟨("Missing", some "__init__"), "__init__", "Missing.__init__", defArgs s_Missing, defBody s_Missing, defScope s_Missing, [], []⟩
def fn : List He.DefD := ([d__law_mixed, d__law_row, d__law_map, d__law_at, d__law_bits, d__law_spots, d_is_tuple_of, d_is_integer, d_is_under, d_is_spot, d_need_key, d_is_between, d_is_value, d_is_number, d_need_value, d_bit_of, d_way_to, d_many_in, d_fork_of, d_with_leaf, d_joined, d_changed_at, d_tree_of, d_led_tree, d_is_below, d_is_node, d_is_fork_right, d_is_part, d_is_tree, d_need_tree] : List He.DefD) ++ ([d_need_keys, d_need_bits, d_is_open, d_nodes_under, d_sum_by, d_packed_text, d_value_sum, d_node_text, d_roots_under, d_roots_of, d_nodes_of, d_closed, d_rebuilt, d_cut_away, d_places_to, d_witness_for, d_cut_for, d__law_power, d__law_bit, d__law_split, d__law_sum, d__law_packed, d__law_node_text, d__law_roots, d__law_spot_text, d__law_cut, d_root_of, d_root, d_is_closed, d_stands_for] : List He.DefD) ++ ([d_alike, d_is_pruning_of, d_is_pruning, d__law_end, d__law_flag, d_opens, d_value_at, d_get, d_put, d__law_try, d__law_whole_tree, d__law_root, d_law, d_Missing] : List He.DefD)
def fa : List He.Fa := ([.glo "_law_mixed", .glo "_law_row", .glo "_law_map", .glo "_law_at", .glo "_law_bits", .glo "_law_spots", .glo "is_tuple_of", .glo "is_integer", .glo "is_under", .glo "is_spot", .glo "need_key", .glo "is_between", .glo "is_value", .glo "is_number", .glo "need_value", .glo "bit_of", .glo "way_to", .glo "many_in", .glo "fork_of", .glo "with_leaf", .glo "joined", .glo "changed_at", .glo "tree_of", .glo "led_tree", .glo "is_below", .glo "is_node", .glo "is_fork_right", .glo "is_part", .glo "is_tree", .glo "need_tree"] : List He.Fa) ++ ([.glo "need_keys", .glo "need_bits", .glo "is_open", .glo "nodes_under", .glo "sum_by", .glo "packed_text", .glo "value_sum", .glo "node_text", .glo "roots_under", .glo "roots_of", .glo "nodes_of", .glo "closed", .glo "rebuilt", .glo "cut_away", .glo "places_to", .glo "witness_for", .glo "cut_for", .glo "_law_power", .glo "_law_bit", .glo "_law_split", .glo "_law_sum", .glo "_law_packed", .glo "_law_node_text", .glo "_law_roots", .glo "_law_spot_text", .glo "_law_cut", .glo "root_of", .glo "root", .glo "is_closed", .glo "stands_for"] : List He.Fa) ++ ([.glo "alike", .glo "is_pruning_of", .glo "is_pruning", .glo "_law_end", .glo "_law_flag", .glo "opens", .glo "value_at", .glo "get", .glo "put", .glo "_law_try", .glo "_law_whole_tree", .glo "_law_root", .glo "law", .free "abs", .free "all", .free "any", .free "bool", .free "dict", .free "enumerate", .free "int", .free "isinstance", .free "len", .free "list", .free "max", .free "min", .free "ord", .free "range", .free "sorted", .free "str", .free "sum"] : List He.Fa) ++ ([.free "tuple", .free "zip", .int "BEGIN" 104729, .int "CHUNK" 32, .int "CHUNK_PLUS" 1472633651945887258, .int "CHUNK_TIMES" 1756108757816216254, .int "DEPTH" 16, .int "FEWEST_BITS" 4, .int "GREATEST" 1152921504606846976, .int "LONGEST" 60000, .int "MOST_BITS" 60, .glo "NONE", .int "PLUS" 1442695040888963407, .glo "POWERS", .int "PRIME" 2305843009213693951, .int "SPOTS" 65536, .int "TIMES" 6364136223846793005, .glo "Closer", .glo "LedgerError", .glo "Missing", .glo "NoBits", .glo "NoKey", .glo "NoTree", .glo "NoValue", .exc "NoBits", .exc "NoKey", .exc "NoTree", .exc "NoValue", .exm "Missing" "LedgerError" true, .exm "NoKey" "LedgerError" true] : List He.Fa) ++ ([.exm "NoTree" "LedgerError" true, .exm "NoValue" "LedgerError" true] : List He.Fa)
def ckl (K : PySem.W.Frag) : List Bool := ([He.tupB K "NONE" (K_NONE.map dvOf), He.tupB K "POWERS" (K_POWERS.map dvOf), oexB K (He.ga K "Missing"), initB K (He.ga K "Missing") (He.ma K (He.ga K "Missing") "__init__") ["key"], (["NoneType", "bool", "int", "str", "tuple", "list", "dict"].all fun t => decide (PySem.W.kitOne K (.type t) (.ref (He.ga K "Closer")) = some false)), excB K (He.ga K "Missing"), excB K (He.ga K "NoKey"), excB K (He.ga K "NoTree"), excB K (He.ga K "NoValue"), decide (PySem.W.kitOne K (.ref (He.ga K "Missing")) (.ref (He.ga K "Missing")) = some (("Missing" : Str) == ("Missing" : Str))), decide (PySem.W.kitOne K (.ref (He.ga K "NoKey")) (.ref (He.ga K "Missing")) = some (("NoKey" : Str) == ("Missing" : Str))), decide (PySem.W.kitOne K (.ref (He.ga K "NoTree")) (.ref (He.ga K "Missing")) = some (("NoTree" : Str) == ("Missing" : Str))), decide (PySem.W.kitOne K (.ref (He.ga K "NoValue")) (.ref (He.ga K "Missing")) = some (("NoValue" : Str) == ("Missing" : Str)))] : List Bool)
def ck (K : PySem.W.Frag) : Bool := (ckl K).all id
abbrev R : PySem.W.OpenRow := PySem.W.OpenLaw.row PySem.Challenge.rw_leanledger_k49_whole_witnesses_lead_alik
def hk : PySem.W.Hook := hookX 4 fa fn ck
def ob (s : PySem.W.SharedT) : He.AlD := obsXG 4 fa fn ck (HandSHeadRun.getT s)
theorem ob_eq (s : PySem.W.SharedT) : ob s = hk.obs s.abs := obsXG_eq (HandSHeadRun.getT_eq s)
def loose : List Str := (["LedgerError", "NoBits", "NoKey", "NoTree", "NoValue", "Missing", "is_integer", "is_number", "is_between", "is_under", "is_tuple_of", "Closer", "packed_text", "FEWEST_BITS", "MOST_BITS", "BEGIN", "TIMES", "PLUS", "PRIME", "CHUNK", "CHUNK_TIMES", "CHUNK_PLUS", "POWERS", "need_bits", "sum_by", "DEPTH", "SPOTS", "GREATEST", "LONGEST", "NONE"] : List Str) ++ (["is_spot", "is_value", "bit_of", "many_in", "joined", "nodes_under", "nodes_of", "value_sum", "node_text", "roots_under", "roots_of", "is_node", "is_below", "is_fork_right", "is_part", "is_tree", "need_tree", "is_closed", "need_key", "way_to", "value_at", "get", "with_leaf", "fork_of", "changed_at", "need_value", "put", "root_of", "root", "tree_of"] : List Str) ++ (["led_tree", "places_to", "rebuilt", "cut_away", "closed", "need_keys", "cut_for", "witness_for", "is_open", "opens", "alike", "stands_for", "is_pruning_of", "is_pruning", "_law_node_text", "_law_power", "_law_roots", "_law_spot_text", "_law_split", "_law_sum", "_law_packed", "_law_mixed", "_law_bit", "_law_map", "_law_at", "_law_bits", "_law_spots", "_law_cut", "_law_row", "_law_end"] : List Str) ++ (["_law_flag", "_law_whole_tree", "_law_root", "_law_try"] : List Str)
theorem run (w : World) : HandSHeadRun.RunEq R (PySem.W.view R.prog [101]) hk ob 6000 loose w := by
  intro os
  kernel_rfl
end K49
set_option maxHeartbeats 200000
set_option maxHeartbeats 0
namespace K49
open PySem PySem.Spec L2 DL
theorem gf {K : PySem.W.Frag} {h : Heap} {mg : Str → Option Value} (X : K.In h) (G : h.Ns mainGlobals mg) (c : SaysX fa fn ck K) : GF K mg := by
  obtain ⟨c, hck⟩ := c.d
  have hck : (ckl K).all id = true := hck
  constructor
  · exact He.free_ok X G (c.fact 73 (f := .free "abs") rfl)
  · exact He.free_ok X G (c.fact 74 (f := .free "all") rfl)
  · exact He.free_ok X G (c.fact 75 (f := .free "any") rfl)
  · exact He.free_ok X G (c.fact 76 (f := .free "bool") rfl)
  · exact He.free_ok X G (c.fact 77 (f := .free "dict") rfl)
  · exact He.free_ok X G (c.fact 78 (f := .free "enumerate") rfl)
  · exact He.free_ok X G (c.fact 79 (f := .free "int") rfl)
  · exact He.free_ok X G (c.fact 80 (f := .free "isinstance") rfl)
  · exact He.free_ok X G (c.fact 81 (f := .free "len") rfl)
  · exact He.free_ok X G (c.fact 82 (f := .free "list") rfl)
  · exact He.free_ok X G (c.fact 83 (f := .free "max") rfl)
  · exact He.free_ok X G (c.fact 84 (f := .free "min") rfl)
  · exact He.free_ok X G (c.fact 85 (f := .free "ord") rfl)
  · exact He.free_ok X G (c.fact 86 (f := .free "range") rfl)
  · exact He.free_ok X G (c.fact 87 (f := .free "sorted") rfl)
  · exact He.free_ok X G (c.fact 88 (f := .free "str") rfl)
  · exact He.free_ok X G (c.fact 89 (f := .free "sum") rfl)
  · exact He.free_ok X G (c.fact 90 (f := .free "tuple") rfl)
  · exact He.free_ok X G (c.fact 91 (f := .free "zip") rfl)
  · exact He.int_ok X G (c.fact 92 (f := .int "BEGIN" 104729) rfl)
  · exact He.int_ok X G (c.fact 93 (f := .int "CHUNK" 32) rfl)
  · exact He.int_ok X G (c.fact 94 (f := .int "CHUNK_PLUS" 1472633651945887258) rfl)
  · exact He.int_ok X G (c.fact 95 (f := .int "CHUNK_TIMES" 1756108757816216254) rfl)
  · exact He.int_ok X G (c.fact 96 (f := .int "DEPTH" 16) rfl)
  · exact He.int_ok X G (c.fact 97 (f := .int "FEWEST_BITS" 4) rfl)
  · exact He.int_ok X G (c.fact 98 (f := .int "GREATEST" 1152921504606846976) rfl)
  · exact He.int_ok X G (c.fact 99 (f := .int "LONGEST" 60000) rfl)
  · exact He.int_ok X G (c.fact 100 (f := .int "MOST_BITS" 60) rfl)
  · exact kt_of X G (c.fact 101 (f := .glo "NONE") rfl) (all_get hck 0 rfl) (by decide +kernel)
  · exact He.int_ok X G (c.fact 102 (f := .int "PLUS" 1442695040888963407) rfl)
  · exact kt_of X G (c.fact 103 (f := .glo "POWERS") rfl) (all_get hck 1 rfl) (by decide +kernel)
  · exact He.int_ok X G (c.fact 104 (f := .int "PRIME" 2305843009213693951) rfl)
  · exact He.int_ok X G (c.fact 105 (f := .int "SPOTS" 65536) rfl)
  · exact He.int_ok X G (c.fact 106 (f := .int "TIMES" 6364136223846793005) rfl)
  · exact xf_of X G (c.fact 110 (f := .glo "NoBits") rfl) (c.fact 114 (f := .exc "NoBits") rfl)
  · exact xf_of X G (c.fact 111 (f := .glo "NoKey") rfl) (c.fact 115 (f := .exc "NoKey") rfl)
  · exact xf_of X G (c.fact 112 (f := .glo "NoTree") rfl) (c.fact 116 (f := .exc "NoTree") rfl)
  · exact xf_of X G (c.fact 113 (f := .glo "NoValue") rfl) (c.fact 117 (f := .exc "NoValue") rfl)
  · exact fun D hD f hf => fno_of (all_get hck 3 rfl) (He.glo_ok X G (c.fact 109 (f := .glo "Missing") rfl)) hD hf
  · exact ⟨_, (He.glo_ok X G (c.fact 107 (f := .glo "Closer") rfl)), fun d => isi_all (all_get hck 4 rfl) d⟩
  · refine ⟨_, (He.glo_ok X G (c.fact 108 (f := .glo "LedgerError") rfl)), fun L hL => ⟨fun x hx => ?_⟩⟩
    have z := hL x hx
    simp only [List.mem_cons, List.not_mem_nil, or_false] at z
    rcases z with rfl | rfl | rfl | rfl
    · exact ⟨_, (He.glo_ok X G (c.fact 109 (f := .glo "Missing") rfl)), He.exm_ok (c.fact 118 (f := .exm "Missing" "LedgerError" true) rfl), excB_ok (all_get hck 5 rfl)⟩
    · exact ⟨_, (He.glo_ok X G (c.fact 111 (f := .glo "NoKey") rfl)), He.exm_ok (c.fact 119 (f := .exm "NoKey" "LedgerError" true) rfl), excB_ok (all_get hck 6 rfl)⟩
    · exact ⟨_, (He.glo_ok X G (c.fact 112 (f := .glo "NoTree") rfl)), He.exm_ok (c.fact 120 (f := .exm "NoTree" "LedgerError" true) rfl), excB_ok (all_get hck 7 rfl)⟩
    · exact ⟨_, (He.glo_ok X G (c.fact 113 (f := .glo "NoValue") rfl)), He.exm_ok (c.fact 121 (f := .exm "NoValue" "LedgerError" true) rfl), excB_ok (all_get hck 8 rfl)⟩
  · refine ⟨_, (He.glo_ok X G (c.fact 109 (f := .glo "Missing") rfl)), fun x hx D hD => ?_⟩
    simp only [List.mem_cons, List.not_mem_nil, or_false] at hx
    rcases hx with rfl | rfl | rfl | rfl
    · exact kit_of (He.glo_ok X G (c.fact 109 (f := .glo "Missing") rfl)) hD (all_get hck 9 rfl)
    · exact kit_of (He.glo_ok X G (c.fact 111 (f := .glo "NoKey") rfl)) hD (all_get hck 10 rfl)
    · exact kit_of (He.glo_ok X G (c.fact 112 (f := .glo "NoTree") rfl)) hD (all_get hck 11 rfl)
    · exact kit_of (He.glo_ok X G (c.fact 113 (f := .glo "NoValue") rfl)) hD (all_get hck 12 rfl)
theorem facts {P : Program} {w : World} {K : PySem.W.Frag} {h : Heap} {mg : Str → Option Value} {f : Addr} (X : K.In h) (G : h.Ns mainGlobals mg) (hfa : mg "law" = some (.ref f)) (c : SaysX fa fn ck K) :
    ∃ fd : FuncData, (∀ (s : Shared) (v : Value), BindsTo s fd ⟨[v], []⟩ [("script", v)]) ∧ ∀ base : Heap, K.In base → base.Ns mainGlobals mg → FnOk P w K mg base CX0 10 f fd ["script"] (spD0 K mg M_law) := by
  have G0 := gf X G c
  obtain ⟨c, hck⟩ := c.d
  have hck : (ckl K).all id = true := hck
  obtain ⟨fd__law_mixed, F__law_mixed⟩ := c.def_ 0 (d := d__law_mixed) rfl
  obtain ⟨fd__law_row, F__law_row⟩ := c.def_ 1 (d := d__law_row) rfl
  obtain ⟨fd__law_map, F__law_map⟩ := c.def_ 2 (d := d__law_map) rfl
  obtain ⟨fd__law_at, F__law_at⟩ := c.def_ 3 (d := d__law_at) rfl
  obtain ⟨fd__law_bits, F__law_bits⟩ := c.def_ 4 (d := d__law_bits) rfl
  obtain ⟨fd__law_spots, F__law_spots⟩ := c.def_ 5 (d := d__law_spots) rfl
  obtain ⟨fd_is_tuple_of, F_is_tuple_of⟩ := c.def_ 6 (d := d_is_tuple_of) rfl
  obtain ⟨fd_is_integer, F_is_integer⟩ := c.def_ 7 (d := d_is_integer) rfl
  obtain ⟨fd_is_under, F_is_under⟩ := c.def_ 8 (d := d_is_under) rfl
  obtain ⟨fd_is_spot, F_is_spot⟩ := c.def_ 9 (d := d_is_spot) rfl
  obtain ⟨fd_need_key, F_need_key⟩ := c.def_ 10 (d := d_need_key) rfl
  obtain ⟨fd_is_between, F_is_between⟩ := c.def_ 11 (d := d_is_between) rfl
  obtain ⟨fd_is_value, F_is_value⟩ := c.def_ 12 (d := d_is_value) rfl
  obtain ⟨fd_is_number, F_is_number⟩ := c.def_ 13 (d := d_is_number) rfl
  obtain ⟨fd_need_value, F_need_value⟩ := c.def_ 14 (d := d_need_value) rfl
  obtain ⟨fd_bit_of, F_bit_of⟩ := c.def_ 15 (d := d_bit_of) rfl
  obtain ⟨fd_way_to, F_way_to⟩ := c.def_ 16 (d := d_way_to) rfl
  obtain ⟨fd_many_in, F_many_in⟩ := c.def_ 17 (d := d_many_in) rfl
  obtain ⟨fd_fork_of, F_fork_of⟩ := c.def_ 18 (d := d_fork_of) rfl
  obtain ⟨fd_with_leaf, F_with_leaf⟩ := c.def_ 19 (d := d_with_leaf) rfl
  obtain ⟨fd_joined, F_joined⟩ := c.def_ 20 (d := d_joined) rfl
  obtain ⟨fd_changed_at, F_changed_at⟩ := c.def_ 21 (d := d_changed_at) rfl
  obtain ⟨fd_tree_of, F_tree_of⟩ := c.def_ 22 (d := d_tree_of) rfl
  obtain ⟨fd_led_tree, F_led_tree⟩ := c.def_ 23 (d := d_led_tree) rfl
  obtain ⟨fd_is_below, F_is_below⟩ := c.def_ 24 (d := d_is_below) rfl
  obtain ⟨fd_is_node, F_is_node⟩ := c.def_ 25 (d := d_is_node) rfl
  obtain ⟨fd_is_fork_right, F_is_fork_right⟩ := c.def_ 26 (d := d_is_fork_right) rfl
  obtain ⟨fd_is_part, F_is_part⟩ := c.def_ 27 (d := d_is_part) rfl
  obtain ⟨fd_is_tree, F_is_tree⟩ := c.def_ 28 (d := d_is_tree) rfl
  obtain ⟨fd_need_tree, F_need_tree⟩ := c.def_ 29 (d := d_need_tree) rfl
  obtain ⟨fd_need_keys, F_need_keys⟩ := c.def_ 30 (d := d_need_keys) rfl
  obtain ⟨fd_need_bits, F_need_bits⟩ := c.def_ 31 (d := d_need_bits) rfl
  obtain ⟨fd_is_open, F_is_open⟩ := c.def_ 32 (d := d_is_open) rfl
  obtain ⟨fd_nodes_under, F_nodes_under⟩ := c.def_ 33 (d := d_nodes_under) rfl
  obtain ⟨fd_sum_by, F_sum_by⟩ := c.def_ 34 (d := d_sum_by) rfl
  obtain ⟨fd_packed_text, F_packed_text⟩ := c.def_ 35 (d := d_packed_text) rfl
  obtain ⟨fd_value_sum, F_value_sum⟩ := c.def_ 36 (d := d_value_sum) rfl
  obtain ⟨fd_node_text, F_node_text⟩ := c.def_ 37 (d := d_node_text) rfl
  obtain ⟨fd_roots_under, F_roots_under⟩ := c.def_ 38 (d := d_roots_under) rfl
  obtain ⟨fd_roots_of, F_roots_of⟩ := c.def_ 39 (d := d_roots_of) rfl
  obtain ⟨fd_nodes_of, F_nodes_of⟩ := c.def_ 40 (d := d_nodes_of) rfl
  obtain ⟨fd_closed, F_closed⟩ := c.def_ 41 (d := d_closed) rfl
  obtain ⟨fd_rebuilt, F_rebuilt⟩ := c.def_ 42 (d := d_rebuilt) rfl
  obtain ⟨fd_cut_away, F_cut_away⟩ := c.def_ 43 (d := d_cut_away) rfl
  obtain ⟨fd_places_to, F_places_to⟩ := c.def_ 44 (d := d_places_to) rfl
  obtain ⟨fd_witness_for, F_witness_for⟩ := c.def_ 45 (d := d_witness_for) rfl
  obtain ⟨fd_cut_for, F_cut_for⟩ := c.def_ 46 (d := d_cut_for) rfl
  obtain ⟨fd__law_power, F__law_power⟩ := c.def_ 47 (d := d__law_power) rfl
  obtain ⟨fd__law_bit, F__law_bit⟩ := c.def_ 48 (d := d__law_bit) rfl
  obtain ⟨fd__law_split, F__law_split⟩ := c.def_ 49 (d := d__law_split) rfl
  obtain ⟨fd__law_sum, F__law_sum⟩ := c.def_ 50 (d := d__law_sum) rfl
  obtain ⟨fd__law_packed, F__law_packed⟩ := c.def_ 51 (d := d__law_packed) rfl
  obtain ⟨fd__law_node_text, F__law_node_text⟩ := c.def_ 52 (d := d__law_node_text) rfl
  obtain ⟨fd__law_roots, F__law_roots⟩ := c.def_ 53 (d := d__law_roots) rfl
  obtain ⟨fd__law_spot_text, F__law_spot_text⟩ := c.def_ 54 (d := d__law_spot_text) rfl
  obtain ⟨fd__law_cut, F__law_cut⟩ := c.def_ 55 (d := d__law_cut) rfl
  obtain ⟨fd_root_of, F_root_of⟩ := c.def_ 56 (d := d_root_of) rfl
  obtain ⟨fd_root, F_root⟩ := c.def_ 57 (d := d_root) rfl
  obtain ⟨fd_is_closed, F_is_closed⟩ := c.def_ 58 (d := d_is_closed) rfl
  obtain ⟨fd_stands_for, F_stands_for⟩ := c.def_ 59 (d := d_stands_for) rfl
  obtain ⟨fd_alike, F_alike⟩ := c.def_ 60 (d := d_alike) rfl
  obtain ⟨fd_is_pruning_of, F_is_pruning_of⟩ := c.def_ 61 (d := d_is_pruning_of) rfl
  obtain ⟨fd_is_pruning, F_is_pruning⟩ := c.def_ 62 (d := d_is_pruning) rfl
  obtain ⟨fd__law_end, F__law_end⟩ := c.def_ 63 (d := d__law_end) rfl
  obtain ⟨fd__law_flag, F__law_flag⟩ := c.def_ 64 (d := d__law_flag) rfl
  obtain ⟨fd_opens, F_opens⟩ := c.def_ 65 (d := d_opens) rfl
  obtain ⟨fd_value_at, F_value_at⟩ := c.def_ 66 (d := d_value_at) rfl
  obtain ⟨fd_get, F_get⟩ := c.def_ 67 (d := d_get) rfl
  obtain ⟨fd_put, F_put⟩ := c.def_ 68 (d := d_put) rfl
  obtain ⟨fd__law_try, F__law_try⟩ := c.def_ 69 (d := d__law_try) rfl
  obtain ⟨fd__law_whole_tree, F__law_whole_tree⟩ := c.def_ 70 (d := d__law_whole_tree) rfl
  obtain ⟨fd__law_root, F__law_root⟩ := c.def_ 71 (d := d__law_root) rfl
  obtain ⟨fd_law, F_law⟩ := c.def_ 72 (d := d_law) rfl
  have e := hfa.symm.trans (He.glo_ok X G (c.fact 72 (f := .glo "law") rfl))
  cases e
  have b := FunD.bindsA (ps := ["script"]) F_law fun _ _ _ _ _ _ us hl => match us, hl with | [_], _ => rfl
  refine ⟨fd_law, fun s v => b s [v] rfl, fun base hb hg => ?_⟩
  obtain ⟨fd_Missing, F_Missing⟩ := c.def_ 73 (d := d_Missing) rfl
  have E_Missing : ∀ base : Heap, XO P w K mg base "Missing" ["key"] := fun base => xo1_of (st := s_Missing) X G (c.fact 109 (f := .glo "Missing") rfl) (all_get hck 2 rfl) (all_get hck 3 rfl) F_Missing (F_Missing.bindsN fun _ _ _ _ _ _ us hl => match us, hl with | [_, _], _ => rfl) S_Missing rfl (Or.inl rfl) (Or.inl rfl)
  have E__law_mixed : FE P w K mg base 1 "_law_mixed" ["cell", "k"] M__law_mixed := fe_of (st := s__law_mixed) X G F__law_mixed (c.fact 0 (f := .glo "_law_mixed") rfl) rfl (F__law_mixed.bindsN fun _ _ _ _ _ _ us hl => match us, hl with | [_, _], _ => rfl) (ok__law_mixed G0 (He5.fun_of (st := s__law_mixed) F__law_mixed) )
  have E__law_row : FE P w K mg base 2 "_law_row" ["cell", "many", "top"] M__law_row := fe_of (st := s__law_row) X G F__law_row (c.fact 1 (f := .glo "_law_row") rfl) rfl (F__law_row.bindsN fun _ _ _ _ _ _ us hl => match us, hl with | [_, _, _], _ => rfl) (ok__law_row G0 (He5.fun_of (st := s__law_row) F__law_row) E__law_mixed)
  have E__law_map : FE P w K mg base 3 "_law_map" ["cell", "more", "most"] M__law_map := fe_of (st := s__law_map) X G F__law_map (c.fact 2 (f := .glo "_law_map") rfl) rfl (F__law_map.bindsN fun _ _ _ _ _ _ us hl => match us, hl with | [_, _, _], _ => rfl) (ok__law_map G0 (He5.fun_of (st := s__law_map) F__law_map) E__law_row)
  have E__law_at : FE P w K mg base 1 "_law_at" ["script", "k"] M__law_at := fe_of (st := s__law_at) X G F__law_at (c.fact 3 (f := .glo "_law_at") rfl) rfl (F__law_at.bindsN fun _ _ _ _ _ _ us hl => match us, hl with | [_, _], _ => rfl) (ok__law_at G0 (He5.fun_of (st := s__law_at) F__law_at) )
  have E__law_bits : FE P w K mg base 3 "_law_bits" ["cell"] M__law_bits := fe_of (st := s__law_bits) X G F__law_bits (c.fact 4 (f := .glo "_law_bits") rfl) rfl (F__law_bits.bindsN fun _ _ _ _ _ _ us hl => match us, hl with | [_], _ => rfl) (ok__law_bits G0 (He5.fun_of (st := s__law_bits) F__law_bits) E__law_row)
  have E__law_spots : FE P w K mg base 3 "_law_spots" ["cell", "kept", "most"] M__law_spots := fe_of (st := s__law_spots) X G F__law_spots (c.fact 5 (f := .glo "_law_spots") rfl) rfl (F__law_spots.bindsN fun _ _ _ _ _ _ us hl => match us, hl with | [_, _, _], _ => rfl) (ok__law_spots G0 (He5.fun_of (st := s__law_spots) F__law_spots) E__law_row)
  have E_is_tuple_of : FE P w K mg base 1 "is_tuple_of" ["thing", "many"] M_is_tuple_of := fe_of (st := s_is_tuple_of) X G F_is_tuple_of (c.fact 6 (f := .glo "is_tuple_of") rfl) rfl (F_is_tuple_of.bindsN fun _ _ _ _ _ _ us hl => match us, hl with | [_, _], _ => rfl) (ok_is_tuple_of G0 (He5.fun_of (st := s_is_tuple_of) F_is_tuple_of) )
  have E_is_integer : FE P w K mg base 1 "is_integer" ["thing"] M_is_integer := fe_of (st := s_is_integer) X G F_is_integer (c.fact 7 (f := .glo "is_integer") rfl) rfl (F_is_integer.bindsN fun _ _ _ _ _ _ us hl => match us, hl with | [_], _ => rfl) (ok_is_integer G0 (He5.fun_of (st := s_is_integer) F_is_integer) )
  have E_is_under : FE P w K mg base 2 "is_under" ["thing", "many"] M_is_under := fe_of (st := s_is_under) X G F_is_under (c.fact 8 (f := .glo "is_under") rfl) rfl (F_is_under.bindsN fun _ _ _ _ _ _ us hl => match us, hl with | [_, _], _ => rfl) (ok_is_under G0 (He5.fun_of (st := s_is_under) F_is_under) E_is_integer)
  have E_is_spot : FE P w K mg base 3 "is_spot" ["thing"] M_is_spot := fe_of (st := s_is_spot) X G F_is_spot (c.fact 9 (f := .glo "is_spot") rfl) rfl (F_is_spot.bindsN fun _ _ _ _ _ _ us hl => match us, hl with | [_], _ => rfl) (ok_is_spot G0 (He5.fun_of (st := s_is_spot) F_is_spot) E_is_under)
  have E_need_key : FE P w K mg base 4 "need_key" ["thing"] M_need_key := fe_of (st := s_need_key) X G F_need_key (c.fact 10 (f := .glo "need_key") rfl) rfl (F_need_key.bindsN fun _ _ _ _ _ _ us hl => match us, hl with | [_], _ => rfl) (ok_need_key G0 (He5.fun_of (st := s_need_key) F_need_key) E_is_spot)
  have E_is_between : FE P w K mg base 2 "is_between" ["thing", "least", "most"] M_is_between := fe_of (st := s_is_between) X G F_is_between (c.fact 11 (f := .glo "is_between") rfl) rfl (F_is_between.bindsN fun _ _ _ _ _ _ us hl => match us, hl with | [_, _, _], _ => rfl) (ok_is_between G0 (He5.fun_of (st := s_is_between) F_is_between) E_is_integer)
  have E_is_value : FE P w K mg base 3 "is_value" ["thing"] M_is_value := fe_of (st := s_is_value) X G F_is_value (c.fact 12 (f := .glo "is_value") rfl) rfl (F_is_value.bindsN fun _ _ _ _ _ _ us hl => match us, hl with | [_], _ => rfl) (ok_is_value G0 (He5.fun_of (st := s_is_value) F_is_value) E_is_between)
  have E_is_number : FE P w K mg base 2 "is_number" ["thing"] M_is_number := fe_of (st := s_is_number) X G F_is_number (c.fact 13 (f := .glo "is_number") rfl) rfl (F_is_number.bindsN fun _ _ _ _ _ _ us hl => match us, hl with | [_], _ => rfl) (ok_is_number G0 (He5.fun_of (st := s_is_number) F_is_number) E_is_integer)
  have E_need_value : FE P w K mg base 4 "need_value" ["thing"] M_need_value := fe_of (st := s_need_value) X G F_need_value (c.fact 14 (f := .glo "need_value") rfl) rfl (F_need_value.bindsN fun _ _ _ _ _ _ us hl => match us, hl with | [_], _ => rfl) (ok_need_value G0 (He5.fun_of (st := s_need_value) F_need_value) E_is_value E_is_number)
  have E_bit_of : FE P w K mg base 1 "bit_of" ["key", "depth"] M_bit_of := fe_of (st := s_bit_of) X G F_bit_of (c.fact 15 (f := .glo "bit_of") rfl) rfl (F_bit_of.bindsN fun _ _ _ _ _ _ us hl => match us, hl with | [_, _], _ => rfl) (ok_bit_of G0 (He5.fun_of (st := s_bit_of) F_bit_of) )
  have E_way_to : FE P w K mg base 2 "way_to" ["tree", "key"] M_way_to := fe_of (st := s_way_to) X G F_way_to (c.fact 16 (f := .glo "way_to") rfl) rfl (F_way_to.bindsN fun _ _ _ _ _ _ us hl => match us, hl with | [_, _], _ => rfl) (ok_way_to G0 (He5.fun_of (st := s_way_to) F_way_to) E_bit_of)
  have E_many_in : FE P w K mg base 1 "many_in" ["node"] M_many_in := fe_of (st := s_many_in) X G F_many_in (c.fact 17 (f := .glo "many_in") rfl) rfl (F_many_in.bindsN fun _ _ _ _ _ _ us hl => match us, hl with | [_], _ => rfl) (ok_many_in G0 (He5.fun_of (st := s_many_in) F_many_in) )
  have E_fork_of : FE P w K mg base 2 "fork_of" ["left", "right"] M_fork_of := fe_of (st := s_fork_of) X G F_fork_of (c.fact 18 (f := .glo "fork_of") rfl) rfl (F_fork_of.bindsN fun _ _ _ _ _ _ us hl => match us, hl with | [_, _], _ => rfl) (ok_fork_of G0 (He5.fun_of (st := s_fork_of) F_fork_of) E_many_in)
  have E_with_leaf : FE P w K mg base 3 "with_leaf" ["end", "depth", "leaf"] M_with_leaf := fe_of (st := s_with_leaf) X G F_with_leaf (c.fact 19 (f := .glo "with_leaf") rfl) rfl (F_with_leaf.bindsN fun _ _ _ _ _ _ us hl => match us, hl with | [_, _, _], _ => rfl) (ok_with_leaf G0 (He5.fun_of (st := s_with_leaf) F_with_leaf) E_bit_of E_fork_of)
  have E_joined : FE P w K mg base 2 "joined" ["left", "right"] M_joined := fe_of (st := s_joined) X G F_joined (c.fact 20 (f := .glo "joined") rfl) rfl (F_joined.bindsN fun _ _ _ _ _ _ us hl => match us, hl with | [_, _], _ => rfl) (ok_joined G0 (He5.fun_of (st := s_joined) F_joined) E_many_in)
  have E_changed_at : FE P w K mg base 4 "changed_at" ["tree", "key", "value"] M_changed_at := fe_of (st := s_changed_at) X G F_changed_at (c.fact 21 (f := .glo "changed_at") rfl) rfl (F_changed_at.bindsN fun _ _ _ _ _ _ us hl => match us, hl with | [_, _, _], _ => rfl) (ok_changed_at G0 (He5.fun_of (st := s_changed_at) F_changed_at) E_way_to E_with_leaf E_joined (E_Missing base))
  have E_tree_of : FE P w K mg base 5 "tree_of" ["pairs"] M_tree_of := fe_of (st := s_tree_of) X G F_tree_of (c.fact 22 (f := .glo "tree_of") rfl) rfl (F_tree_of.bindsN fun _ _ _ _ _ _ us hl => match us, hl with | [_], _ => rfl) (ok_tree_of G0 (He5.fun_of (st := s_tree_of) F_tree_of) E_changed_at)
  have E_led_tree : FE P w K mg base 6 "led_tree" ["pairs"] M_led_tree := fe_of (st := s_led_tree) X G F_led_tree (c.fact 23 (f := .glo "led_tree") rfl) rfl (F_led_tree.bindsN fun _ _ _ _ _ _ us hl => match us, hl with | [_], _ => rfl) (ok_led_tree G0 (He5.fun_of (st := s_led_tree) F_led_tree) E_is_tuple_of E_need_key E_need_value E_tree_of)
  have E_is_below : FE P w K mg base 2 "is_below" ["place", "key"] M_is_below := fe_of (st := s_is_below) X G F_is_below (c.fact 24 (f := .glo "is_below") rfl) rfl (F_is_below.bindsN fun _ _ _ _ _ _ us hl => match us, hl with | [_, _], _ => rfl) (ok_is_below G0 (He5.fun_of (st := s_is_below) F_is_below) E_bit_of)
  have E_is_node : FE P w K mg base 4 "is_node" ["place", "thing"] M_is_node := fe_of (st := s_is_node) X G F_is_node (c.fact 25 (f := .glo "is_node") rfl) rfl (F_is_node.bindsN fun _ _ _ _ _ _ us hl => match us, hl with | [_, _], _ => rfl) (ok_is_node G0 (He5.fun_of (st := s_is_node) F_is_node) E_is_spot E_is_value E_is_below E_is_number E_is_between)
  have E_is_fork_right : FE P w K mg base 2 "is_fork_right" ["node"] M_is_fork_right := fe_of (st := s_is_fork_right) X G F_is_fork_right (c.fact 26 (f := .glo "is_fork_right") rfl) rfl (F_is_fork_right.bindsN fun _ _ _ _ _ _ us hl => match us, hl with | [_], _ => rfl) (ok_is_fork_right G0 (He5.fun_of (st := s_is_fork_right) F_is_fork_right) E_many_in)
  have E_is_part : FE P w K mg base 5 "is_part" ["place", "thing"] M_is_part := fe_of (st := s_is_part) X G F_is_part (c.fact 27 (f := .glo "is_part") rfl) rfl (F_is_part.bindsN fun _ _ _ _ _ _ us hl => match us, hl with | [_, _], _ => rfl) (ok_is_part G0 (He5.fun_of (st := s_is_part) F_is_part) E_is_node E_is_fork_right)
  have E_is_tree : FE P w K mg base 6 "is_tree" ["thing"] M_is_tree := fe_of (st := s_is_tree) X G F_is_tree (c.fact 28 (f := .glo "is_tree") rfl) rfl (F_is_tree.bindsN fun _ _ _ _ _ _ us hl => match us, hl with | [_], _ => rfl) (ok_is_tree G0 (He5.fun_of (st := s_is_tree) F_is_tree) E_is_part)
  have E_need_tree : FE P w K mg base 7 "need_tree" ["thing"] M_need_tree := fe_of (st := s_need_tree) X G F_need_tree (c.fact 29 (f := .glo "need_tree") rfl) rfl (F_need_tree.bindsN fun _ _ _ _ _ _ us hl => match us, hl with | [_], _ => rfl) (ok_need_tree G0 (He5.fun_of (st := s_need_tree) F_need_tree) E_is_tree)
  have E_need_keys : FE P w K mg base 4 "need_keys" ["keys"] M_need_keys := fe_of (st := s_need_keys) X G F_need_keys (c.fact 30 (f := .glo "need_keys") rfl) rfl (F_need_keys.bindsN fun _ _ _ _ _ _ us hl => match us, hl with | [_], _ => rfl) (ok_need_keys G0 (He5.fun_of (st := s_need_keys) F_need_keys) E_is_spot)
  have E_need_bits : FE P w K mg base 3 "need_bits" ["bits"] M_need_bits := fe_of (st := s_need_bits) X G F_need_bits (c.fact 31 (f := .glo "need_bits") rfl) rfl (F_need_bits.bindsN fun _ _ _ _ _ _ us hl => match us, hl with | [_], _ => rfl) (ok_need_bits G0 (He5.fun_of (st := s_need_bits) F_need_bits) E_is_between)
  have E_is_open : FE P w K mg base 3 "is_open" ["tree", "key"] M_is_open := fe_of (st := s_is_open) X G F_is_open (c.fact 32 (f := .glo "is_open") rfl) rfl (F_is_open.bindsN fun _ _ _ _ _ _ us hl => match us, hl with | [_, _], _ => rfl) (ok_is_open G0 (He5.fun_of (st := s_is_open) F_is_open) E_way_to)
  have E_nodes_under : FE P w K mg base 1 "nodes_under" ["place", "part"] M_nodes_under := fe_of (st := s_nodes_under) X G F_nodes_under (c.fact 33 (f := .glo "nodes_under") rfl) rfl (F_nodes_under.bindsN fun _ _ _ _ _ _ us hl => match us, hl with | [_, _], _ => rfl) (ok_nodes_under G0 (He5.fun_of (st := s_nodes_under) F_nodes_under) )
  have E_sum_by : FE P w K mg base 1 "sum_by" ["text", "bits"] M_sum_by := fe_of (st := s_sum_by) X G F_sum_by (c.fact 34 (f := .glo "sum_by") rfl) rfl (F_sum_by.bindsN fun _ _ _ _ _ _ us hl => match us, hl with | [_, _], _ => rfl) (ok_sum_by G0 (He5.fun_of (st := s_sum_by) F_sum_by) )
  have E_packed_text : FE P w K mg base 1 "packed_text" ["thing"] M_packed_text := fe_of (st := s_packed_text) X G F_packed_text (c.fact 35 (f := .glo "packed_text") rfl) rfl (F_packed_text.bindsN fun _ _ _ _ _ _ us hl => match us, hl with | [_], _ => rfl) (ok_packed_text G0 (He5.fun_of (st := s_packed_text) F_packed_text) )
  have E_value_sum : FE P w K mg base 2 "value_sum" ["node", "bits"] M_value_sum := fe_of (st := s_value_sum) X G F_value_sum (c.fact 36 (f := .glo "value_sum") rfl) rfl (F_value_sum.bindsN fun _ _ _ _ _ _ us hl => match us, hl with | [_, _], _ => rfl) (ok_value_sum G0 (He5.fun_of (st := s_value_sum) F_value_sum) E_sum_by E_packed_text)
  have E_node_text : FE P w K mg base 3 "node_text" ["node", "left", "right", "bits"] M_node_text := fe_of (st := s_node_text) X G F_node_text (c.fact 37 (f := .glo "node_text") rfl) rfl (F_node_text.bindsN fun _ _ _ _ _ _ us hl => match us, hl with | [_, _, _, _], _ => rfl) (ok_node_text G0 (He5.fun_of (st := s_node_text) F_node_text) E_value_sum)
  have E_roots_under : FE P w K mg base 4 "roots_under" ["place", "part", "bits"] M_roots_under := fe_of (st := s_roots_under) X G F_roots_under (c.fact 38 (f := .glo "roots_under") rfl) rfl (F_roots_under.bindsN fun _ _ _ _ _ _ us hl => match us, hl with | [_, _, _], _ => rfl) (ok_roots_under G0 (He5.fun_of (st := s_roots_under) F_roots_under) E_nodes_under E_node_text E_sum_by E_many_in)
  have E_roots_of : FE P w K mg base 5 "roots_of" ["tree", "bits"] M_roots_of := fe_of (st := s_roots_of) X G F_roots_of (c.fact 39 (f := .glo "roots_of") rfl) rfl (F_roots_of.bindsN fun _ _ _ _ _ _ us hl => match us, hl with | [_, _], _ => rfl) (ok_roots_of G0 (He5.fun_of (st := s_roots_of) F_roots_of) E_roots_under)
  have E_nodes_of : FE P w K mg base 2 "nodes_of" ["tree"] M_nodes_of := fe_of (st := s_nodes_of) X G F_nodes_of (c.fact 40 (f := .glo "nodes_of") rfl) rfl (F_nodes_of.bindsN fun _ _ _ _ _ _ us hl => match us, hl with | [_], _ => rfl) (ok_nodes_of G0 (He5.fun_of (st := s_nodes_of) F_nodes_of) E_nodes_under)
  have E_closed : FE P w K mg base 3 "closed" ["node", "root", "bits"] M_closed := fe_of (st := s_closed) X G F_closed (c.fact 41 (f := .glo "closed") rfl) rfl (F_closed.bindsN fun _ _ _ _ _ _ us hl => match us, hl with | [_, _, _], _ => rfl) (ok_closed G0 (He5.fun_of (st := s_closed) F_closed) E_value_sum)
  have E_rebuilt : FE P w K mg base 3 "rebuilt" ["tree", "kept"] M_rebuilt := fe_of (st := s_rebuilt) X G F_rebuilt (c.fact 42 (f := .glo "rebuilt") rfl) rfl (F_rebuilt.bindsN fun _ _ _ _ _ _ us hl => match us, hl with | [_, _], _ => rfl) (ok_rebuilt G0 (He5.fun_of (st := s_rebuilt) F_rebuilt) E_nodes_of)
  have E_cut_away : FE P w K mg base 6 "cut_away" ["tree", "places", "bits"] M_cut_away := fe_of (st := s_cut_away) X G F_cut_away (c.fact 43 (f := .glo "cut_away") rfl) rfl (F_cut_away.bindsN fun _ _ _ _ _ _ us hl => match us, hl with | [_, _, _], _ => rfl) (ok_cut_away G0 (He5.fun_of (st := s_cut_away) F_cut_away) E_roots_of E_nodes_of E_closed E_rebuilt)
  have E_places_to : FE P w K mg base 3 "places_to" ["tree", "keys"] M_places_to := fe_of (st := s_places_to) X G F_places_to (c.fact 44 (f := .glo "places_to") rfl) rfl (F_places_to.bindsN fun _ _ _ _ _ _ us hl => match us, hl with | [_, _], _ => rfl) (ok_places_to G0 (He5.fun_of (st := s_places_to) F_places_to) E_way_to)
  have E_witness_for : FE P w K mg base 7 "witness_for" ["tree", "keys", "bits"] M_witness_for := fe_of (st := s_witness_for) X G F_witness_for (c.fact 45 (f := .glo "witness_for") rfl) rfl (F_witness_for.bindsN fun _ _ _ _ _ _ us hl => match us, hl with | [_, _, _], _ => rfl) (ok_witness_for G0 (He5.fun_of (st := s_witness_for) F_witness_for) E_is_open E_cut_away E_places_to (E_Missing base))
  have E_cut_for : FE P w K mg base 8 "cut_for" ["tree", "keys", "bits"] M_cut_for := fe_of (st := s_cut_for) X G F_cut_for (c.fact 46 (f := .glo "cut_for") rfl) rfl (F_cut_for.bindsN fun _ _ _ _ _ _ us hl => match us, hl with | [_, _, _], _ => rfl) (ok_cut_for G0 (He5.fun_of (st := s_cut_for) F_cut_for) E_need_tree E_need_keys E_need_bits E_witness_for)
  have E__law_power : FE P w K mg base 1 "_law_power" ["many"] M__law_power := fe_of (st := s__law_power) X G F__law_power (c.fact 47 (f := .glo "_law_power") rfl) rfl (F__law_power.bindsN fun _ _ _ _ _ _ us hl => match us, hl with | [_], _ => rfl) (ok__law_power G0 (He5.fun_of (st := s__law_power) F__law_power) )
  have E__law_bit : FE P w K mg base 2 "_law_bit" ["spot", "depth"] M__law_bit := fe_of (st := s__law_bit) X G F__law_bit (c.fact 48 (f := .glo "_law_bit") rfl) rfl (F__law_bit.bindsN fun _ _ _ _ _ _ us hl => match us, hl with | [_, _], _ => rfl) (ok__law_bit G0 (He5.fun_of (st := s__law_bit) F__law_bit) E__law_power)
  have E__law_split : FE P w K mg base 3 "_law_split" ["pairs"] M__law_split := fe_of (st := s__law_split) X G F__law_split (c.fact 49 (f := .glo "_law_split") rfl) rfl (F__law_split.bindsN fun _ _ _ _ _ _ us hl => match us, hl with | [_], _ => rfl) (ok__law_split G0 (He5.fun_of (st := s__law_split) F__law_split) E__law_bit)
  have E__law_sum : FE P w K mg base 2 "_law_sum" ["text", "bits"] M__law_sum := fe_of (st := s__law_sum) X G F__law_sum (c.fact 50 (f := .glo "_law_sum") rfl) rfl (F__law_sum.bindsN fun _ _ _ _ _ _ us hl => match us, hl with | [_, _], _ => rfl) (ok__law_sum G0 (He5.fun_of (st := s__law_sum) F__law_sum) E__law_power)
  have E__law_packed : FE P w K mg base 1 "_law_packed" ["thing"] M__law_packed := fe_of (st := s__law_packed) X G F__law_packed (c.fact 51 (f := .glo "_law_packed") rfl) rfl (F__law_packed.bindsN fun _ _ _ _ _ _ us hl => match us, hl with | [_], _ => rfl) (ok__law_packed G0 (He5.fun_of (st := s__law_packed) F__law_packed) )
  have E__law_node_text : FE P w K mg base 3 "_law_node_text" ["place", "here", "told", "bits"] M__law_node_text := fe_of (st := s__law_node_text) X G F__law_node_text (c.fact 52 (f := .glo "_law_node_text") rfl) rfl (F__law_node_text.bindsN fun _ _ _ _ _ _ us hl => match us, hl with | [_, _, _, _], _ => rfl) (ok__law_node_text G0 (He5.fun_of (st := s__law_node_text) F__law_node_text) E__law_sum E__law_packed)
  have E__law_roots : FE P w K mg base 4 "_law_roots" ["kept", "bits"] M__law_roots := fe_of (st := s__law_roots) X G F__law_roots (c.fact 53 (f := .glo "_law_roots") rfl) rfl (F__law_roots.bindsN fun _ _ _ _ _ _ us hl => match us, hl with | [_, _], _ => rfl) (ok__law_roots G0 (He5.fun_of (st := s__law_roots) F__law_roots) E__law_split E__law_sum E__law_node_text)
  have E__law_spot_text : FE P w K mg base 3 "_law_spot_text" ["spot"] M__law_spot_text := fe_of (st := s__law_spot_text) X G F__law_spot_text (c.fact 54 (f := .glo "_law_spot_text") rfl) rfl (F__law_spot_text.bindsN fun _ _ _ _ _ _ us hl => match us, hl with | [_], _ => rfl) (ok__law_spot_text G0 (He5.fun_of (st := s__law_spot_text) F__law_spot_text) E__law_bit)
  have E__law_cut : FE P w K mg base 5 "_law_cut" ["kept", "spots", "bits"] M__law_cut := fe_of (st := s__law_cut) X G F__law_cut (c.fact 55 (f := .glo "_law_cut") rfl) rfl (F__law_cut.bindsN fun _ _ _ _ _ _ us hl => match us, hl with | [_, _, _], _ => rfl) (ok__law_cut G0 (He5.fun_of (st := s__law_cut) F__law_cut) E__law_roots E__law_spot_text E__law_split E__law_sum E__law_packed)
  have E_root_of : FE P w K mg base 6 "root_of" ["tree", "bits"] M_root_of := fe_of (st := s_root_of) X G F_root_of (c.fact 56 (f := .glo "root_of") rfl) rfl (F_root_of.bindsN fun _ _ _ _ _ _ us hl => match us, hl with | [_, _], _ => rfl) (ok_root_of G0 (He5.fun_of (st := s_root_of) F_root_of) E_roots_of)
  have E_root : FE P w K mg base 8 "root" ["tree", "bits"] M_root := fe_of (st := s_root) X G F_root (c.fact 57 (f := .glo "root") rfl) rfl (F_root.bindsN fun _ _ _ _ _ _ us hl => match us, hl with | [_, _], _ => rfl) (ok_root G0 (He5.fun_of (st := s_root) F_root) E_need_tree E_need_bits E_root_of)
  have E_is_closed : FE P w K mg base 1 "is_closed" ["node"] M_is_closed := fe_of (st := s_is_closed) X G F_is_closed (c.fact 58 (f := .glo "is_closed") rfl) rfl (F_is_closed.bindsN fun _ _ _ _ _ _ us hl => match us, hl with | [_], _ => rfl) (ok_is_closed G0 (He5.fun_of (st := s_is_closed) F_is_closed) )
  have E_stands_for : FE P w K mg base 3 "stands_for" ["node", "root", "told", "bits"] M_stands_for := fe_of (st := s_stands_for) X G F_stands_for (c.fact 59 (f := .glo "stands_for") rfl) rfl (F_stands_for.bindsN fun _ _ _ _ _ _ us hl => match us, hl with | [_, _, _, _], _ => rfl) (ok_stands_for G0 (He5.fun_of (st := s_stands_for) F_stands_for) E_value_sum)
  have E_alike : FE P w K mg base 1 "alike" ["one", "other"] M_alike := fe_of (st := s_alike) X G F_alike (c.fact 60 (f := .glo "alike") rfl) rfl (F_alike.bindsN fun _ _ _ _ _ _ us hl => match us, hl with | [_, _], _ => rfl) (ok_alike G0 (He5.fun_of (st := s_alike) F_alike) )
  have E_is_pruning_of : FE P w K mg base 6 "is_pruning_of" ["full", "tree", "bits"] M_is_pruning_of := fe_of (st := s_is_pruning_of) X G F_is_pruning_of (c.fact 61 (f := .glo "is_pruning_of") rfl) rfl (F_is_pruning_of.bindsN fun _ _ _ _ _ _ us hl => match us, hl with | [_, _, _], _ => rfl) (ok_is_pruning_of G0 (He5.fun_of (st := s_is_pruning_of) F_is_pruning_of) E_roots_of E_nodes_of E_is_closed E_stands_for E_alike)
  have E_is_pruning : FE P w K mg base 8 "is_pruning" ["full", "tree", "bits"] M_is_pruning := fe_of (st := s_is_pruning) X G F_is_pruning (c.fact 62 (f := .glo "is_pruning") rfl) rfl (F_is_pruning.bindsN fun _ _ _ _ _ _ us hl => match us, hl with | [_, _, _], _ => rfl) (ok_is_pruning G0 (He5.fun_of (st := s_is_pruning) F_is_pruning) E_need_tree E_need_bits E_is_pruning_of)
  have E__law_end : FE P w K mg base 3 "_law_end" ["tree", "spot"] M__law_end := fe_of (st := s__law_end) X G F__law_end (c.fact 63 (f := .glo "_law_end") rfl) rfl (F__law_end.bindsN fun _ _ _ _ _ _ us hl => match us, hl with | [_, _], _ => rfl) (ok__law_end G0 (He5.fun_of (st := s__law_end) F__law_end) E__law_bit)
  have E__law_flag : FE P w K mg base 1 "_law_flag" ["found", "due"] M__law_flag := fe_of (st := s__law_flag) X G F__law_flag (c.fact 64 (f := .glo "_law_flag") rfl) rfl (F__law_flag.bindsN fun _ _ _ _ _ _ us hl => match us, hl with | [_, _], _ => rfl) (ok__law_flag G0 (He5.fun_of (st := s__law_flag) F__law_flag) )
  have E_opens : FE P w K mg base 8 "opens" ["tree", "key"] M_opens := fe_of (st := s_opens) X G F_opens (c.fact 65 (f := .glo "opens") rfl) rfl (F_opens.bindsN fun _ _ _ _ _ _ us hl => match us, hl with | [_, _], _ => rfl) (ok_opens G0 (He5.fun_of (st := s_opens) F_opens) E_need_tree E_is_spot E_is_open)
  have E_value_at : FE P w K mg base 3 "value_at" ["tree", "key"] M_value_at := fe_of (st := s_value_at) X G F_value_at (c.fact 66 (f := .glo "value_at") rfl) rfl (F_value_at.bindsN fun _ _ _ _ _ _ us hl => match us, hl with | [_, _], _ => rfl) (ok_value_at G0 (He5.fun_of (st := s_value_at) F_value_at) E_way_to (E_Missing base))
  have E_get : FE P w K mg base 8 "get" ["tree", "key"] M_get := fe_of (st := s_get) X G F_get (c.fact 67 (f := .glo "get") rfl) rfl (F_get.bindsN fun _ _ _ _ _ _ us hl => match us, hl with | [_, _], _ => rfl) (ok_get G0 (He5.fun_of (st := s_get) F_get) E_need_tree E_need_key E_value_at)
  have E_put : FE P w K mg base 8 "put" ["tree", "key", "value"] M_put := fe_of (st := s_put) X G F_put (c.fact 68 (f := .glo "put") rfl) rfl (F_put.bindsN fun _ _ _ _ _ _ us hl => match us, hl with | [_, _, _], _ => rfl) (ok_put G0 (He5.fun_of (st := s_put) F_put) E_need_tree E_need_key E_need_value E_changed_at)
  have E__law_try : FE P w K mg base 9 "_law_try" ["tree", "spot", "value"] M__law_try := fe_of (st := s__law_try) X G F__law_try (c.fact 69 (f := .glo "_law_try") rfl) rfl (F__law_try.bindsN fun _ _ _ _ _ _ us hl => match us, hl with | [_, _, _], _ => rfl) (ok__law_try G0 (He5.fun_of (st := s__law_try) F__law_try) E_get E_put)
  have E__law_whole_tree : FE P w K mg base 4 "_law_whole_tree" ["kept"] M__law_whole_tree := fe_of (st := s__law_whole_tree) X G F__law_whole_tree (c.fact 70 (f := .glo "_law_whole_tree") rfl) rfl (F__law_whole_tree.bindsN fun _ _ _ _ _ _ us hl => match us, hl with | [_], _ => rfl) (ok__law_whole_tree G0 (He5.fun_of (st := s__law_whole_tree) F__law_whole_tree) E__law_split)
  have E__law_root : FE P w K mg base 5 "_law_root" ["kept", "bits"] M__law_root := fe_of (st := s__law_root) X G F__law_root (c.fact 71 (f := .glo "_law_root") rfl) rfl (F__law_root.bindsN fun _ _ _ _ _ _ us hl => match us, hl with | [_, _], _ => rfl) (ok__law_root G0 (He5.fun_of (st := s__law_root) F__law_root) E__law_roots)
  exact ok_law G0 (He5.fun_of (st := s_law) F_law) E__law_map E__law_at E__law_bits E__law_spots E_led_tree E_cut_for E__law_cut E_root E_is_pruning E__law_row E__law_end E__law_flag E_opens E__law_try E_put E__law_whole_tree E__law_root
theorem holds_of (law : ∀ ns : List Int, ns.length ≤ 63 → M_law [.scr ns] = .ok (.bl true)) : PySem.Challenge.rw_leanledger_k49_whole_witnesses_lead_alik.Holds := by
  open PySem.W PySem.Calls PyProof.Rows in
  w_on; o_law
  refine HandSHeadRun.head_any (r := PySem.W.OpenLaw.row PySem.Challenge.rw_leanledger_k49_whole_witnesses_lead_alik) (q := PySem.W.view (PySem.W.OpenLaw.row PySem.Challenge.rw_leanledger_k49_whole_witnesses_lead_alik).prog [101]) (H := hk) (ob := ob) (M := 6000) (loose := loose) (d := HandSHeadRun.topDef (PySem.W.OpenLaw.row PySem.Challenge.rw_leanledger_k49_whole_witnesses_lead_alik).prog 101) (kwd := []) ob_eq
    (by kernel_rfl) (fun s => by kernel_rfl) run (by kernel_rfl) (by kernel_rfl) (by kernel_rfl) (by rfl) (by first | assumption | decide +kernel) (by decide +kernel) ⟨rfl, rfl, rfl, rfl, rfl, by decide +kernel⟩ ?hw ?hc
  case hw => w_witness2
  case hc =>
    refine L2.walk_ofE (l := PySem.Challenge.rw_leanledger_k49_whole_witnesses_lead_alik) (n := 63) (k := 10) (x := "script") (CX := L2.CX0) rfl (by decide) (by kernel_rfl) ⟨rfl, by decide, by decide⟩ ?F (fun _ _ _ _ z => z)
    intro w mg fa h Y G hmg0
    obtain ⟨K, KX, c⟩ := Y
    have hmg : mg ("law" : PySem.Str) = some (.ref fa) := by
      have e : (HandSHeadRun.topDef (PySem.W.OpenLaw.row PySem.Challenge.rw_leanledger_k49_whole_witnesses_lead_alik).prog 101).name = ("law" : PySem.Str) := by kernel_rfl
      rw [← e]
      exact hmg0
    obtain ⟨fd, hb, hF⟩ := facts (P := PySem.Challenge.rw_leanledger_k49_whole_witnesses_lead_alik.prog) (w := w) KX G hmg c
    exact ⟨K, fd, spD0 K mg M_law, KX, hb, fun H a ns hl _ hS => law_sp (law ns hl) hS, hF⟩
end K49
set_option maxHeartbeats 200000
namespace K49
open DL
open PySem (Str)
def b__law_nodes : DS := (sSq (sAs (gN 1) (dLst (daC (dTup (daC (dC (.str "")) (daC (dV 0) daN))) daN)))
  (sSq (sAs (gN 2) (dC (.int 0)))
  (sSq (sWh (dtAnd (dB (d2 opLt (dV 2) (d1 fLen (dV 1)))) (dB (d2 opLt (dV 2) (dC (.int 70000))))) (sSq (sAs (gT [3, 4]) (d2 opIx (dV 1) (dV 2)))
  (sSq (sIf (dB (d2 opEq (d2 opIx (dV 4) (dC (.int 0))) (dC (.str "fork")))) (sSq (sAs (gN 1) (d2 opAdd (dV 1) (dLst (daC (dTup (daC (d2 opAdd (dV 3) (dC (.str "0"))) (daC (d2 opIx (dV 4) (dC (.int 2))) daN))) (daC (dTup (daC (d2 opAdd (dV 3) (dC (.str "1"))) (daC (d2 opIx (dV 4) (dC (.int 3))) daN))) daN)))))
  sNx) sNx)
  (sSq (sAs (gN 2) (d2 opAdd (dV 2) (dC (.int 1))))
  sNx))))
  (sSq (sRet (dV 1))
  sNx))))
def M__law_nodes : List D → Res D := defM 5 1 b__law_nodes
def b_open_places : DS := (sSq (sRet (dDc (diL (dCall M_nodes_of (daC (dV 0) daN))) [1, 2] (gT [1, 2]) (dtNot (dTr (dCall M_is_closed (daC (dV 2) daN)))) (dV 1) (dV 2)))
  sNx)
def M_open_places : List D → Res D := defM 3 1 b_open_places
def b_open_count : DS := (sSq (sE (dCall M_need_tree (daC (dV 0) daN)))
  (sSq (sRet (d1 fLen (dCall M_open_places (daC (dV 0) daN))))
  sNx))
def M_open_count : List D → Res D := defM 1 1 b_open_count
def b__law_shows : DS := (sSq (sRet (d2 opNotIn (d2 opIx (dV 0) (dC (.int 0))) (dLst (daC (dC (.str "cut")) (daC (dC (.str "shut")) daN)))))
  sNx)
def M__law_shows : List D → Res D := defM 1 1 b__law_shows
def b_cut_many : DS := (sSq (sE (dCall M_need_tree (daC (dV 0) daN)))
  (sSq (sRet (d1 fSum (dLc (diL (dCall M_nodes_of (daC (dV 0) daN))) [1, 2] (gT [1, 2]) (dB (d2 opEq (d2 opIx (dV 2) (dC (.int 0))) (dC (.str "cut")))) (dCall M_many_in (daC (dV 2) daN)))))
  sNx))
def M_cut_many : List D → Res D := defM 3 1 b_cut_many
def b_is_least : DS := (sSq (sE (dCall M_need_tree (daC (dV 0) daN)))
  (sSq (sE (dCall M_need_keys (daC (dV 1) daN)))
  (sSq (sE (dCall M_need_bits (daC (dV 2) daN)))
  (sSq (sIf (dtNot (dTr (d1 fAll (dLc (diL (dV 1)) [3] (gN 3) tT (dCall M_is_open (daC (dV 0) (daC (dV 3) daN))))))) (sSq (sRet (dC (.bl false)))
  sNx) sNx)
  (sSq (sRet (d2 opEq (dCall M_witness_for (daC (dV 0) (daC (dV 1) (daC (dV 2) daN)))) (dV 0)))
  sNx)))))
def M_is_least : List D → Res D := defM 4 3 b_is_least
def b_closed_again : DS := (sSq (sRet (dCall M_cut_for (daC (dV 0) (daC (dV 1) (daC (dV 2) daN)))))
  sNx)
def M_closed_again : List D → Res D := defM 3 3 b_closed_again
def b_is_witness : DS := (sSq (sRet (dAnd (dCall M_is_tree (daC (dV 1) daN)) (d2 opEq (d2 opIx (dCall M_roots_of (daC (dV 1) (daC (dV 2) daN))) (dC (.str ""))) (dV 0))))
  sNx)
def M_is_witness : List D → Res D := defM 3 3 b_is_witness
def b__law_at_place : DS := (sSq (sAs (gN 3) (dLst daN))
  (sSq (sAs (gN 4) (dV 0))
  (sSq (sFor (diStr (dV 1)) (gN 5) (sSq (sApp 3 (dTup (daC (dV 4) (daC (d1 fInt (dV 5)) daN))))
  (sSq (sAs (gN 4) (d2 opIx (dV 4) (d2 opAdd (dC (.int 2)) (d1 fInt (dV 5)))))
  sNx)))
  (sSq (sFor (diL (d1 opRev (dV 3))) (gT [6, 7]) (sSq (sIf (dB (d2 opEq (dV 7) (dC (.int 0)))) (sSq (sAs (gN 2) (dTup (daC (dC (.str "fork")) (daC (d2 opIx (dV 6) (dC (.int 1))) (daC (dV 2) (daC (d2 opIx (dV 6) (dC (.int 3))) daN))))))
  sNx) (sSq (sAs (gN 2) (dTup (daC (dC (.str "fork")) (daC (d2 opIx (dV 6) (dC (.int 1))) (daC (d2 opIx (dV 6) (dC (.int 2))) (daC (dV 2) daN))))))
  sNx))
  sNx))
  (sSq (sRet (dV 2))
  sNx)))))
def M__law_at_place : List D → Res D := defM 8 3 b__law_at_place
def b__law_other_value : DS := (sSq (sAs (gN 3) (dCall M__law_sum (daC (dCall M__law_packed (daC (dV 1) daN)) (daC (dV 0) daN))))
  (sSq (sFor (diR2 (dC (.int 1)) (dV 2)) (gN 4) (sSq (sIf (dtAnd (dB (d2 opNe (dV 4) (dV 1))) (dB (d2 opEq (dCall M__law_sum (daC (dCall M__law_packed (daC (dV 4) daN)) (daC (dV 0) daN))) (dV 3)))) (sSq (sRet (dV 4))
  sNx) sNx)
  sNx))
  (sSq (sRet (dC .non))
  sNx)))
def M__law_other_value : List D → Res D := defM 5 3 b__law_other_value
def b__law_forged : DS := (sSq (sAs (gN 3) (dLst daN))
  (sSq (sAs (gN 4) (dV 0))
  (sSq (sFor (diR1 (dC (.int 17))) (gN 5) (sSq (sIf (dB (d2 opEq (d2 opIx (dV 4) (dC (.int 0))) (dC (.str "fork")))) (sSq (sAs (gN 6) (dCall M__law_bit (daC (dV 1) (daC (d1 fLen (dV 3)) daN))))
  (sSq (sApp 3 (dTup (daC (dV 4) (daC (dV 6) daN))))
  (sSq (sAs (gN 4) (d2 opIx (dV 4) (d2 opAdd (dC (.int 2)) (dV 6))))
  sNx))) sNx)
  sNx))
  (sSq (sFor (diL (d1 opRev (dV 3))) (gT [7, 6]) (sSq (sIf (dB (d2 opEq (dV 6) (dC (.int 0)))) (sSq (sAs (gN 2) (dTup (daC (dC (.str "fork")) (daC (d2 opIx (dV 7) (dC (.int 1))) (daC (dV 2) (daC (d2 opIx (dV 7) (dC (.int 3))) daN))))))
  sNx) (sSq (sAs (gN 2) (dTup (daC (dC (.str "fork")) (daC (d2 opIx (dV 7) (dC (.int 1))) (daC (d2 opIx (dV 7) (dC (.int 2))) (daC (dV 2) daN))))))
  sNx))
  sNx))
  (sSq (sRet (dV 2))
  sNx)))))
def M__law_forged : List D → Res D := defM 8 3 b__law_forged
def b_need_alike : DS := (sSq (sE (dCall M_need_tree (daC (dV 0) daN)))
  (sSq (sE (dCall M_need_tree (daC (dV 1) daN)))
  (sSq (sE (dCall M_need_bits (daC (dV 2) daN)))
  (sSq (sIf (dB (d2 opNe (dCall M_root_of (daC (dV 0) (daC (dV 2) daN))) (dCall M_root_of (daC (dV 1) (daC (dV 2) daN))))) (sSq (sRai "NoRoot" [] daN)
  sNx) sNx)
  sNx))))
def M_need_alike : List D → Res D := defM 3 3 b_need_alike
def b_has_cuts : DS := (sSq (sRet (d1 fAny (dLc (diL (dCall M_nodes_of (daC (dV 0) daN))) [1, 2] (gT [1, 2]) tT (dCall M_is_closed (daC (dV 2) daN)))))
  sNx)
def M_has_cuts : List D → Res D := defM 3 1 b_has_cuts
def b_is_pair : DS := (sSq (sE (dCall M_need_bits (daC (dV 0) daN)))
  (sSq (sIf (dtOr (dtNot (dTr (dCall M_is_tuple_of (daC (dV 1) (daC (dC (.int 2)) daN))))) (dtOr (dtNot (dTr (d1 fIsStr (d2 opIx (dV 1) (dC (.int 0)))))) (dtNot (dTr (d1 fIsStr (d2 opIx (dV 1) (dC (.int 1)))))))) (sSq (sRet (dC (.bl false)))
  sNx) sNx)
  (sSq (sRet (dAnd (d2 opNe (d2 opIx (dV 1) (dC (.int 0))) (d2 opIx (dV 1) (dC (.int 1)))) (d2 opEq (dCall M_sum_by (daC (d2 opIx (dV 1) (dC (.int 0))) (daC (dV 0) daN))) (dCall M_sum_by (daC (d2 opIx (dV 1) (dC (.int 1))) (daC (dV 0) daN))))))
  sNx)))
def M_is_pair : List D → Res D := defM 2 2 b_is_pair
def b_is_told_apart : DS := (sSq (sE (dCall M_need_alike (daC (dV 0) (daC (dV 1) (daC (dV 2) daN)))))
  (sSq (sIf (dTr (dCall M_has_cuts (daC (dV 0) daN))) (sSq (sRai "NoWitness" [] daN)
  sNx) sNx)
  (sSq (sIf (dB (d2 opIs (dV 3) (dC .non))) (sSq (sRet (dCall M_is_pruning_of (daC (dV 0) (daC (dV 1) (daC (dV 2) daN)))))
  sNx) sNx)
  (sSq (sRet (dAnd (dCall M_is_pair (daC (dV 2) (daC (dV 3) daN))) (dNot (dCall M_is_pruning_of (daC (dV 0) (daC (dV 1) (daC (dV 2) daN)))))))
  sNx))))
def M_is_told_apart : List D → Res D := defM 4 4 b_is_told_apart
def b__law_is_pair : DS := (sSq (sIf (dtOr (dtNot (dTr (d1 fIsTup (dV 1)))) (dtOr (dB (d2 opNe (d1 fLen (dV 1)) (dC (.int 2)))) (dtNot (dTr (d1 fAll (dLc (diL (dV 1)) [2] (gN 2) tT (d1 fIsStr (dV 2)))))))) (sSq (sRet (dC (.bl false)))
  sNx) sNx)
  (sSq (sRet (dAnd (d2 opNe (d2 opIx (dV 1) (dC (.int 0))) (d2 opIx (dV 1) (dC (.int 1)))) (d2 opEq (dCall M__law_sum (daC (d2 opIx (dV 1) (dC (.int 0))) (daC (dV 0) daN))) (dCall M__law_sum (daC (d2 opIx (dV 1) (dC (.int 1))) (daC (dV 0) daN))))))
  sNx))
def M__law_is_pair : List D → Res D := defM 3 2 b__law_is_pair
def b_is_less_open : DS := (sSq (sRet (dOr (d2 opEq (d2 opIx (dV 0) (dC (.int 0))) (dC (.str "cut"))) (dAnd (d2 opEq (d2 opIx (dV 0) (dC (.int 0))) (dC (.str "shut"))) (d2 opEq (d2 opIx (dV 1) (dC (.int 0))) (dC (.str "leaf"))))))
  sNx)
def M_is_less_open : List D → Res D := defM 2 2 b_is_less_open
def b_part_of : DS := (sSq (sE (dCall M_need_tree (daC (dV 0) daN)))
  (sSq (sAs (gN 2) (d1 fDict (dCall M_nodes_of (daC (dV 0) daN))))
  (sSq (sIf (dtOr (dtNot (dTr (d1 fIsStr (dV 1)))) (dB (d2 opNotIn (dV 1) (dV 2)))) (sSq (sRai "NoWitness" [] daN)
  sNx) sNx)
  (sSq (sRet (d2 opIx (dV 2) (dV 1)))
  sNx))))
def M_part_of : List D → Res D := defM 3 2 b_part_of
def b_shut_places : DS := (sSq (sE (dCall M_need_tree (daC (dV 0) daN)))
  (sSq (sRet (d1 fTup (d1 fSorted (dLc (diL (dCall M_nodes_of (daC (dV 0) daN))) [1, 2] (gT [1, 2]) (dTr (dCall M_is_closed (daC (dV 2) daN))) (dTup (daC (dV 1) (daC (dV 2) daN)))))))
  sNx))
def M_shut_places : List D → Res D := defM 3 1 b_shut_places
def b_fits : DS := (sSq (sIf (dB (d2 opEq (d2 opIx (dV 0) (dC (.int 0))) (dC (.str "cut")))) (sSq (sRet (dAnd (d2 opNe (d2 opIx (dV 1) (dC (.int 0))) (dC (.str "cut"))) (d2 opEq (dV 2) (dSl (dV 0) (doS (dC (.int 1))) doN))))
  sNx) sNx)
  (sSq (sRet (dAnd (d2 opEq (d2 opIx (dV 1) (dC (.int 0))) (dC (.str "leaf"))) (dAnd (d2 opEq (d2 opIx (dV 1) (dC (.int 1))) (d2 opIx (dV 0) (dC (.int 1)))) (d2 opEq (dCall M_value_sum (daC (dV 1) (daC (dV 3) daN))) (d2 opIx (dV 0) (dC (.int 2)))))))
  sNx))
def M_fits : List D → Res D := defM 4 4 b_fits
def b_place_of : DS := (sSq (sRet (dSm mJoin (dC (.str "")) (dLc (diL (dV 0)) [1, 2] (gT [1, 2]) tT (d1 fStr (dV 2)))))
  sNx)
def M_place_of : List D → Res D := defM 3 1 b_place_of
def b_need_bounds : DS := (sSq (sIf (dtOr (dtNot (dTr (dCall M_is_spot (daC (dV 0) daN)))) (dtNot (dTr (dCall M_is_between (daC (dV 1) (daC (dV 0) (daC (d2 opSub (dC (.int 65536)) (dC (.int 1))) daN))))))) (sSq (sRai "NoKey" [] daN)
  sNx) sNx)
  sNx)
def M_need_bounds : List D → Res D := defM 2 2 b_need_bounds
def b__law_rank_due : DS := (sSq (sFor (diL (dV 1)) (gT [3, 4, 5]) (sSq (sIf (dtAnd (dTr (dV 5)) (dtAnd (dB (d2 opLt (dV 3) (dV 2))) (dB (d2 opLe (dV 2) (dV 4))))) (sSq (sRet (d2 opAdd (dC (.str "missing ")) (d1 fStr (dV 2))))
  sNx) sNx)
  sNx))
  (sSq (sRet (d1 fLen (dLc (diL (dV 0)) [6] (gN 6) (dB (d2 opLt (dV 6) (dV 2))) (dV 6))))
  sNx))
def M__law_rank_due : List D → Res D := defM 7 3 b__law_rank_due
def b_is_row : DS := (sSq (sIf (dtOr (dtNot (dTr (d1 fIsTup (dV 0)))) (dB (d2 opGt (d1 fLen (dV 0)) (dC (.int 400))))) (sSq (sRet (dC (.bl false)))
  sNx) sNx)
  (sSq (sRet (d1 fAll (dLc (diL (dV 0)) [1] (gN 1) tT (dAnd (d1 fIsStr (dV 1)) (dChain opLt opLe (dC (.int 0)) (d1 fLen (dV 1)) (dC (.int 60000)))))))
  sNx))
def M_is_row : List D → Res D := defM 2 1 b_is_row
def b_need_row : DS := (sSq (sIf (dtNot (dTr (dCall M_is_row (daC (dV 0) daN)))) (sSq (sRai "NoRow" [] daN)
  sNx) sNx)
  sNx)
def M_need_row : List D → Res D := defM 1 1 b_need_row
def b_leaves_of : DS := (sSq (sRet (dLc (diL (dCall M_nodes_of (daC (dV 0) daN))) [1, 2] (gT [1, 2]) (dB (d2 opEq (d2 opIx (dV 2) (dC (.int 0))) (dC (.str "leaf")))) (dTup (daC (d2 opIx (dV 2) (dC (.int 1))) (daC (d2 opIx (dV 2) (dC (.int 2))) daN)))))
  sNx)
def M_leaves_of : List D → Res D := defM 3 1 b_leaves_of
def b_item_in : DS := (sSq (sIf (dtNot (dTr (dCall M_is_under (daC (dV 1) (daC (dCall M_many_in (daC (dV 0) daN)) daN))))) (sSq (sRai "NoItem" [] daN)
  sNx) sNx)
  (sSq (sAs (gN 2) (dCall M_value_at (daC (dV 0) (daC (dV 1) daN))))
  (sSq (sIf (dtNot (dTr (d1 fIsStr (dV 2)))) (sSq (sRai "NoItem" [] daN)
  sNx) sNx)
  (sSq (sRet (dV 2))
  sNx))))
def M_item_in : List D → Res D := defM 3 2 b_item_in
def b_item_witness : DS := (sSq (sE (dCall M_need_tree (daC (dV 0) daN)))
  (sSq (sE (dCall M_need_bits (daC (dV 2) daN)))
  (sSq (sE (dCall M_item_in (daC (dV 0) (daC (dV 1) daN))))
  (sSq (sRet (dCall M_witness_for (daC (dV 0) (daC (dTup (daC (dV 1) daN)) (daC (dV 2) daN)))))
  sNx))))
def M_item_witness : List D → Res D := defM 3 3 b_item_witness
def b_item : DS := (sSq (sE (dCall M_need_tree (daC (dV 0) daN)))
  (sSq (sRet (dCall M_item_in (daC (dV 0) (daC (dV 1) daN))))
  sNx))
def M_item : List D → Res D := defM 2 2 b_item
def b_end_witness : DS := (sSq (sE (dCall M_need_tree (daC (dV 0) daN)))
  (sSq (sE (dCall M_need_bits (daC (dV 1) daN)))
  (sSq (sRet (dCall M_witness_for (daC (dV 0) (daC (dTup (daC (dCall M_many_in (daC (dV 0) daN)) daN)) (daC (dV 1) daN)))))
  sNx)))
def M_end_witness : List D → Res D := defM 2 2 b_end_witness
def b_put_behind : DS := (sSq (sRet (dCall M_changed_at (daC (dV 0) (daC (dCall M_many_in (daC (dV 0) daN)) (daC (dV 1) daN)))))
  sNx)
def M_put_behind : List D → Res D := defM 2 2 b_put_behind
def b_behind : DS := (sSq (sE (dCall M_need_tree (daC (dV 0) daN)))
  (sSq (sIf (dtOr (dtNot (dTr (dCall M_is_row (daC (dTup (daC (dV 1) daN)) daN)))) (dtNot (dTr (dCall M_is_spot (daC (dCall M_many_in (daC (dV 0) daN)) daN))))) (sSq (sRai "NoRow" [] daN)
  sNx) sNx)
  (sSq (sRet (dCall M_put_behind (daC (dV 0) (daC (dV 1) daN))))
  sNx)))
def M_behind : List D → Res D := defM 2 2 b_behind
def b_need_whole : DS := (sSq (sE (dCall M_need_tree (daC (dV 0) daN)))
  (sSq (sIf (dTr (dCall M_has_cuts (daC (dV 0) daN))) (sSq (sRai "NoWitness" [] daN)
  sNx) sNx)
  sNx))
def M_need_whole : List D → Res D := defM 1 1 b_need_whole
def b_texts_of : DS := (sSq (sE (dCall M_need_tree (daC (dV 0) daN)))
  (sSq (sE (dCall M_need_bits (daC (dV 1) daN)))
  (sSq (sAs (gN 2) (dCall M_roots_of (daC (dV 0) (daC (dV 1) daN))))
  (sSq (sRet (dDc (diL (dCall M_nodes_of (daC (dV 0) daN))) [3, 4] (gT [3, 4]) (dB (d2 opNe (d2 opIx (dV 4) (dC (.int 0))) (dC (.str "cut")))) (dV 3) (dCall M_node_text (daC (dV 4) (daC (dGet1 (dV 2) (d2 opAdd (dV 3) (dC (.str "0")))) (daC (dGet1 (dV 2) (d2 opAdd (dV 3) (dC (.str "1")))) (daC (dV 1) daN)))))))
  sNx))))
def M_texts_of : List D → Res D := defM 5 2 b_texts_of
def b_like_text : DS := (sSq (sIf (dtNot (dTr (d1 fIsStr (dV 0)))) (sSq (sRai "NoText" [] daN)
  sNx) sNx)
  (sSq (sE (dCall M_need_bits (daC (dV 1) daN)))
  (sSq (sAs (gN 3) (dCall M_sum_by (daC (dV 0) (daC (dV 1) daN))))
  (sSq (sFor (diR1 (dV 2)) (gN 4) (sSq (sIf (dtAnd (dB (d2 opNe (d1 fStr (dV 4)) (dV 0))) (dB (d2 opEq (dCall M_sum_by (daC (d1 fStr (dV 4)) (daC (dV 1) daN))) (dV 3)))) (sSq (sRet (d1 fStr (dV 4)))
  sNx) sNx)
  sNx))
  (sSq (sRet (dC .non))
  sNx)))))
def M_like_text : List D → Res D := defM 5 3 b_like_text
def b_sum_of : DS := (sSq (sIf (dtNot (dTr (d1 fIsStr (dV 0)))) (sSq (sRai "NoText" [] daN)
  sNx) sNx)
  (sSq (sE (dCall M_need_bits (daC (dV 1) daN)))
  (sSq (sRet (dCall M_sum_by (daC (dV 0) (daC (dV 1) daN))))
  sNx)))
def M_sum_of : List D → Res D := defM 2 2 b_sum_of
end K49
/-! PA: how meanings are worked out. -/
namespace DL
open PySem (Str)
section
variable {α β : Type} {s : DSt} {a b c : DE} {d x y z : D} {i j : Nat}
@[simp] theorem rb_ok (a : α) (f : α → Res β) : (Res.ok a).bind f = f a := (rfl)
@[simp] theorem rb_err (e : Err) (f : α → Res β) : (Res.err e).bind f = Res.err e := (rfl)
@[simp] theorem rb_stuck (f : α → Res β) : (Res.stuck : Res α).bind f = Res.stuck := (rfl)
@[simp] theorem x_dC : dC d s = .ok d := (rfl)
@[simp] theorem x_daN : daN s = .ok [] := (rfl)
@[simp] theorem x_daC {r : DA} : daC a r s = (a s).bind fun x => (r s).bind fun xs => .ok (x :: xs) := (rfl)
@[simp] theorem x_d1 {f : D → Option D} : d1 f a s = (a s).bind fun x => ofO (f x) := (rfl)
@[simp] theorem x_d2 {f : D → D → Option D} : d2 f a b s = (a s).bind fun x => (b s).bind fun y => ofO (f x y) := (rfl)
@[simp] theorem x_ofO_some (a : α) : ofO (some a) = .ok a := (rfl)
@[simp] theorem x_dTup {a : DA} : dTup a s = (a s).bind fun xs => if xs.length ≤ SL then .ok (.tup xs) else .stuck := (rfl)
@[simp] theorem x_dLst {a : DA} : dLst a s = (a s).bind fun xs => if xs.length ≤ SL then .ok (.lst xs) else .stuck := (rfl)
@[simp] theorem x_dCall {f : List D → Res D} {a : DA} : dCall f a s = (a s).bind f := (rfl)
@[simp] theorem x_dCallF {f : List D → Res D} {a : DA} : dCallF f a s = (a s).bind fun xs => (f xs).bind fun d => if d.flat = true then .ok d else .stuck := (rfl)
@[simp] theorem x_dB : dB a s = (a s).bind boolR := (rfl)
@[simp] theorem x_boolR (v : Bool) : boolR (.bl v) = .ok v := (rfl)
@[simp] theorem x_dTr : dTr a s = (a s).bind fun x => ofO (truth x) := (rfl)
@[simp] theorem x_dtAnd {u v : DT} : dtAnd u v s = (u s).bind fun x => if x = true then v s else .ok false := (rfl)
@[simp] theorem x_dtOr {u v : DT} : dtOr u v s = (u s).bind fun x => if x = true then .ok true else v s := (rfl)
@[simp] theorem x_dtNot {u : DT} : dtNot u s = (u s).bind fun x => .ok (!x) := (rfl)
@[simp] theorem x_dAnd : dAnd a b s = (a s).bind fun x => match x with
  | .bl true => b s
  | .bl false => .ok (.bl false)
  | _ => .stuck := (rfl)
@[simp] theorem x_dNot : dNot a s = (a s).bind fun x => match x with
  | .bl b => .ok (.bl (!b))
  | _ => .stuck := (rfl)
@[simp] theorem x_dIfE {u : DT} : dIfE u a b s = (u s).bind fun x => if x = true then a s else b s := (rfl)
@[simp] theorem x_dChain {f g : D → D → Option D} : dChain f g a b c s = (a s).bind fun x => (b s).bind fun y => (ofO (f x y)).bind fun r => match r with
  | .bl true => (c s).bind fun z => ofO (g y z)
  | .bl false => .ok (.bl false)
  | _ => .stuck := (rfl)
@[simp] theorem x_dV0 {s : DSt} : dV 0 (some d :: s) = .ok d := (rfl)
@[simp] theorem x_dVs {u : Option D} {s : DSt} : dV (i + 1) (u :: s) = dV i s := (rfl)
@[simp] theorem x_sNx : sNx s = .nx s := (rfl)
@[simp] theorem x_sNo : sNo s = .stuck := (rfl)
@[simp] theorem x_sSq {t u : DS} : sSq t u s = (match t s with
  | .nx s1 => u s1
  | r => r) := (rfl)
@[simp] theorem x_sE : sE a s = (match a s with
  | .ok _ => .nx s | .err x => .er x s | .stuck => .stuck) := (rfl)
@[simp] theorem x_sRet : sRet a s = (match a s with
  | .ok d => .rt d | .err x => .er x s | .stuck => .stuck) := (rfl)
@[simp] theorem x_sIf {u : DT} {t v : DS} : sIf u t v s = (match u s with
  | .ok true => t s
  | .ok false => v s
  | .err x => .er x s | .stuck => .stuck) := (rfl)
@[simp] theorem x_sAsN : sAs (gN i) a s = (match a s with
  | .ok d => .nx (s.set i (some d))
  | .err x => .er x s | .stuck => .stuck) := by
  unfold sAs gN
  cases a s <;> rfl
@[simp] theorem x_sRai {c : Str} : sRai c [] daN s = .er ⟨c, []⟩ s := (rfl)
@[simp] theorem x_ownL0 {xs : List D} {s : DSt} : ownL (some (.lst xs) :: s) 0 = some xs := (rfl)
@[simp] theorem x_ownLs {u : Option D} {s : DSt} : ownL (u :: s) (i + 1) = ownL s i := (rfl)
@[simp] theorem x_ownD0 {xs : List (Key × D)} {s : DSt} : ownD (some (.dct xs) :: s) 0 = some xs := (rfl)
@[simp] theorem x_ownDs {u : Option D} {s : DSt} : ownD (u :: s) (i + 1) = ownD s i := (rfl)
@[simp] theorem x_sApp : sApp i a s = (match ownL s i with
  | some xs => (match a s with
    | .ok d => if xs.length < SL then .nx (s.set i (some (.lst (xs ++ [d])))) else .stuck
    | .err x => .er x s | .stuck => .stuck)
  | none => .stuck) := (rfl)
theorem x_defM {n k : Nat} {b : DS} {ds : List D} (h : ds.length = k) : defM n k b ds = (match b (ds.map some ++ List.replicate (n - k) none) with
  | .nx _ => .ok .non
  | .rt d => .ok d
  | .er x _ => .err x
  | _ => .stuck) := by
  unfold defM
  rw [if_pos h]
  all_goals cases b (ds.map some ++ List.replicate (n - k) none) <;> rfl
end

/-! ### operations -/
section
variable {i j : Int} {a b c d x : D} {s t : Str} {xs ys : List D}
@[simp] theorem o_add : opAdd (.int i) (.int j) = some (.int (i + j)) := (rfl)
@[simp] theorem o_sub : opSub (.int i) (.int j) = some (.int (i - j)) := (rfl)
@[simp] theorem o_neg : opNeg (.int i) = some (.int (-i)) := (rfl)
theorem o_mul (h : mulOk i j = true) : opMulI (.int i) (.int j) = some (.int (i * j)) := if_pos h
theorem o_mod (h : 0 < j) : opMod (.int i) (.int j) = some (.int (i % j)) := if_pos h
theorem o_fdiv (h : 0 < j) (h' : j < 1073741824) : opFdiv (.int i) (.int j) = some (.int (i / j)) := if_pos ⟨h, h'⟩
theorem o_shr (h : 0 ≤ j) : opShr (.int i) (.int j) = some (.int (i / 2 ^ j.toNat)) := if_pos h
theorem o_and (h : 0 ≤ i) : opAnd (.int i) (.int 1) = some (.int (i % 2)) := if_pos ⟨h, rfl⟩
@[simp] theorem o_eq : opEq (.int i) (.int j) = some (.bl (i == j)) := (rfl)
@[simp] theorem o_ne : opNe (.int i) (.int j) = some (.bl (!(i == j))) := (rfl)
@[simp] theorem o_lt : opLt (.int i) (.int j) = some (.bl (decide (i < j))) := (rfl)
@[simp] theorem o_le : opLe (.int i) (.int j) = some (.bl (decide (i ≤ j))) := (rfl)
@[simp] theorem o_gt : opGt (.int i) (.int j) = some (.bl (decide (j < i))) := (rfl)
@[simp] theorem o_ge : opGe (.int i) (.int j) = some (.bl (decide (j ≤ i))) := (rfl)
@[simp] theorem o_ix1 : opIx (.tup [a]) (.int 0) = some a := (rfl)
@[simp] theorem o_ix20 : opIx (.tup [a, b]) (.int 0) = some a := (rfl)
@[simp] theorem o_ix21 : opIx (.tup [a, b]) (.int 1) = some b := (rfl)
@[simp] theorem o_ix30 : opIx (.tup [a, b, c]) (.int 0) = some a := (rfl)
@[simp] theorem o_ix31 : opIx (.tup [a, b, c]) (.int 1) = some b := (rfl)
@[simp] theorem o_ix32 : opIx (.tup [a, b, c]) (.int 2) = some c := (rfl)
@[simp] theorem o_ix40 : opIx (.tup [a, b, c, d]) (.int 0) = some a := (rfl)
@[simp] theorem o_ix41 : opIx (.tup [a, b, c, d]) (.int 1) = some b := (rfl)
@[simp] theorem o_ix42 : opIx (.tup [a, b, c, d]) (.int 2) = some c := (rfl)
@[simp] theorem o_ix43 : opIx (.tup [a, b, c, d]) (.int 3) = some d := (rfl)
@[simp] theorem o_lenL : fLen (.lst xs) = some (.int xs.length) := (rfl)
@[simp] theorem o_lenT : fLen (.tup xs) = some (.int xs.length) := (rfl)
theorem o_lenS (h : s.length ≤ SL) : fLen (.str s) = some (.int s.length) := if_pos h
@[simp] theorem o_trB {v : Bool} : truth (.bl v) = some v := (rfl)
@[simp] theorem o_trL : truth (.lst xs) = some (!xs.isEmpty) := (rfl)
@[simp] theorem o_trT : truth (.tup xs) = some (!xs.isEmpty) := (rfl)
@[simp] theorem o_int : fInt (.int i) = some (.int i) := (rfl)
theorem atI_nat {α : Type} {l : List α} {n : Nat} {y : α} (h : l[n]? = some y) : L2.atI l (n : Int) = some y := by
  have hn := (List.getElem?_eq_some_iff.mp h).1
  unfold L2.atI L2.ixN
  rw [if_pos (by omega), if_pos (by omega)]
  simpa using h
theorem o_ixL {n : Nat} {y : D} (h : xs[n]? = some y) : opIx (.lst xs) (.int (n : Int)) = some y := by
  show (match L2.atI xs (n : Int) with | some d => some d | none => none) = _
  rw [atI_nat h]
theorem o_ixT {n : Nat} {y : D} (h : xs[n]? = some y) : opIx (.tup xs) (.int (n : Int)) = some y := by
  show (match L2.atI xs (n : Int) with | some d => some d | none => none) = _
  rw [atI_nat h]
end
/-! ### loops -/
section
variable {s : DSt} {a b c : DE} {i j : Int}
theorem rg_succ (lo : Int) (n : Nat) (c : Int) : rg lo (n + 1) c = .int lo :: rg (lo + c) n c := by
  unfold rg
  rw [List.range_succ_eq_map, List.map_cons, List.map_map]
  congr 1
  · simp
  · refine List.map_congr_left fun x _ => ?_
    show D.int (lo + ((x + 1 : Nat) : Int) * c) = D.int (lo + c + (x : Int) * c)
    congr 1
    rw [Int.natCast_add, Int.add_mul]
    omega
theorem x_diR3n (ha : a s = .ok (.int i)) (hb : b s = .ok (.int j)) (hc : c s = .ok (.int (-1))) (h1 : -(2 ^ 62) ≤ i) (h2 : i < 2 ^ 62) (h3 : -(2 ^ 62) ≤ j) (h4 : j < 2 ^ 62) : diR3 a b c s = .ok (rg i (i - j).toNat (-1)) := by
  have e := PySem.W.rangeSize_downNat i j
  unfold diR3
  simp only [x_daC, ha, hb, hc, rb_ok, x_daN]
  rw [if_pos ⟨by decide, by decide, PySem.W.small_down h1 h2 h3 h4, by rw [e]; omega⟩, e, Int.toNat_natCast]
theorem x_sFor {it : DI} {g : DG} {t : DS} {xs : List D} (h : it s = .ok xs) : sFor it g t s = forL g t xs s := by
  unfold sFor
  rw [h]
theorem x_forN {i : Nat} {t : DS} {d : D} {xs : List D} : forL (gN i) t (d :: xs) s = (match t (s.set i (some d)) with
      | .nx s2 => forL (gN i) t xs s2
      | .ct s2 => forL (gN i) t xs s2
      | .bk s2 => .nx s2
      | r => r) := (rfl)
theorem x_for0 {g : DG} {t : DS} : forL g t [] s = .nx s := (rfl)
end
/-- no break -/
def NB (t : DS) : Prop := ∀ s s', t s ≠ .bk s'
theorem forL_cons {g : DG} {t : DS} {d : D} {ds : List D} {s : DSt} : forL g t (d :: ds) s = (match g d s with
  | .ok s1 => (match t s1 with
    | .nx s2 => forL g t ds s2
    | .ct s2 => forL g t ds s2
    | .bk s2 => .nx s2
    | r => r)
  | _ => .stuck) := (rfl)
theorem forL_app {g : DG} {t : DS} (h : NB t) {ys : List D} : ∀ (xs : List D) (s : DSt), forL g t (xs ++ ys) s = (match forL g t xs s with
    | .nx s1 => forL g t ys s1
    | r => r)
  | [], s => rfl
  | x :: xs, s => by
    rw [List.cons_append, forL_cons, forL_cons]
    cases g x s with
    | ok s1 =>
      simp only
      cases e : t s1 with
      | nx s2 => exact forL_app h xs s2
      | ct s2 => exact forL_app h xs s2
      | bk s2 => exact absurd e (h s1 s2)
      | rt d => rfl
      | er x s2 => rfl
      | stuck => rfl
    | err e => rfl
    | stuck => rfl
theorem nb_as {g : DG} {e : DE} : NB (sSq (sAs g e) sNx) := by
  intro s s' h
  unfold sSq sAs sNx at h
  cases q : e s with
  | ok d =>
    rw [q] at h
    simp only at h
    cases q2 : g d s with
    | ok s1 => rw [q2] at h; cases h
    | err x => rw [q2] at h; cases h
    | stuck => rw [q2] at h; cases h
  | err x => rw [q] at h; cases h
  | stuck => rw [q] at h; cases h
theorem x_sAsT {is : List Nat} {a : DE} {s : DSt} : sAs (gT is) a s = (match a s with
  | .ok (.tup ds) => (match setAll is ds s with
    | .ok s1 => .nx s1
    | _ => .stuck)
  | .ok _ => .stuck
  | .err x => .er x s | .stuck => .stuck) := by
  unfold sAs gT
  cases a s with
  | ok d => cases d <;> rfl
  | err x => rfl
  | stuck => rfl
theorem x_forT {is : List Nat} {t : DS} {ds : List D} {xs : List D} {s s1 : DSt} (h : setAll is ds s = .ok s1) : forL (gT is) t (.tup ds :: xs) s = (match t s1 with
      | .nx s2 => forL (gT is) t xs s2
      | .ct s2 => forL (gT is) t xs s2
      | .bk s2 => .nx s2
      | r => r) := by
  show (match setAll is ds s with
      | .ok s1 => (match t s1 with
        | .nx s2 => forL (gT is) t xs s2
        | .ct s2 => forL (gT is) t xs s2
        | .bk s2 => .nx s2
        | r => r)
      | _ => .stuck) = _
  rw [h]
theorem lcL_fm {g : DG} {c : DT} {e : DE} {s : DSt} {P : D → Bool} {f : D → D} : ∀ {xs : List D}, (∀ d ∈ xs, ∃ s1, g d s = .ok s1 ∧ c s1 = .ok (P d) ∧ (P d = true → e s1 = .ok (f d))) → lcL g c e s xs = .ok ((xs.filter P).map f)
  | [], _ => rfl
  | d :: xs, h => by
    obtain ⟨s1, h1, h2, h3⟩ := h d List.mem_cons_self
    have ih := lcL_fm (xs := xs) fun d hd => h d (List.mem_cons_of_mem _ hd)
    unfold lcL
    rw [h1, rb_ok, h2, rb_ok]
    cases q : P d with
    | true => rw [if_pos rfl, h3 q, rb_ok, ih, rb_ok, List.filter_cons_of_pos q, List.map_cons]
    | false => rw [if_neg (by decide), ih, List.filter_cons_of_neg (by rw [q]; decide)]
theorem lcL_map {g : DG} {c : DT} {e : DE} {s : DSt} {f : D → D} {xs : List D} (h : ∀ d ∈ xs, ∃ s1, g d s = .ok s1 ∧ c s1 = .ok true ∧ e s1 = .ok (f d)) : lcL g c e s xs = .ok (xs.map f) := by
  have := lcL_fm (P := fun _ => true) (f := f) fun d hd => let ⟨s1, h1, h2, h3⟩ := h d hd; ⟨s1, h1, h2, fun _ => h3⟩
  rw [this, List.filter_eq_self.mpr fun _ _ => rfl]
theorem x_dLc {it : DI} {vs : List Nat} {g : DG} {c : DT} {e : DE} {s : DSt} {xs ys : List D} (h : it s = .ok xs) (hl : xs.length ≤ SL) (hy : lcL g c e (dwipe s vs) xs = .ok ys) : dLc it vs g c e s = .ok (.lst ys) := by
  unfold dLc
  rw [h, rb_ok, if_pos hl, hy]
  rfl
theorem x_all {xs : List D} (h : ∀ d ∈ xs, d = .bl true) : fAll (.lst xs) = some (.bl true) := by
  have e : ∀ (xs : List D), (∀ d ∈ xs, d = .bl true) → ∃ bs, boolsOf xs = some bs ∧ bs.all id = true := by
    intro xs
    induction xs with
    | nil => intro _; exact ⟨[], rfl, rfl⟩
    | cons d xs ih =>
      intro h
      obtain ⟨bs, e1, e2⟩ := ih fun d hd => h d (List.mem_cons_of_mem _ hd)
      have ed := h d List.mem_cons_self
      subst ed
      exact ⟨true :: bs, by simp [boolsOf, e1], by simpa using e2⟩
  obtain ⟨bs, e1, e2⟩ := e xs h
  unfold fAll
  simp only [e1, e2]
theorem x_def1 {n : Nat} {b : DS} {a0 : D} : defM n 1 b [a0] = (match b ([some a0] ++ List.replicate (n - 1) none) with
  | .nx _ => .ok .non
  | .rt d => .ok d
  | .er x _ => .err x
  | _ => .stuck) := x_defM rfl
theorem x_def2 {n : Nat} {b : DS} {a0 a1 : D} : defM n 2 b [a0, a1] = (match b ([some a0, some a1] ++ List.replicate (n - 2) none) with
  | .nx _ => .ok .non
  | .rt d => .ok d
  | .er x _ => .err x
  | _ => .stuck) := x_defM rfl
theorem x_def3 {n : Nat} {b : DS} {a0 a1 a2 : D} : defM n 3 b [a0, a1, a2] = (match b ([some a0, some a1, some a2] ++ List.replicate (n - 3) none) with
  | .nx _ => .ok .non
  | .rt d => .ok d
  | .er x _ => .err x
  | _ => .stuck) := x_defM rfl
theorem x_def4 {n : Nat} {b : DS} {a0 a1 a2 a3 : D} : defM n 4 b [a0, a1, a2, a3] = (match b ([some a0, some a1, some a2, some a3] ++ List.replicate (n - 4) none) with
  | .nx _ => .ok .non
  | .rt d => .ok d
  | .er x _ => .err x
  | _ => .stuck) := x_defM rfl
theorem x_def5 {n : Nat} {b : DS} {a0 a1 a2 a3 a4 : D} : defM n 5 b [a0, a1, a2, a3, a4] = (match b ([some a0, some a1, some a2, some a3, some a4] ++ List.replicate (n - 5) none) with
  | .nx _ => .ok .non
  | .rt d => .ok d
  | .er x _ => .err x
  | _ => .stuck) := x_defM rfl
theorem x_sPop {g : DG} {i : Nat} {s : DSt} {xs : List D} {d : D} (h : ownL s i = some (xs ++ [d])) : sPop g i s = (match g d (s.set i (some (.lst xs))) with
      | .ok s1 => .nx s1
      | _ => .stuck) := by
  unfold sPop
  rw [h]
  have e : (xs ++ [d])[(xs ++ [d]).length - 1]? = some d := by
    rw [List.length_append, List.length_singleton, Nat.add_sub_cancel]
    simp
  simp only [e, List.dropLast_concat]
  all_goals cases g d (s.set i (some (.lst xs))) <;> rfl
theorem x_sExt {i : Nat} {a : DE} {s : DSt} {xs ds : List D} (h : ownL s i = some xs) (h2 : a s = .ok (.lst ds)) (h3 : xs.length + ds.length ≤ SL) : sExt i a s = .nx (s.set i (some (.lst (xs ++ ds)))) := by
  unfold sExt
  rw [h, h2]
  simp only
  rw [if_pos h3]
theorem x_gT {is : List Nat} {ds : List D} {s : DSt} : gT is (.tup ds) s = setAll is ds s := (rfl)
theorem lcL_flat {ι : Type} {g : DG} {c : DT} {e : DE} {s : DSt} {F : ι → D} {h : ι → List D} : ∀ {l : List ι}, (∀ x ∈ l, ∃ s1, g (F x) s = .ok s1 ∧ ((c s1 = .ok true ∧ ∃ y, e s1 = .ok y ∧ h x = [y]) ∨ (c s1 = .ok false ∧ h x = []))) → lcL g c e s (l.map F) = .ok (l.flatMap h)
  | [], _ => rfl
  | x :: l, hx => by
    obtain ⟨s1, h1, h2⟩ := hx x List.mem_cons_self
    have ih := lcL_flat (l := l) fun y hy => hx y (List.mem_cons_of_mem _ hy)
    rw [List.map_cons, List.flatMap_cons]
    unfold lcL
    rw [h1, rb_ok]
    rcases h2 with ⟨h2, y, h3, h4⟩ | ⟨h2, h4⟩
    · rw [h2, rb_ok, if_pos rfl, h3, rb_ok, ih, rb_ok, h4]
      rfl
    · rw [h2, rb_ok, if_neg (by decide), ih, h4]
      rfl
end DL
/-! PM: trees of maps, by themselves. -/
namespace DL
open PySem (Str)
inductive T where
  | non | leaf (k : Int) (v : D) | shut (k s : Int) | cut (s n : Int) | fork (n : Int) (l r : T)
def T.d : T → D
  | .non => .tup [.str "none"]
  | .leaf k v => .tup [.str "leaf", .int k, v]
  | .shut k s => .tup [.str "shut", .int k, .int s]
  | .cut s n => .tup [.str "cut", .int s, .int n]
  | .fork n l r => .tup [.str "fork", .int n, l.d, r.d]
def T.many : T → Int
  | .non => 0 | .leaf _ _ => 1 | .shut _ _ => 1 | .cut _ n => n | .fork n _ _ => n
def joinT (l r : T) : T :=
  if l.many + r.many = 0 then .non else if l.many + r.many = 1 then (if l.many = 1 then l else r) else .fork (l.many + r.many) l r
/-- bit n of k -/
def bi (k : Int) (n : Nat) : Int := k / 2 ^ n % 2
theorem bi01 (k : Int) (n : Nat) : bi k n = 0 ∨ bi k n = 1 := by unfold bi; omega
theorem div_succ (k : Int) (n : Nat) : k / 2 ^ n = 2 * (k / 2 ^ (n + 1)) + bi k n := by
  have h : k / 2 ^ (n + 1) = k / 2 ^ n / 2 := by
    rw [Int.pow_succ, Int.ediv_ediv_of_nonneg (Int.le_of_lt (Int.pow_pos (by omega)))]
  unfold bi
  rw [h]
  omega
abbrev PL := List (Int × D)
/-- those whose bit n is b -/
def fb (n : Nat) (b : Int) (ps : PL) : PL := ps.filter fun p => decide (bi p.1 n = b)
/-- the tree of a map, n bits left -/
def cn : Nat → PL → T
  | _, [] => .non
  | _, [p] => .leaf p.1 p.2
  | 0, _ => .non
  | n + 1, ps => .fork ps.length (cn n (fb n 0 ps)) (cn n (fb n 1 ps))
/-- sorted; all with the same upper bits -/
structure Gd (n : Nat) (ps : PL) : Prop where
  asc : ps.Pairwise fun p q => p.1 < q.1
  same : ∀ p ∈ ps, ∀ q ∈ ps, p.1 / 2 ^ n = q.1 / 2 ^ n
theorem fb_sub (n : Nat) (b : Int) (ps : PL) : (fb n b ps).Sublist ps := List.filter_sublist
theorem mem_fb {n : Nat} {b : Int} {ps : PL} {p : Int × D} : p ∈ fb n b ps ↔ p ∈ ps ∧ bi p.1 n = b := by
  unfold fb
  rw [List.mem_filter, decide_eq_true_eq]
theorem Gd.fb {n : Nat} {ps : PL} (h : Gd (n + 1) ps) (b : Int) : Gd n (DL.fb n b ps) where
  asc := h.asc.sublist (fb_sub n b ps)
  same := fun p hp q hq => by
    obtain ⟨h1, h2⟩ := mem_fb.mp hp
    obtain ⟨h3, h4⟩ := mem_fb.mp hq
    rw [div_succ, div_succ q.1, h.same p h1 q h3, h2, h4]
theorem Gd.zero {ps : PL} (h : Gd 0 ps) : ps.length ≤ 1 := by
  match ps, h with
  | [], _ => simp
  | [_], _ => simp
  | p :: q :: r, h =>
    have h1 := h.asc
    rw [List.pairwise_cons] at h1
    have h2 := h1.1 q (by simp)
    have h3 := h.same p (by simp) q (by simp)
    simp at h3
    omega
theorem fb_len (n : Nat) (ps : PL) : (fb n 0 ps).length + (fb n 1 ps).length = ps.length := by
  induction ps with
  | nil => rfl
  | cons p r ih =>
    unfold fb at ih ⊢
    rcases bi01 p.1 n with h | h
    · rw [List.filter_cons_of_pos (by simp [h]), List.filter_cons_of_neg (by simp [h]), List.length_cons, List.length_cons]
      omega
    · rw [List.filter_cons_of_neg (by simp [h]), List.filter_cons_of_pos (by simp [h]), List.length_cons, List.length_cons]
      omega
/-- zeros first -/
theorem fb_app {n : Nat} {ps : PL} (h : Gd (n + 1) ps) : fb n 0 ps ++ fb n 1 ps = ps := by
  induction ps with
  | nil => rfl
  | cons p r ih =>
    have hr : Gd (n + 1) r := ⟨h.asc.of_cons, fun a ha b hb => h.same a (by simp [ha]) b (by simp [hb])⟩
    have ih := ih hr
    have hp := (List.pairwise_cons.mp h.asc).1
    unfold fb at ih ⊢
    rcases bi01 p.1 n with q | q
    · rw [List.filter_cons_of_pos (by simp [q]), List.filter_cons_of_neg (by simp [q]), List.cons_append, ih]
    · have z : r.filter (fun p => decide (bi p.1 n = 0)) = [] := by
        rw [List.filter_eq_nil_iff]
        intro a ha e
        have e : bi a.1 n = 0 := of_decide_eq_true e
        have h1 := hp a ha
        have h2 := h.same p (by simp) a (by simp [ha])
        have h3 := div_succ p.1 n
        have h4 := div_succ a.1 n
        have h5 : a.1 / 2 ^ n < p.1 / 2 ^ n := by omega
        have h6 : p.1 / 2 ^ n ≤ a.1 / 2 ^ n := Int.ediv_le_ediv (Int.pow_pos (by omega)) (by omega)
        omega
      rw [List.filter_cons_of_neg (by simp [q]), List.filter_cons_of_pos (by simp [q]), z, List.nil_append]
      rw [z, List.nil_append] at ih
      rw [ih]
theorem cn_nil (n : Nat) : cn n [] = .non := by cases n <;> rfl
theorem cn_one (n : Nat) (p : Int × D) : cn n [p] = .leaf p.1 p.2 := by cases n <;> rfl
theorem many_cn {n : Nat} {ps : PL} (h : Gd n ps) : (cn n ps).many = ps.length := by
  match n, ps, h with
  | _, [], _ => unfold cn; rfl
  | _, [p], _ => unfold cn; rfl
  | 0, p :: q :: r, h => have := h.zero; simp at this
  | n + 1, p :: q :: r, h => unfold cn; rfl
theorem cn_big {n : Nat} {ps : PL} (h : 2 ≤ ps.length) : cn (n + 1) ps = .fork ps.length (cn n (fb n 0 ps)) (cn n (fb n 1 ps)) := by
  match ps, h with
  | p :: q :: r, _ => rfl
theorem join_cn {n : Nat} {ps : PL} (h : Gd (n + 1) ps) : joinT (cn n (fb n 0 ps)) (cn n (fb n 1 ps)) = cn (n + 1) ps := by
  have hl := fb_len n ps
  have ha := fb_app h
  unfold joinT
  rw [many_cn (h.fb 0), many_cn (h.fb 1)]
  match ps, h with
  | [], _ => rfl
  | [p], h =>
    rw [if_neg (by simp at hl; omega), if_pos (by simp at hl; omega)]
    rcases bi01 p.1 n with q | q
    · have e0 : fb n 0 [p] = [p] := by simp [fb, q]
      rw [e0, cn_one, cn_one]
      rfl
    · have e0 : fb n 0 [p] = [] := by simp [fb, q]
      have e1 : fb n 1 [p] = [p] := by simp [fb, q]
      rw [e0, e1, cn_one, cn_one]
      rfl
  | p :: q :: r, h =>
    rw [if_neg (by simp at hl; omega), if_neg (by simp at hl; omega), cn_big (by simp)]
    congr 1
    omega

/-! ### a map changed -/
def isZ : D → Bool
  | .int i => i == 0
  | _ => false
def updP (k : Int) (v : D) : PL → PL
  | [] => if isZ v = true then [] else [(k, v)]
  | p :: r => if k < p.1 then (if isZ v = true then p :: r else (k, v) :: p :: r) else if k = p.1 then (if isZ v = true then r else (k, v) :: r) else p :: updP k v r
theorem updP_nil (k : Int) (v : D) : updP k v [] = if isZ v = true then [] else [(k, v)] := rfl
theorem updP_cons (k : Int) (v : D) (p : Int × D) (r : PL) : updP k v (p :: r) = if k < p.1 then (if isZ v = true then p :: r else (k, v) :: p :: r) else if k = p.1 then (if isZ v = true then r else (k, v) :: r) else p :: updP k v r := rfl
theorem updP_lt {k : Int} {v : D} : ∀ {ps : PL}, (∀ p ∈ ps, k < p.1) → updP k v ps = if isZ v = true then ps else (k, v) :: ps
  | [], _ => rfl
  | p :: r, h => by
    unfold updP
    rw [if_pos (h p (by simp))]
theorem fb_cons_pos {n : Nat} {b : Int} {p : Int × D} {r : PL} (h : bi p.1 n = b) : fb n b (p :: r) = p :: fb n b r := List.filter_cons_of_pos (by simp [h])
theorem fb_cons_neg {n : Nat} {b : Int} {p : Int × D} {r : PL} (h : ¬ bi p.1 n = b) : fb n b (p :: r) = fb n b r := List.filter_cons_of_neg (by simp [h])
theorem fb_upd {n : Nat} {b k : Int} {v : D} : ∀ {ps : PL}, ps.Pairwise (fun p q => p.1 < q.1) → fb n b (updP k v ps) = if bi k n = b then updP k v (fb n b ps) else fb n b ps
  | [], _ => by
    unfold updP
    by_cases z : isZ v = true
    · rw [if_pos z]
      split <;> simp [fb, updP, z]
    · rw [if_neg z]
      by_cases q : bi k n = b
      · rw [fb_cons_pos q, if_pos q]
        simp [fb, updP, z]
      · rw [fb_cons_neg q, if_neg q]
  | p :: r, h => by
    have hp := (List.pairwise_cons.mp h)
    have ih := fb_upd (n := n) (b := b) (k := k) (v := v) hp.2
    rw [updP_cons]
    by_cases c1 : k < p.1
    · rw [if_pos c1]
      have hall : ∀ x ∈ fb n b (p :: r), k < x.1 := fun x hx => by
        rcases List.mem_cons.mp (mem_fb.mp hx).1 with e | e
        · rw [e]; exact c1
        · have := hp.1 x e; omega
      rw [updP_lt hall]
      by_cases z : isZ v = true
      · simp only [z, if_true]
        split <;> rfl
      · rw [if_neg z]
        by_cases q : bi k n = b
        · rw [fb_cons_pos q, if_pos q, if_neg z]
        · rw [fb_cons_neg q, if_neg q]
    · rw [if_neg c1]
      by_cases c2 : k = p.1
      · rw [if_pos c2]
        by_cases q : bi k n = b
        · have q' : bi p.1 n = b := by rw [← c2]; exact q
          rw [if_pos q, fb_cons_pos q']
          rw [updP_cons, if_neg c1, if_pos c2]
          by_cases z : isZ v = true
          · rw [if_pos z, if_pos z]
          · rw [if_neg z, if_neg z, fb_cons_pos q]
        · have q' : ¬ bi p.1 n = b := by rw [← c2]; exact q
          rw [if_neg q, fb_cons_neg q']
          by_cases z : isZ v = true
          · rw [if_pos z]
          · rw [if_neg z, fb_cons_neg q]
      · rw [if_neg c2]
        by_cases q' : bi p.1 n = b
        · rw [fb_cons_pos q', ih, fb_cons_pos q']
          by_cases q : bi k n = b
          · rw [if_pos q, if_pos q]
            rw [updP_cons, if_neg c1, if_neg c2]
          · rw [if_neg q, if_neg q]
        · rw [fb_cons_neg q', ih, fb_cons_neg q']
theorem mem_updP {k : Int} {v : D} {x : Int × D} : ∀ {ps : PL}, x ∈ updP k v ps → x = (k, v) ∨ x ∈ ps
  | [], h => by
    unfold updP at h
    split at h
    · cases h
    · exact .inl (List.mem_singleton.mp h)
  | p :: r, h => by
    unfold updP at h
    split at h
    · split at h
      · exact .inr h
      · rcases List.mem_cons.mp h with e | e
        · exact .inl e
        · exact .inr e
    · split at h
      · split at h
        · exact .inr (List.mem_cons_of_mem _ h)
        · rcases List.mem_cons.mp h with e | e
          · exact .inl e
          · exact .inr (List.mem_cons_of_mem _ e)
      · rcases List.mem_cons.mp h with e | e
        · exact .inr (by rw [e]; exact List.mem_cons_self)
        · rcases mem_updP e with e | e
          · exact .inl e
          · exact .inr (List.mem_cons_of_mem _ e)
theorem asc_updP {k : Int} {v : D} : ∀ {ps : PL}, ps.Pairwise (fun p q => p.1 < q.1) → (updP k v ps).Pairwise (fun p q => p.1 < q.1)
  | [], _ => by
    unfold updP
    split <;> simp
  | p :: r, h => by
    have hp := List.pairwise_cons.mp h
    unfold updP
    by_cases c1 : k < p.1
    · rw [if_pos c1]
      split
      · exact h
      · refine List.pairwise_cons.mpr ⟨fun x hx => ?_, h⟩
        rcases List.mem_cons.mp hx with e | e
        · rw [e]; exact c1
        · have := hp.1 x e; show k < x.1; omega
    · rw [if_neg c1]
      by_cases c2 : k = p.1
      · rw [if_pos c2]
        split
        · exact hp.2
        · refine List.pairwise_cons.mpr ⟨fun x hx => ?_, hp.2⟩
          have := hp.1 x hx; show k < x.1; omega
      · rw [if_neg c2]
        refine List.pairwise_cons.mpr ⟨fun x hx => ?_, asc_updP hp.2⟩
        rcases mem_updP hx with e | e
        · rw [e]; show p.1 < k; omega
        · exact hp.1 x e
/-- k lies where ps lies -/
def At (n : Nat) (k : Int) (ps : PL) : Prop := ∀ p ∈ ps, p.1 / 2 ^ n = k / 2 ^ n
theorem Gd.upd {n : Nat} {k : Int} {v : D} {ps : PL} (h : Gd n ps) (a : At n k ps) : Gd n (updP k v ps) where
  asc := asc_updP h.asc
  same := fun p hp q hq => by
    have e1 : p.1 / 2 ^ n = k / 2 ^ n := (mem_updP hp).elim (fun e => by rw [e]) (a p)
    have e2 : q.1 / 2 ^ n = k / 2 ^ n := (mem_updP hq).elim (fun e => by rw [e]) (a q)
    rw [e1, e2]
theorem At.fb {n : Nat} {k : Int} {ps : PL} (a : At (n + 1) k ps) : At n k (fb n (bi k n) ps) := fun p hp => by
  obtain ⟨h1, h2⟩ := mem_fb.mp hp
  rw [div_succ, div_succ k, a p h1, h2]
/-! ### the way to a key -/
def wayT : Nat → T → Int → List (T × Int)
  | n + 1, .fork m l r, k => (.fork m l r, bi k n) :: wayT n (if bi k n = 0 then l else r) k
  | _, _, _ => []
def endT : Nat → T → Int → T
  | n + 1, .fork _ l r, k => endT n (if bi k n = 0 then l else r) k
  | _, t, _ => t
def rebuild : List (T × Int) → T → T
  | [], x => x
  | (.fork _ l r, b) :: w, x => if b = 0 then joinT (rebuild w x) r else joinT l (rebuild w x)
  | (_, _) :: w, x => rebuild w x
def wl : Nat → Int × D → Int × D → T
  | 0, _, _ => .non
  | m + 1, p, q => if bi q.1 m = bi p.1 m then (if bi p.1 m = 0 then .fork ((wl m p q).many + 0) (wl m p q) .non else .fork (0 + (wl m p q).many) .non (wl m p q))
    else if bi p.1 m = 0 then .fork 2 (.leaf p.1 p.2) (.leaf q.1 q.2) else .fork 2 (.leaf q.1 q.2) (.leaf p.1 p.2)
def newEnd (m : Nat) (e : T) (k : Int) (v : D) : T := match e with
  | .leaf k' v' => if k' = k then (if isZ v = true then .non else .leaf k v) else if isZ v = true then .leaf k' v' else wl m (k, v) (k', v')
  | .non => if isZ v = true then .non else .leaf k v
  | e => e
theorem wl_many : ∀ (m : Nat) (p q : Int × D), p.1 ≠ q.1 → p.1 / 2 ^ m = q.1 / 2 ^ m → (wl m p q).many = 2
  | 0, p, q, hn, h => by simp at h; exact absurd h hn
  | m + 1, p, q, hn, h => by
    unfold wl
    have h1 := div_succ p.1 m
    have h2 := div_succ q.1 m
    split
    · rename_i e
      have ih := wl_many m p q hn (by rw [h1, h2, h, e])
      split
      · show (wl m p q).many + 0 = 2; omega
      · show 0 + (wl m p q).many = 2; omega
    · split <;> rfl
theorem wl_cn : ∀ (m : Nat) (p q : Int × D), p.1 ≠ q.1 → p.1 / 2 ^ m = q.1 / 2 ^ m → wl m p q = cn m (if p.1 < q.1 then [p, q] else [q, p])
  | 0, p, q, hn, h => by simp at h; exact absurd h hn
  | m + 1, p, q, hn, h => by
    have h1 := div_succ p.1 m
    have h2 := div_succ q.1 m
    have hl : 2 ≤ (if p.1 < q.1 then [p, q] else [q, p] : PL).length := by split <;> simp
    have hl2 : (if p.1 < q.1 then [p, q] else [q, p] : PL).length = 2 := by split <;> rfl
    rw [cn_big hl, hl2]
    unfold wl
    by_cases e : bi q.1 m = bi p.1 m
    · rw [if_pos e]
      have hs : p.1 / 2 ^ m = q.1 / 2 ^ m := by rw [h1, h2, h, e]
      have ih := wl_cn m p q hn hs
      have im := wl_many m p q hn hs
      have hall : ∀ b, fb m b (if p.1 < q.1 then [p, q] else [q, p]) = if bi p.1 m = b then (if p.1 < q.1 then [p, q] else [q, p]) else [] := fun b => by
        by_cases eb : bi p.1 m = b
        · have eb2 : bi q.1 m = b := by rw [e]; exact eb
          rw [if_pos eb]
          split <;> simp [fb, eb, eb2]
        · have eb2 : ¬ bi q.1 m = b := by rw [e]; exact eb
          rw [if_neg eb]
          split <;> simp [fb, eb, eb2]
      rw [hall, hall]
      generalize (if p.1 < q.1 then [p, q] else [q, p] : PL) = L at *
      rcases bi01 p.1 m with b | b
      · have b2 : ¬ bi p.1 m = 1 := by omega
        rw [if_pos b, if_pos b, if_neg b2, cn_nil, im, ← ih]
        rfl
      · have b2 : ¬ bi p.1 m = 0 := by omega
        rw [if_neg b2, if_neg b2, if_pos b, cn_nil, im, ← ih]
        rfl
    · rw [if_neg e]
      rcases bi01 p.1 m with b | b
      · have b' : bi q.1 m = 1 := by rcases bi01 q.1 m with z | z <;> omega
        have hlt : p.1 < q.1 := by
          have h5 : p.1 / 2 ^ m < q.1 / 2 ^ m := by omega
          by_cases z : p.1 < q.1
          · exact z
          · have h6 : q.1 / 2 ^ m ≤ p.1 / 2 ^ m := Int.ediv_le_ediv (Int.pow_pos (by omega)) (by omega)
            omega
        rw [if_pos b, if_pos hlt]
        have f0 : fb m 0 [p, q] = [p] := by simp [fb, b, b']
        have f1 : fb m 1 [p, q] = [q] := by simp [fb, b, b']
        rw [f0, f1, cn_one, cn_one]
        rfl
      · have b' : bi q.1 m = 0 := by rcases bi01 q.1 m with z | z <;> omega
        have hlt : ¬ p.1 < q.1 := by
          intro z
          have h5 : q.1 / 2 ^ m < p.1 / 2 ^ m := by omega
          have h6 : p.1 / 2 ^ m ≤ q.1 / 2 ^ m := Int.ediv_le_ediv (Int.pow_pos (by omega)) (by omega)
          omega
        rw [if_neg (by omega), if_neg hlt]
        have f0 : fb m 0 [q, p] = [q] := by simp [fb, b, b']
        have f1 : fb m 1 [q, p] = [p] := by simp [fb, b, b']
        rw [f0, f1, cn_one, cn_one]
        rfl
theorem change_cn : ∀ (n : Nat) (ps : PL) (k : Int) (v : D), Gd n ps → At n k ps → rebuild (wayT n (cn n ps) k) (newEnd (n - (wayT n (cn n ps) k).length) (endT n (cn n ps) k) k v) = cn n (updP k v ps)
  | n, [], k, v, _, _ => by
    have e1 : wayT n (cn n []) k = [] := by cases n <;> rfl
    have e2 : endT n (cn n []) k = .non := by cases n <;> rfl
    rw [e1, e2]
    unfold updP
    show (if isZ v = true then T.non else .leaf k v) = _
    split
    · rw [cn_nil]
    · rw [cn_one]
  | n, [q], k, v, h, a => by
    have e1 : wayT n (cn n [q]) k = [] := by cases n <;> rfl
    have e2 : endT n (cn n [q]) k = .leaf q.1 q.2 := by cases n <;> rfl
    rw [e1, e2]
    show (if q.1 = k then (if isZ v = true then T.non else .leaf k v) else if isZ v = true then .leaf q.1 q.2 else wl (n - 0) (k, v) (q.1, q.2)) = _
    rw [updP_cons]
    by_cases c : q.1 = k
    · have c1 : ¬ k < q.1 := by omega
      rw [if_pos c, if_neg c1, if_pos c.symm]
      split
      · rw [cn_nil]
      · rw [cn_one]
    · rw [if_neg c]
      by_cases z : isZ v = true
      · rw [if_pos z, if_pos z]
        have : updP k v [] = [] := by rw [updP_nil, if_pos z]
        rw [this, if_pos z]
        split
        · rw [cn_one]
        · rw [if_neg (Ne.symm c), cn_one]
      · rw [if_neg z, if_neg z]
        have := wl_cn n (k, v) q (fun e => c e.symm) (a q (by simp)).symm
        have u0 : updP k v [] = [(k, v)] := by rw [updP_nil, if_neg z]
        rw [u0, Nat.sub_zero, if_neg z]
        show wl n (k, v) q = _
        rw [this]
        show cn n (if k < q.1 then [(k, v), q] else [q, (k, v)]) = _
        split
        · rfl
        · rw [if_neg (Ne.symm c)]
  | 0, p :: q :: r, _, _, h, _ => by have := h.zero; simp at this
  | n + 1, p :: q :: r, k, v, h, a => by
    have hb : 2 ≤ (p :: q :: r).length := by simp
    generalize hps : p :: q :: r = ps at *
    rw [cn_big hb]
    show rebuild ((T.fork _ _ _, bi k n) :: wayT n (if bi k n = 0 then cn n (fb n 0 ps) else cn n (fb n 1 ps)) k) (newEnd (n + 1 - (wayT n (if bi k n = 0 then cn n (fb n 0 ps) else cn n (fb n 1 ps)) k).length.succ) (endT n (if bi k n = 0 then cn n (fb n 0 ps) else cn n (fb n 1 ps)) k) k v) = _
    rw [Nat.succ_eq_add_one, Nat.add_sub_add_right]
    have ih := change_cn n (fb n (bi k n) ps) k v (h.fb _) a.fb
    have ju := join_cn (h.upd (v := v) a)
    rw [fb_upd h.asc, fb_upd h.asc] at ju
    rcases bi01 k n with b | b
    · rw [b] at ih ju ⊢
      rw [if_pos rfl] at ju ⊢
      rw [if_neg (by omega)] at ju
      show joinT (rebuild _ _) (cn n (fb n 1 ps)) = _
      rw [ih, ju]
    · rw [b] at ih ju ⊢
      rw [if_neg (by omega)] at ju ⊢
      rw [if_pos rfl] at ju
      show joinT (cn n (fb n 0 ps)) (rebuild _ _) = _
      rw [ih, ju]
theorem rebuild_self : ∀ (n : Nat) (ps : PL) (k : Int), Gd n ps → rebuild (wayT n (cn n ps) k) (endT n (cn n ps) k) = cn n ps
  | n, [], k, _ => by cases n <;> rfl
  | n, [q], k, _ => by cases n <;> rfl
  | 0, p :: q :: r, _, h => by have := h.zero; simp at this
  | n + 1, p :: q :: r, k, h => by
    have hb : 2 ≤ (p :: q :: r).length := by simp
    generalize hps : p :: q :: r = ps at *
    rw [cn_big hb]
    show rebuild ((T.fork _ _ _, bi k n) :: wayT n (if bi k n = 0 then cn n (fb n 0 ps) else cn n (fb n 1 ps)) k) (endT n (if bi k n = 0 then cn n (fb n 0 ps) else cn n (fb n 1 ps)) k) = _
    have ih := rebuild_self n (fb n (bi k n) ps) k (h.fb _)
    have ju := join_cn h
    rw [cn_big hb] at ju
    rcases bi01 k n with b | b
    · rw [b] at ih ⊢
      rw [if_pos rfl]
      show joinT (rebuild _ _) (cn n (fb n 1 ps)) = _
      rw [ih, ju]
    · rw [b] at ih ⊢
      rw [if_neg (by omega)]
      show joinT (cn n (fb n 0 ps)) (rebuild _ _) = _
      rw [ih, ju]
/-- the end of a way in a map's tree -/
theorem end_cn : ∀ (n : Nat) (ps : PL) (k : Int), Gd n ps → endT n (cn n ps) k = .non ∨ ∃ q ∈ ps, endT n (cn n ps) k = .leaf q.1 q.2
  | n, [], k, _ => by cases n <;> exact .inl rfl
  | n, [q], k, _ => .inr ⟨q, by simp, by cases n <;> rfl⟩
  | 0, p :: q :: r, _, h => by have := h.zero; simp at this
  | n + 1, p :: q :: r, k, h => by
    have hb : 2 ≤ (p :: q :: r).length := by simp
    generalize hps : p :: q :: r = ps at *
    rw [cn_big hb]
    show endT n (if bi k n = 0 then cn n (fb n 0 ps) else cn n (fb n 1 ps)) k = .non ∨ _
    have ih := end_cn n (fb n (bi k n) ps) k (h.fb _)
    have e : (if bi k n = 0 then cn n (fb n 0 ps) else cn n (fb n 1 ps)) = cn n (fb n (bi k n) ps) := by
      rcases bi01 k n with b | b <;> rw [b]
      · rw [if_pos rfl]
      · rw [if_neg (by omega)]
    rw [e]
    rcases ih with ih | ⟨q', h1, h2⟩
    · exact .inl ih
    · refine .inr ⟨q', (mem_fb.mp h1).1, ?_⟩
      show endT n (if bi k n = 0 then cn n (fb n 0 ps) else cn n (fb n 1 ps)) k = _
      rw [e]
      exact h2
/-- height -/
def ht : T → Nat
  | .fork _ l r => max (ht l) (ht r) + 1
  | _ => 0
theorem ht_cn : ∀ (n : Nat) (ps : PL), ht (cn n ps) ≤ n
  | n, [] => by rw [cn_nil]; exact Nat.zero_le _
  | n, [q] => by rw [cn_one]; exact Nat.zero_le _
  | 0, p :: q :: r => Nat.le_refl _
  | n + 1, p :: q :: r => by
    rw [cn_big (by simp)]
    show max _ _ + 1 ≤ n + 1
    have h1 := ht_cn n (fb n 0 (p :: q :: r))
    have h2 := ht_cn n (fb n 1 (p :: q :: r))
    omega
theorem wayT_len : ∀ (n : Nat) (t : T) (k : Int), (wayT n t k).length ≤ n
  | 0, t, k => by cases t <;> exact Nat.zero_le _
  | n + 1, t, k => by
    cases t with
    | fork m l r =>
      show (wayT n _ k).length + 1 ≤ n + 1
      have := wayT_len n (if bi k n = 0 then l else r) k
      omega
    | _ => exact Nat.zero_le _
theorem wayT_fork : ∀ (n : Nat) (t : T) (k : Int), ∀ p ∈ wayT n t k, ∃ m l r, p.1 = .fork m l r ∧ (p.2 = 0 ∨ p.2 = 1)
  | 0, t, k, p, h => by cases t <;> cases h
  | n + 1, t, k, p, h => by
    cases t with
    | fork m l r =>
      rcases List.mem_cons.mp h with e | e
      · rw [e]; exact ⟨m, l, r, rfl, bi01 k n⟩
      · exact wayT_fork n _ k p e
    | _ => cases h
/-- where the way ends, the key lies -/
theorem end_at : ∀ (n : Nat) (ps : PL) (k : Int), Gd n ps → At n k ps → ∀ q, endT n (cn n ps) k = .leaf q.1 q.2 → q ∈ ps → q.1 / 2 ^ (n - (wayT n (cn n ps) k).length) = k / 2 ^ (n - (wayT n (cn n ps) k).length)
  | n, [], k, _, _, q, e, hq => by cases hq
  | n, [q'], k, h, a, q, e, hq => by
    have e1 : wayT n (cn n [q']) k = [] := by cases n <;> rfl
    rw [e1]
    exact a q hq
  | 0, p :: q :: r, _, h, _, _, _, _ => by have := h.zero; simp at this
  | n + 1, p :: q :: r, k, h, a, q', e, hq => by
    have hb : 2 ≤ (p :: q :: r).length := by simp
    generalize hps : p :: q :: r = ps at *
    have ec : (if bi k n = 0 then cn n (fb n 0 ps) else cn n (fb n 1 ps)) = cn n (fb n (bi k n) ps) := by
      rcases bi01 k n with b | b <;> rw [b]
      · rw [if_pos rfl]
      · rw [if_neg (by omega)]
    rw [cn_big hb] at e ⊢
    have e : endT n (if bi k n = 0 then cn n (fb n 0 ps) else cn n (fb n 1 ps)) k = .leaf q'.1 q'.2 := e
    show q'.1 / 2 ^ (n + 1 - ((wayT n (if bi k n = 0 then cn n (fb n 0 ps) else cn n (fb n 1 ps)) k).length + 1)) = k / 2 ^ (n + 1 - ((wayT n (if bi k n = 0 then cn n (fb n 0 ps) else cn n (fb n 1 ps)) k).length + 1))
    rw [ec] at e ⊢
    rw [Nat.add_sub_add_right]
    refine end_at n (fb n (bi k n) ps) k (h.fb _) a.fb q' e ?_
    rcases end_cn n (fb n (bi k n) ps) k (h.fb _) with z | ⟨x, h1, h2⟩
    · rw [z] at e; cases e
    · rw [h2] at e
      have e1 : x.1 = q'.1 := by injection e
      have e2 : x.2 = q'.2 := by injection e
      have : x = q' := Prod.ext e1 e2
      rw [← this]
      exact h1
end DL
/-! PB: trees: the program's functions on them. -/
namespace K49
open DL
open PySem (Str)
theorem fork_of' {l r : D} {a b : Int} (h : M_many_in [l] = .ok (.int a)) (h' : M_many_in [r] = .ok (.int b)) : M_fork_of [l, r] = .ok (.tup [.str "fork", .int (a + b), l, r]) := by
  simp [M_fork_of, x_defM, b_fork_of, h, h', opAdd, SL]
theorem bit_of {k : Int} {d : Nat} (hk : 0 ≤ k) (hd : d ≤ 15) : M_bit_of [.int k, .int d] = .ok (.int (bi k (15 - d))) := by
  have e : (15 - (d : Int)) = ((15 - d : Nat) : Int) := by omega
  have h2 : 0 ≤ k / 2 ^ (15 - d) := Int.ediv_nonneg hk (Int.le_of_lt (Int.pow_pos (by omega)))
  have e1 : opShr (.int k) (.int (15 - (d : Int))) = some (.int (k / 2 ^ (15 - d))) := by
    rw [o_shr (by omega), e]
    rfl
  simp [M_bit_of, x_defM, b_bit_of, e1, o_and h2, bi]
theorem many_in (t : T) : M_many_in [t.d] = .ok (.int t.many) := by
  cases t <;> rfl
theorem fork_of (l r : T) : M_fork_of [l.d, r.d] = .ok (T.fork (l.many + r.many) l r).d := fork_of' (many_in l) (many_in r)
theorem joined (l r : T) : M_joined [l.d, r.d] = .ok (joinT l r).d := by
  simp only [joinT]
  cases e0 : (l.many + r.many == 0) with
  | true =>
    rw [if_pos (eq_of_beq e0)]
    simp [M_joined, x_defM, b_joined, many_in, e0]
    rfl
  | false =>
    rw [if_neg (ne_of_beq_false e0)]
    cases e1 : (l.many + r.many == 1) with
    | true =>
      rw [if_pos (eq_of_beq e1)]
      cases e2 : (l.many == 1) with
      | true =>
        rw [if_pos (eq_of_beq e2)]
        simp [M_joined, x_defM, b_joined, many_in, e0, e1, e2]
      | false =>
        rw [if_neg (ne_of_beq_false e2)]
        simp [M_joined, x_defM, b_joined, many_in, e0, e1, e2]
    | false =>
      rw [if_neg (ne_of_beq_false e1)]
      simp [M_joined, x_defM, b_joined, many_in, e0, e1, SL]
      rfl
/-! ### the way to a key -/
def wd (p : T × Int) : D := .tup [p.1.d, .int p.2]
def isFork : T → Bool
  | .fork _ _ _ => true
  | _ => false
def tag : T → D
  | .non => .str "none" | .leaf _ _ => .str "leaf" | .shut _ _ => .str "shut" | .cut _ _ => .str "cut" | .fork _ _ _ => .str "fork"
theorem ix_tag (t : T) : opIx t.d (.int 0) = some (tag t) := by cases t <;> rfl
theorem eq_fork (t : T) : opEq (tag t) (.str "fork") = some (.bl (isFork t)) := by cases t <;> rfl
theorem way_loop {k : Int} (hk : 0 ≤ k) {a : Option D} : ∀ (n : Nat) (t : T) (pre : List D) (sd : Option D) (fuel : Nat), ht t ≤ n → n ≤ 16 → pre.length = 16 - n → n < fuel →
    ∃ sd', whileN (dB (d2 opEq (d2 opIx (dV 3) (dC (.int 0))) (dC (.str "fork")))) (sSq (sAs (gN 4) (dCall M_bit_of (daC (dV 1) (daC (d1 fLen (dV 2)) daN))))
      (sSq (sApp 2 (dTup (daC (dV 3) (daC (dV 4) daN)))) (sSq (sAs (gN 3) (d2 opIx (dV 3) (d2 opAdd (dC (.int 2)) (dV 4)))) sNx))) fuel [a, some (.int k), some (.lst pre), some t.d, sd]
      = .nx [a, some (.int k), some (.lst (pre ++ (wayT n t k).map wd)), some (endT n t k).d, sd'] := by
  intro n
  induction n with
  | zero =>
    intro t pre sd fuel h1 h2 h3 h4
    obtain ⟨f, rfl⟩ : ∃ f, fuel = f + 1 := ⟨fuel - 1, by omega⟩
    have e : isFork t = false := by cases t <;> first | rfl | (simp [ht] at h1)
    refine ⟨sd, ?_⟩
    unfold whileN
    simp [ix_tag, eq_fork, e, wayT, endT]
  | succ n ih =>
    intro t pre sd fuel h1 h2 h3 h4
    obtain ⟨f, rfl⟩ : ∃ f, fuel = f + 1 := ⟨fuel - 1, by omega⟩
    cases t with
    | fork m l r =>
      have hb : M_bit_of [.int k, .int (pre.length : Int)] = .ok (.int (bi k n)) := by
        rw [bit_of hk (by omega)]
        congr 3
        omega
      have hix : opIx (T.fork m l r).d (.int (2 + bi k n)) = some (if bi k n = 0 then l else r).d := by
        rcases bi01 k n with z | z <;> rw [z] <;> rfl
      have hl : pre.length < 16777216 := by omega
      obtain ⟨sd', e⟩ := ih (if bi k n = 0 then l else r) (pre ++ [wd (.fork m l r, bi k n)]) (some (.int (bi k n))) f (by
        simp only [ht] at h1
        split <;> omega) (by omega) (by rw [List.length_append, List.length_singleton]; omega) (by omega)
      refine ⟨sd', ?_⟩
      unfold whileN
      simp [ix_tag, eq_fork, isFork, hb, hix, hl, SL]
      have e2 : D.tup [(T.fork m l r).d, .int (bi k n)] = wd (.fork m l r, bi k n) := rfl
      rw [e2, e]
      simp [wayT, endT]
    | _ =>
      refine ⟨sd, ?_⟩
      unfold whileN
      simp [ix_tag, eq_fork, isFork, wayT, endT]
theorem way_to {k : Int} (hk : 0 ≤ k) {t : T} (h : ht t ≤ 16) : M_way_to [t.d, .int k] = .ok (.tup [.lst ((wayT 16 t k).map wd), (endT 16 t k).d]) := by
  obtain ⟨sd', e⟩ := way_loop hk (a := some t.d) 16 t [] none FU h (by omega) rfl (by decide)
  simp [M_way_to, x_defM, b_way_to, sWh, e, SL]
/-! ### a change -/
def chB : DS := sSq (sAs (gN 6) (dIfE (dB (d2 opEq (dV 8) (dC (.int 0)))) (dCall M_joined (daC (dV 6) (daC (d2 opIx (dV 7) (dC (.int 3))) daN))) (dCall M_joined (daC (d2 opIx (dV 7) (dC (.int 2))) (daC (dV 6) daN))))) sNx
theorem fold_loop {a b c d e f : Option D} : ∀ (w : List (T × Int)) (x : T) (g h : Option D), (∀ p ∈ w, ∃ m l r, p.1 = .fork m l r ∧ (p.2 = 0 ∨ p.2 = 1)) →
    ∃ g' h', forL (gT [7, 8]) chB (w.map wd).reverse [a, b, c, d, e, f, some x.d, g, h] = .nx [a, b, c, d, e, f, some (rebuild w x).d, g', h'] := by
  intro w
  induction w with
  | nil => intro x g h _; exact ⟨g, h, rfl⟩
  | cons p w ih =>
    intro x g h hw
    obtain ⟨g1, h1, e1⟩ := ih x g h fun q hq => hw q (List.mem_cons_of_mem _ hq)
    obtain ⟨m, l, r, ep, eb⟩ := hw p List.mem_cons_self
    obtain ⟨p1, p2⟩ := p
    simp only at ep eb
    subst ep
    refine ⟨some (T.fork m l r).d, some (.int p2), ?_⟩
    rw [List.map_cons, List.reverse_cons, forL_app (t := chB) nb_as, e1]
    have hs : setAll [7, 8] [(T.fork m l r).d, .int p2] [a, b, c, d, e, f, some (rebuild w x).d, g1, h1] = .ok [a, b, c, d, e, f, some (rebuild w x).d, some (T.fork m l r).d, some (.int p2)] := rfl
    show forL (gT [7, 8]) chB [.tup [(T.fork m l r).d, .int p2]] _ = _
    rw [x_forT hs]
    have i3 : opIx (T.fork m l r).d (.int 3) = some r.d := rfl
    have i2 : opIx (T.fork m l r).d (.int 2) = some l.d := rfl
    rcases eb with rfl | rfl
    · have er : rebuild ((T.fork m l r, 0) :: w) x = joinT (rebuild w x) r := rfl
      have z : ((0 : Int) == 0) = true := rfl
      simp only [chB, x_sSq, x_sAsN, x_dIfE, x_dB, x_d2, x_dCall, x_daC, x_daN, x_dC, rb_ok, x_dV0, x_dVs, List.set_cons_succ, List.set_cons_zero, i3, x_ofO_some, o_eq, z, x_boolR, if_true, joined, x_sNx, er, x_for0]
    · have er : rebuild ((T.fork m l r, 1) :: w) x = joinT l (rebuild w x) := rfl
      have z : ((1 : Int) == 0) = false := rfl
      simp only [chB, x_sSq, x_sAsN, x_dIfE, x_dB, x_d2, x_dCall, x_daC, x_daN, x_dC, rb_ok, x_dV0, x_dVs, List.set_cons_succ, List.set_cons_zero, i2, x_ofO_some, o_eq, z, x_boolR, Bool.false_eq_true, if_false, joined, x_sNx, er, x_for0]
/-- what a value is, told of 0 -/
def VZ (v : D) : Prop := opEq v (.int 0) = some (.bl (isZ v))
theorem eq_cut (t : T) : opEq (tag t) (.str "cut") = some (.bl (match t with | .cut _ _ => true | _ => false)) := by cases t <;> rfl
theorem ne_none (t : T) : opNe (tag t) (.str "none") = some (.bl (match t with | .non => false | _ => true)) := by cases t <;> rfl
end K49
/-! GA: changes of any tree. -/
namespace DL
/-- a leaf, shut or not -/
def Lf (q : T) (kq : Int) : Prop := (∃ v, q = .leaf kq v) ∨ ∃ s, q = .shut kq s
theorem Lf.many {q : T} {kq : Int} (h : Lf q kq) : q.many = 1 := by rcases h with ⟨v, rfl⟩ | ⟨s, rfl⟩ <;> rfl
theorem Lf.ix {q : T} {kq : Int} (h : Lf q kq) : opIx q.d (.int 1) = some (.int kq) := by rcases h with ⟨v, rfl⟩ | ⟨s, rfl⟩ <;> rfl
def wlT : Nat → Int × D → Int → T → T
  | 0, _, _, _ => .non
  | m + 1, p, kq, q => if bi kq m = bi p.1 m then (if bi p.1 m = 0 then .fork ((wlT m p kq q).many + 0) (wlT m p kq q) .non else .fork (0 + (wlT m p kq q).many) .non (wlT m p kq q))
    else if bi p.1 m = 0 then .fork 2 (.leaf p.1 p.2) q else .fork 2 q (.leaf p.1 p.2)
theorem wlT_leaf : ∀ (m : Nat) (p q : Int × D), wlT m p q.1 (.leaf q.1 q.2) = wl m p q
  | 0, _, _ => rfl
  | m + 1, p, q => by
    unfold wlT wl
    rw [wlT_leaf m p q]
end DL
namespace K49
open DL
open PySem (Str)
theorem lf_nn {q : T} {kq : Int} (h : Lf q kq) : opEq (tag q) (.str "none") = some (.bl false) := by rcases h with ⟨v, rfl⟩ | ⟨s, rfl⟩ <;> rfl
/-! ### a leaf set among another -/
def wlC : DT := dB (d2 opEq (dCall M_bit_of (daC (d2 opIx (dV 0) (dC (.int 1))) (daC (dV 3) daN))) (dCall M_bit_of (daC (d2 opIx (dV 2) (dC (.int 1))) (daC (dV 3) daN))))
theorem turn_loop {p : Int × D} {kq : Int} {q : T} (hq0 : Lf q kq) (hp : 0 ≤ p.1) (hq : 0 ≤ kq) (hn : p.1 ≠ kq) {u w x y : Option D} : ∀ (m fuel : Nat), m ≤ 16 → p.1 / 2 ^ m = kq / 2 ^ m → m < fuel →
    ∃ r, 1 ≤ r ∧ r ≤ m ∧ (∀ j, r ≤ j → j < m → bi kq j = bi p.1 j) ∧ bi kq (r - 1) ≠ bi p.1 (r - 1) ∧
      whileN wlC (sSq (sAug 3 (fun i j => i + j) (dC (.int 1))) sNx) fuel [some q.d, u, some (T.leaf p.1 p.2).d, some (.int ((16 - m : Nat) : Int)), x, y] =
        .nx [some q.d, u, some (T.leaf p.1 p.2).d, some (.int ((16 - r : Nat) : Int)), x, y] := by
  intro m
  induction m with
  | zero =>
    intro fuel _ h
    simp at h
    exact absurd h hn
  | succ m ih =>
    intro fuel h1 h2 h3
    obtain ⟨f, rfl⟩ : ∃ f, fuel = f + 1 := ⟨fuel - 1, by omega⟩
    have e1 : M_bit_of [.int kq, .int ((16 - (m + 1) : Nat) : Int)] = .ok (.int (bi kq m)) := by
      rw [bit_of hq (by omega)]
      congr 3
      omega
    have e2 : M_bit_of [.int p.1, .int ((16 - (m + 1) : Nat) : Int)] = .ok (.int (bi p.1 m)) := by
      rw [bit_of hp (by omega)]
      congr 3
      omega
    have i1 : opIx q.d (.int 1) = some (.int kq) := hq0.ix
    have i2 : opIx (T.leaf p.1 p.2).d (.int 1) = some (.int p.1) := rfl
    cases e0 : (bi kq m == bi p.1 m) with
    | true =>
      have e0' := eq_of_beq e0
      have hs : p.1 / 2 ^ m = kq / 2 ^ m := by rw [div_succ, div_succ kq, h2, e0']
      obtain ⟨r, r1, r2, r3, r4, r5⟩ := ih f (by omega) hs (by omega)
      refine ⟨r, r1, by omega, fun j h4 h5 => ?_, r4, ?_⟩
      · by_cases z : j = m
        · rw [z]; exact e0'
        · exact r3 j h4 (by omega)
      · have e3 : ((16 - (m + 1) : Nat) : Int) + 1 = ((16 - m : Nat) : Int) := by omega
        unfold whileN
        simp only [wlC, x_dB, x_d2, x_dCall, x_daC, x_daN, x_dC, rb_ok, x_dV0, x_dVs, i1, i2, x_ofO_some, e1, e2, o_eq, e0, x_boolR, x_sSq, sAug, List.getElem?_cons_succ, List.getElem?_cons_zero, List.set_cons_succ, List.set_cons_zero, x_sNx, e3]
        exact r5
    | false =>
      refine ⟨m + 1, by omega, Nat.le_refl _, fun j h4 h5 => by omega, ne_of_beq_false e0, ?_⟩
      unfold whileN
      simp only [wlC, x_dB, x_d2, x_dCall, x_daC, x_daN, x_dC, rb_ok, x_dV0, x_dVs, i1, i2, x_ofO_some, e1, e2, o_eq, e0, x_boolR]
def wlB : DS := sSq (sAs (gN 4) (dIfE (dB (d2 opEq (dCall M_bit_of (daC (d2 opIx (dV 2) (dC (.int 1))) (daC (dV 5) daN))) (dC (.int 0)))) (dCall M_fork_of (daC (dV 4) (daC (dC (.tup K_NONE)) daN))) (dCall M_fork_of (daC (dC (.tup K_NONE)) (daC (dV 4) daN))))) sNx
theorem wrap_loop {p : Int × D} {kq : Int} {q : T} (hq0 : Lf q kq) (hp : 0 ≤ p.1) {a b t : Option D} : ∀ (j r : Nat) (x : Option D), r + j ≤ 16 → (∀ i, r ≤ i → i < r + j → bi kq i = bi p.1 i) →
    ∃ x', forL (gN 5) wlB (rg (15 - (r : Int)) j (-1)) [a, b, some (T.leaf p.1 p.2).d, t, some (wlT r p kq q).d, x] = .nx [a, b, some (T.leaf p.1 p.2).d, t, some (wlT (r + j) p kq q).d, x'] := by
  intro j
  induction j with
  | zero => intro r x _ _; exact ⟨x, rfl⟩
  | succ j ih =>
    intro r x h1 h2
    have e0 : (15 - (r : Int)) = ((15 - r : Nat) : Int) := by omega
    have e2 : M_bit_of [.int p.1, .int (15 - (r : Int))] = .ok (.int (bi p.1 r)) := by
      rw [e0, bit_of hp (by omega)]
      congr 3
      omega
    have i2 : opIx (T.leaf p.1 p.2).d (.int 1) = some (.int p.1) := rfl
    have en : D.tup K_NONE = T.non.d := rfl
    have e3 : 15 - (r : Int) + -1 = 15 - ((r + 1 : Nat) : Int) := by omega
    have hb := h2 r (Nat.le_refl _) (by omega)
    obtain ⟨x', e⟩ := ih (r + 1) (some (.int (15 - (r : Int)))) (by omega) fun i h3 h4 => h2 i (by omega) (by omega)
    have e5 : r + 1 + j = r + (j + 1) := by omega
    rw [e5] at e
    refine ⟨x', ?_⟩
    rw [rg_succ, x_forN, e3]
    rw [← e]
    cases z : (bi p.1 r == 0) with
    | true =>
      have z' := eq_of_beq z
      have w1 : wlT (r + 1) p kq q = .fork ((wlT r p kq q).many + 0) (wlT r p kq q) .non := by
        show (if bi kq r = bi p.1 r then _ else _) = _
        rw [if_pos hb, if_pos z']
      simp only [wlB, x_sSq, x_sAsN, x_dIfE, x_dB, x_d2, x_dCall, x_daC, x_daN, x_dC, rb_ok, x_dV0, x_dVs, List.set_cons_succ, List.set_cons_zero, i2, x_ofO_some, e2, o_eq, z, x_boolR, if_true, en, fork_of, x_sNx, w1]
      rfl
    | false =>
      have z' := ne_of_beq_false z
      have w1 : wlT (r + 1) p kq q = .fork (0 + (wlT r p kq q).many) .non (wlT r p kq q) := by
        show (if bi kq r = bi p.1 r then _ else _) = _
        rw [if_pos hb, if_neg z']
      simp only [wlB, x_sSq, x_sAsN, x_dIfE, x_dB, x_d2, x_dCall, x_daC, x_daN, x_dC, rb_ok, x_dV0, x_dVs, List.set_cons_succ, List.set_cons_zero, i2, x_ofO_some, e2, o_eq, z, x_boolR, Bool.false_eq_true, if_false, en, fork_of, x_sNx, w1]
      rfl
theorem with_leaf {p : Int × D} {kq : Int} {q : T} (hq0 : Lf q kq) (hp : 0 ≤ p.1) (hq : 0 ≤ kq) (hn : p.1 ≠ kq) {m : Nat} (hm : m ≤ 16) (hs : p.1 / 2 ^ m = kq / 2 ^ m) :
    M_with_leaf [q.d, .int ((16 - m : Nat) : Int), (T.leaf p.1 p.2).d] = .ok (wlT m p kq q).d := by
  obtain ⟨r, r1, r2, r3, r4, r5⟩ := turn_loop hq0 hp hq hn (u := some (.int ((16 - m : Nat) : Int))) (w := none) (x := none) (y := none) m FU hm hs (Nat.lt_of_le_of_lt hm (by decide))
  obtain ⟨x', e⟩ := wrap_loop (kq := kq) (q := q) hq0 hp (a := some q.d) (b := some (.int ((16 - m : Nat) : Int))) (t := some (.int ((16 - r : Nat) : Int))) (m - r) r none (by omega) fun i h3 h4 => r3 i h3 (by omega)
  have em : r + (m - r) = m := by omega
  rw [em] at e
  have i1 : opIx q.d (.int 0) = some (tag q) := ix_tag q
  have i2 : opIx (T.leaf p.1 p.2).d (.int 1) = some (.int p.1) := rfl
  have i3 : opEq (tag q) (.str "none") = some (.bl false) := lf_nn hq0
  have e2 : M_bit_of [.int p.1, .int ((16 - r : Nat) : Int)] = .ok (.int (bi p.1 (r - 1))) := by
    rw [bit_of hp (by omega)]
    congr 3
    omega
  have hw : sWh wlC (sSq (sAug 3 (fun i j => i + j) (dC (.int 1))) sNx) [some q.d, some (.int ((16 - m : Nat) : Int)), some (T.leaf p.1 p.2).d, some (.int ((16 - m : Nat) : Int)), none, none] = .nx [some q.d, some (.int ((16 - m : Nat) : Int)), some (T.leaf p.1 p.2).d, some (.int ((16 - r : Nat) : Int)), none, none] := r5
  have w0 : (wlT r p kq q).d = (if bi p.1 (r - 1) = 0 then (T.fork (1 + q.many) (.leaf p.1 p.2) q).d else (T.fork (1 + q.many) q (.leaf p.1 p.2)).d) := by
    obtain ⟨r', rfl⟩ : ∃ r', r = r' + 1 := ⟨r - 1, by omega⟩
    rw [Nat.add_sub_cancel] at r4 ⊢
    show (if bi kq r' = bi p.1 r' then _ else _ : T).d = _
    rw [if_neg r4, hq0.many]
    split <;> rfl
  have hl : diR3 (d2 opSub (dV 3) (dC (.int 1))) (d2 opSub (dV 1) (dC (.int 1))) (d1 opNeg (dC (.int 1))) [some q.d, some (.int ((16 - m : Nat) : Int)), some (T.leaf p.1 p.2).d, some (.int ((16 - r : Nat) : Int)), some (wlT r p kq q).d, none] = .ok (rg (15 - (r : Int)) (m - r) (-1)) := by
    have e1 : (((16 - r : Nat) : Int) - 1 - (((16 - m : Nat) : Int) - 1)).toNat = m - r := by omega
    have e3 : ((16 - r : Nat) : Int) - 1 = 15 - (r : Int) := by omega
    rw [x_diR3n (i := ((16 - r : Nat) : Int) - 1) (j := ((16 - m : Nat) : Int) - 1) (by simp) (by simp) (by simp) (by omega) (by omega) (by omega) (by omega), e1, e3]
  have f1 : M_fork_of [(T.leaf p.1 p.2).d, q.d] = .ok (T.fork (1 + q.many) (.leaf p.1 p.2) q).d := fork_of _ _
  have f2 : M_fork_of [q.d, (T.leaf p.1 p.2).d] = .ok (T.fork (1 + q.many) q (.leaf p.1 p.2)).d := by
    rw [fork_of, hq0.many]
    rfl
  show M_with_leaf _ = _
  unfold M_with_leaf
  rw [x_defM (k := 3) rfl]
  have eb : b_with_leaf = sSq (sIf (dB (d2 opEq (d2 opIx (dV 0) (dC (.int 0))) (dC (.str "none")))) (sSq (sRet (dV 2)) sNx) sNx)
    (sSq (sAs (gN 3) (dV 1)) (sSq (sWh wlC (sSq (sAug 3 (fun i j => i + j) (dC (.int 1))) sNx))
    (sSq (sAs (gN 4) (dIfE (dB (d2 opEq (dCall M_bit_of (daC (d2 opIx (dV 2) (dC (.int 1))) (daC (dV 3) daN))) (dC (.int 0)))) (dCall M_fork_of (daC (dV 2) (daC (dV 0) daN))) (dCall M_fork_of (daC (dV 0) (daC (dV 2) daN)))))
    (sSq (sFor (diR3 (d2 opSub (dV 3) (dC (.int 1))) (d2 opSub (dV 1) (dC (.int 1))) (d1 opNeg (dC (.int 1)))) (gN 5) wlB) (sSq (sRet (dV 4)) sNx))))) := rfl
  rw [eb]
  simp only [List.map_cons, List.map_nil, List.cons_append, List.nil_append, List.replicate, x_sSq, x_sIf, x_dB, x_d2, x_dV0, x_dVs, x_dC, rb_ok, i1, x_ofO_some, i3, x_boolR, x_sNx, x_sAsN, List.set_cons_succ, List.set_cons_zero, hw, x_dIfE, x_dCall, x_daC, x_daN, i2, e2, o_eq]
  cases z : (bi p.1 (r - 1) == 0) with
  | true =>
    have z' := eq_of_beq z
    rw [if_pos z'] at w0
    simp only [if_true, f1, ← w0, List.set_cons_succ, List.set_cons_zero, x_sFor hl, e, x_sRet, x_dV0, x_dVs]
  | false =>
    have z' := ne_of_beq_false z
    rw [if_neg z'] at w0
    simp only [Bool.false_eq_true, if_false, f2, ← w0, List.set_cons_succ, List.set_cons_zero, x_sFor hl, e, x_sRet, x_dV0, x_dVs]
end K49
/-! GB: changed_at, value_at, is_open of any tree. -/
namespace DL
theorem sq_nx {a b : DS} {s s1 : DSt} (h : a s = .nx s1) : sSq a b s = b s1 := by
  rw [x_sSq, h]
theorem def1_rt {n : Nat} {b : DS} {a d : D} {s : DSt} (hs : [some a] ++ List.replicate (n - 1) none = s) (h : b s = .rt d) : defM n 1 b [a] = .ok d := by
  rw [x_def1, hs, h]
theorem def2_rt {n : Nat} {b : DS} {a a' d : D} {s : DSt} (hs : [some a, some a'] ++ List.replicate (n - 2) none = s) (h : b s = .rt d) : defM n 2 b [a, a'] = .ok d := by
  rw [x_def2, hs, h]
theorem def3_rt {n : Nat} {b : DS} {a a' a'' d : D} {s : DSt} (hs : [some a, some a', some a''] ++ List.replicate (n - 3) none = s) (h : b s = .rt d) : defM n 3 b [a, a', a''] = .ok d := by
  rw [x_def3, hs, h]
theorem def2_er {n : Nat} {b : DS} {a a' : D} {e : Err} {s : DSt} (hs : [some a, some a'] ++ List.replicate (n - 2) none = s) (h : ∃ s', b s = .er e s') : defM n 2 b [a, a'] = .err e := by
  obtain ⟨s', h⟩ := h
  rw [x_def2, hs, h]
theorem def3_er {n : Nat} {b : DS} {a a' a'' : D} {e : Err} {s : DSt} (hs : [some a, some a', some a''] ++ List.replicate (n - 3) none = s) (h : ∃ s', b s = .er e s') : defM n 3 b [a, a', a''] = .err e := by
  obtain ⟨s', h⟩ := h
  rw [x_def3, hs, h]
theorem sq_er {a b : DS} {s s1 : DSt} {e : Err} (h : a s = .er e s1) : sSq a b s = .er e s1 := by
  rw [x_sSq, h]
theorem sq_rt {a b : DS} {s : DSt} {d : D} (h : a s = .rt d) : sSq a b s = .rt d := by
  rw [x_sSq, h]
theorem sl0 : (([] : List D).length ≤ SL) = True := eq_true (by show 0 ≤ 16777216; omega)
theorem sl1 (a : D) : (([a] : List D).length ≤ SL) = True := eq_true (by show 1 ≤ 16777216; omega)
theorem sl2 (a b : D) : (([a, b] : List D).length ≤ SL) = True := eq_true (by show 2 ≤ 16777216; omega)
theorem sl3 (a b c : D) : (([a, b, c] : List D).length ≤ SL) = True := eq_true (by show 3 ≤ 16777216; omega)
theorem sl4 (a b c d : D) : (([a, b, c, d] : List D).length ≤ SL) = True := eq_true (by show 4 ≤ 16777216; omega)
abbrev eMi (k : Int) : Err := ⟨"Missing", [("key", .int k)]⟩
theorem x_sRaiK {i : Nat} {s : DSt} {k : Int} (h : dV i s = .ok (.int k)) : sRaiO "Missing" ["key"] (daC (dV i) daN) s = .er (eMi k) s := by
  unfold sRaiO
  rw [x_daC, h, rb_ok, x_daN, rb_ok]
  rfl
@[simp] theorem x_sPut {i : Nat} {k a : DE} {s : DSt} : sPut i k a s = (match ownD s i with
  | some kvs => (match a s with
    | .ok d => (match k s with
      | .ok kd => (match keyOf kd with
        | some kk => if kvs.length < SL then .nx (s.set i (some (.dct (pt kvs kk d)))) else .stuck
        | none => .stuck)
      | .err x => .er x s | .stuck => .stuck)
    | .err x => .er x s | .stuck => .stuck)
  | none => .stuck) := (rfl)
end DL
namespace K49
open DL
open PySem (Str)
open Lean in
local macro_rules
  | `(tactic| simp_arith [$ls,*]) => `(tactic| simp only [x_def1, x_def2, x_def3, x_def4, x_def5, List.cons_append, List.nil_append, List.replicate, Nat.reduceSub, List.map_cons, List.map_nil, x_sSq, x_sIf, x_sRet, x_sE, x_sAsN, x_dV0, x_dVs, x_dC, x_d1, x_d2, x_dCall, x_dCallF, x_daC, x_daN, rb_ok, x_ofO_some, x_dB, x_boolR, x_dTr, x_dtAnd, x_dtOr, x_dtNot, x_dAnd, x_dNot, x_dIfE, x_dChain, x_sNx, x_sApp, x_ownL0, x_ownLs, x_ownD0, x_ownDs, x_sPut, x_sRai, List.set_cons_zero, List.set_cons_succ, Bool.not_true, Bool.not_false, Bool.false_eq_true, if_true, if_false, x_dTup, x_dLst, sl0, sl1, sl2, sl3, sl4, o_add, o_sub, o_eq, o_ne, o_lt, o_le, o_gt, o_ge, o_lenL, o_lenT, o_trB, o_trL, o_trT, o_int, $ls,*])
def CH1 : DS := (sAs (gT [3, 4]) (dCall M_way_to (daC (dV 0) (daC (dV 1) daN))))
def CH2 : DS := (sIf (dB (d2 opEq (d2 opIx (dV 4) (dC (.int 0))) (dC (.str "cut")))) (sSq (sRaiO "Missing" ["key"] (daC (dV 1) daN))
  sNx) sNx)
def CH3 : DS := (sAs (gN 5) (dAnd (d2 opNe (d2 opIx (dV 4) (dC (.int 0))) (dC (.str "none"))) (d2 opEq (d2 opIx (dV 4) (dC (.int 1))) (dV 1))))
def CH4 : DS := (sIf (dtAnd (dB (d2 opEq (dV 2) (dC (.int 0)))) (dtNot (dTr (dV 5)))) (sSq (sRet (dV 0))
  sNx) sNx)
def CH5 : DS := (sIf (dB (d2 opEq (dV 2) (dC (.int 0)))) (sSq (sAs (gN 6) (dC (.tup K_NONE)))
  sNx) (sSq (sIf (dTr (dV 5)) (sSq (sAs (gN 6) (dTup (daC (dC (.str "leaf")) (daC (dV 1) (daC (dV 2) daN)))))
  sNx) (sSq (sAs (gN 6) (dCall M_with_leaf (daC (dV 4) (daC (d1 fLen (dV 3)) (daC (dTup (daC (dC (.str "leaf")) (daC (dV 1) (daC (dV 2) daN)))) daN)))))
  sNx))
  sNx))
def CH6 : DS := (sFor (diL (d1 opRev (dV 3))) (gT [7, 8]) (sSq (sAs (gN 6) (dIfE (dB (d2 opEq (dV 8) (dC (.int 0)))) (dCall M_joined (daC (dV 6) (daC (d2 opIx (dV 7) (dC (.int 3))) daN))) (dCall M_joined (daC (d2 opIx (dV 7) (dC (.int 2))) (daC (dV 6) daN)))))
  sNx))
def CH7 : DS := (sRet (dV 6))
theorem b_CH : b_changed_at = sSq CH1 (sSq CH2 (sSq CH3 (sSq CH4 (sSq CH5 (sSq CH6 (sSq CH7 sNx)))))) := (rfl)
def VA1 : DS := (sAs (gT [2, 3]) (dCall M_way_to (daC (dV 0) (daC (dV 1) daN))))
def VA2 : DS := (sIf (dtOr (dB (d2 opEq (d2 opIx (dV 3) (dC (.int 0))) (dC (.str "cut")))) (dtAnd (dB (d2 opEq (d2 opIx (dV 3) (dC (.int 0))) (dC (.str "shut")))) (dB (d2 opEq (d2 opIx (dV 3) (dC (.int 1))) (dV 1))))) (sSq (sRaiO "Missing" ["key"] (daC (dV 1) daN))
  sNx) sNx)
def VA3 : DS := (sRet (dIfE (dtAnd (dB (d2 opEq (d2 opIx (dV 3) (dC (.int 0))) (dC (.str "leaf")))) (dB (d2 opEq (d2 opIx (dV 3) (dC (.int 1))) (dV 1)))) (d2 opIx (dV 3) (dC (.int 2))) (dC (.int 0))))
theorem b_VA : b_value_at = sSq VA1 (sSq VA2 (sSq VA3 sNx)) := (rfl)
def IO1 : DS := (sAs (gN 2) (d2 opIx (dCall M_way_to (daC (dV 0) (daC (dV 1) daN))) (dC (.int 1))))
def IO2 : DS := (sRet (dAnd (d2 opNe (d2 opIx (dV 2) (dC (.int 0))) (dC (.str "cut"))) (dNot (dAnd (d2 opEq (d2 opIx (dV 2) (dC (.int 0))) (dC (.str "shut"))) (d2 opEq (d2 opIx (dV 2) (dC (.int 1))) (dV 1))))))
theorem b_IO : b_is_open = sSq IO1 (sSq IO2 sNx) := (rfl)
def isCut : T → Bool
  | .cut _ _ => true
  | _ => false
def isShut : T → Bool
  | .shut _ _ => true
  | _ => false
/-- the key of a leaf, shut or not -/
def kyL : T → Option Int
  | .leaf k _ => some k
  | .shut k _ => some k
  | _ => none
theorem eqCut (t : T) : opEq (tag t) (.str "cut") = some (.bl (isCut t)) := by cases t <;> rfl
theorem neCut (t : T) : opNe (tag t) (.str "cut") = some (.bl (!isCut t)) := by cases t <;> rfl
theorem eqShut (t : T) : opEq (tag t) (.str "shut") = some (.bl (isShut t)) := by cases t <;> rfl
theorem eqLeaf (t : T) : opEq (tag t) (.str "leaf") = some (.bl (match t with | .leaf _ _ => true | _ => false)) := by cases t <;> rfl
/-- the new end -/
def newE (m : Nat) (e : T) (k : Int) (v : D) : T := match kyL e with
  | some k' => if k' = k then (if isZ v = true then .non else .leaf k v) else if isZ v = true then e else wlT m (k, v) k' e
  | none => if isZ v = true then .non else .leaf k v
/-- the tree with k's value put in -/
def chT (n : Nat) (t : T) (k : Int) (v : D) : T :=
  if isZ v = true ∧ kyL (endT n t k) ≠ some k then t else rebuild (wayT n t k) (newE (n - (wayT n t k).length) (endT n t k) k v)
/-- what stands at the end of a way -/
def EndOk (n : Nat) (t : T) (k : Int) : Prop := ∀ k', kyL (endT n t k) = some k' → 0 ≤ k' ∧ k' / 2 ^ (n - (wayT n t k).length) = k / 2 ^ (n - (wayT n t k).length)
theorem end_nofork : ∀ (n : Nat) (t : T) (k : Int), ht t ≤ n → isFork (endT n t k) = false
  | 0, t, k, h => by cases t <;> first | rfl | (simp [ht] at h)
  | n + 1, .fork m l r, k, h => by
    have e : ht (.fork m l r) = max (ht l) (ht r) + 1 := rfl
    exact end_nofork n (if bi k n = 0 then l else r) k (by split <;> omega)
  | n + 1, .non, _, _ => rfl
  | n + 1, .leaf _ _, _, _ => rfl
  | n + 1, .shut _ _, _, _ => rfl
  | n + 1, .cut _ _, _, _ => rfl
theorem kyL_lf {e : T} {k : Int} (h : kyL e = some k) : Lf e k := by
  cases e with
  | leaf k' v => cases h; exact .inl ⟨v, rfl⟩
  | shut k' s => cases h; exact .inr ⟨s, rfl⟩
  | _ => cases h
theorem changed_miss {t : T} {k : Int} {v : D} (h : ht t ≤ 16) (hk : 0 ≤ k) (hc : isCut (endT 16 t k) = true) : M_changed_at [t.d, .int k, v] = .err (eMi k) := by
  have hw := way_to hk h
  have s1 : CH1 [some t.d, some (.int k), some v, none, none, none, none, none, none] = .nx [some t.d, some (.int k), some v, some (.lst ((wayT 16 t k).map wd)), some (endT 16 t k).d, none, none, none, none] := by
    unfold CH1
    rw [x_sAsT]
    simp_arith [hw]
    rfl
  have s2 : CH2 [some t.d, some (.int k), some v, some (.lst ((wayT 16 t k).map wd)), some (endT 16 t k).d, none, none, none, none] = .er (eMi k) [some t.d, some (.int k), some v, some (.lst ((wayT 16 t k).map wd)), some (endT 16 t k).d, none, none, none, none] := by
    unfold CH2
    simp_arith [ix_tag, eqCut, hc]
    rw [x_sRaiK (k := k) rfl]
  unfold M_changed_at
  refine def3_er (s := [some t.d, some (.int k), some v, none, none, none, none, none, none]) rfl ?_
  rw [b_CH]
  exact ⟨_, (sq_nx s1).trans (sq_er s2)⟩
theorem changed {t : T} {k : Int} {v : D} (h : ht t ≤ 16) (hk : 0 ≤ k) (hc : isCut (endT 16 t k) = false) (ho : EndOk 16 t k) (hv : VZ v) : M_changed_at [t.d, .int k, v] = .ok (chT 16 t k v).d := by
  have hw := way_to hk h
  have hfk := wayT_fork 16 t k
  have hlen := wayT_len 16 t k
  have hnf := end_nofork 16 t k h
  unfold EndOk at ho
  unfold chT
  generalize he : endT 16 t k = e at *
  generalize hww : wayT 16 t k = w at *
  have en : D.tup K_NONE = T.non.d := rfl
  have el : D.tup [.str "leaf", .int k, v] = (T.leaf k v).d := rfl
  have hz : opEq v (.int 0) = some (.bl (isZ v)) := hv
  have s1 : CH1 [some t.d, some (.int k), some v, none, none, none, none, none, none] = .nx [some t.d, some (.int k), some v, some (.lst (w.map wd)), some e.d, none, none, none, none] := by
    unfold CH1
    rw [x_sAsT]
    simp_arith [hw]
    rfl
  have s2 : CH2 [some t.d, some (.int k), some v, some (.lst (w.map wd)), some e.d, none, none, none, none] = .nx [some t.d, some (.int k), some v, some (.lst (w.map wd)), some e.d, none, none, none, none] := by
    unfold CH2
    simp_arith [ix_tag, eqCut, hc]
  have s3 : CH3 [some t.d, some (.int k), some v, some (.lst (w.map wd)), some e.d, none, none, none, none] = .nx [some t.d, some (.int k), some v, some (.lst (w.map wd)), some e.d, some (.bl (kyL e == some k)), none, none, none] := by
    unfold CH3
    cases e with
    | non =>
      have e2 : opNe (tag T.non) (.str "none") = some (.bl false) := rfl
      simp_arith [ix_tag, e2]
      rfl
    | leaf k' v' =>
      have e2 : opNe (tag (T.leaf k' v')) (.str "none") = some (.bl true) := rfl
      have e3 : opIx (T.leaf k' v').d (.int 1) = some (.int k') := rfl
      simp_arith [ix_tag, e2, e3, kyL]
      rfl
    | shut k' v' =>
      have e2 : opNe (tag (T.shut k' v')) (.str "none") = some (.bl true) := rfl
      have e3 : opIx (T.shut k' v').d (.int 1) = some (.int k') := rfl
      simp_arith [ix_tag, e2, e3, kyL]
      rfl
    | cut => cases hc
    | fork => cases hnf
  have fin : ∀ (x : T) (mine : D), sSq CH6 (sSq CH7 sNx) [some t.d, some (.int k), some v, some (.lst (w.map wd)), some e.d, some mine, some x.d, none, none] = .rt (rebuild w x).d := fun x mine => by
    obtain ⟨g', h', ef⟩ := fold_loop (a := some t.d) (b := some (.int k)) (c := some v) (d := some (.lst (w.map wd))) (e := some e.d) (f := some mine) w x none none hfk
    have ed : diL (d1 opRev (dV 3)) [some t.d, some (.int k), some v, some (.lst (w.map wd)), some e.d, some mine, some x.d, none, none] = .ok (w.map wd).reverse := rfl
    have s6 : CH6 [some t.d, some (.int k), some v, some (.lst (w.map wd)), some e.d, some mine, some x.d, none, none] = .nx [some t.d, some (.int k), some v, some (.lst (w.map wd)), some e.d, some mine, some (rebuild w x).d, g', h'] := (x_sFor ed).trans ef
    rw [sq_nx s6]
    unfold CH7
    simp_arith []
  unfold M_changed_at
  refine def3_rt (s := [some t.d, some (.int k), some v, none, none, none, none, none, none]) rfl ?_
  rw [b_CH]
  refine (sq_nx s1).trans ((sq_nx s2).trans ((sq_nx s3).trans ?_))
  cases z : isZ v with
  | true =>
    cases c : (kyL e == some k) with
    | false =>
      have c' := ne_of_beq_false c
      rw [if_pos ⟨rfl, c'⟩]
      refine sq_rt ?_
      unfold CH4
      simp_arith [hz, z]
    | true =>
      have c' := eq_of_beq c
      have s4 : CH4 [some t.d, some (.int k), some v, some (.lst (w.map wd)), some e.d, some (.bl true), none, none, none] = .nx [some t.d, some (.int k), some v, some (.lst (w.map wd)), some e.d, some (.bl true), none, none, none] := by
        unfold CH4
        simp_arith [hz, z]
      have s5 : CH5 [some t.d, some (.int k), some v, some (.lst (w.map wd)), some e.d, some (.bl true), none, none, none] = .nx [some t.d, some (.int k), some v, some (.lst (w.map wd)), some e.d, some (.bl true), some T.non.d, none, none] := by
        unfold CH5
        simp_arith [hz, z, en]
      rw [if_neg (fun q => q.2 c'), sq_nx s4, sq_nx s5, fin]
      have : newE (16 - w.length) e k v = .non := by
        unfold newE
        rw [c']
        simp only [if_true, z]
      rw [this]
  | false =>
    rw [if_neg (fun q => by cases q.1)]
    have s4 : ∀ b : Bool, CH4 [some t.d, some (.int k), some v, some (.lst (w.map wd)), some e.d, some (.bl b), none, none, none] = .nx [some t.d, some (.int k), some v, some (.lst (w.map wd)), some e.d, some (.bl b), none, none, none] := fun b => by
      unfold CH4
      simp_arith [hz, z]
    rw [sq_nx (s4 _)]
    cases c : (kyL e == some k) with
    | true =>
      have c' := eq_of_beq c
      have s5 : CH5 [some t.d, some (.int k), some v, some (.lst (w.map wd)), some e.d, some (.bl true), none, none, none] = .nx [some t.d, some (.int k), some v, some (.lst (w.map wd)), some e.d, some (.bl true), some (T.leaf k v).d, none, none] := by
        unfold CH5
        simp_arith [hz, z, el]
      rw [sq_nx s5, fin]
      have : newE (16 - w.length) e k v = .leaf k v := by
        unfold newE
        rw [c']
        simp [z]
      rw [this]
    | false =>
      have c' := ne_of_beq_false c
      have hwl : M_with_leaf [e.d, .int ((w.map wd).length : Int), (T.leaf k v).d] = .ok (newE (16 - w.length) e k v).d := by
        cases q : kyL e with
        | none =>
          have : e = .non := by
            cases e with
            | non => rfl
            | leaf => cases q
            | shut => cases q
            | cut => cases hc
            | fork => cases hnf
          subst this
          show M_with_leaf [T.non.d, .int ((w.map wd).length : Int), (T.leaf k v).d] = .ok (if isZ v = true then T.non else .leaf k v).d
          rw [z]
          rfl
        | some k' =>
          obtain ⟨o1, o2⟩ := ho k' q
          have hne : k' ≠ k := fun e => c' (by rw [q, e])
          have := with_leaf (p := (k, v)) (kyL_lf q) hk o1 (fun e => hne e.symm) (m := 16 - w.length) (by omega) o2.symm
          have e5 : 16 - (16 - w.length) = (w.map wd).length := by rw [List.length_map]; omega
          rw [e5] at this
          rw [this]
          unfold newE
          rw [q]
          simp only
          rw [if_neg hne, if_neg (by rw [z]; decide)]
      have s5 : CH5 [some t.d, some (.int k), some v, some (.lst (w.map wd)), some e.d, some (.bl false), none, none, none] = .nx [some t.d, some (.int k), some v, some (.lst (w.map wd)), some e.d, some (.bl false), some (newE (16 - w.length) e k v).d, none, none] := by
        unfold CH5
        simp_arith [hz, z, el, hwl]
      rw [sq_nx s5, fin]
/-! ### the value there -/
/-- what may be told of k: nothing at a cut, nor of its own shut leaf -/
def hid (e : T) (k : Int) : Bool := isCut e || (isShut e && kyL e == some k)
def vlT (e : T) (k : Int) : D := match e with
  | .leaf k' v => if k' = k then v else .int 0
  | _ => .int 0
theorem value_miss {t : T} {k : Int} (h : ht t ≤ 16) (hk : 0 ≤ k) (hc : hid (endT 16 t k) k = true) : M_value_at [t.d, .int k] = .err (eMi k) := by
  have hw := way_to hk h
  have hnf := end_nofork 16 t k h
  generalize he : endT 16 t k = e at *
  generalize hww : wayT 16 t k = w at *
  have s1 : VA1 [some t.d, some (.int k), none, none] = .nx [some t.d, some (.int k), some (.lst (w.map wd)), some e.d] := by
    unfold VA1
    rw [x_sAsT]
    simp_arith [hw]
    rfl
  have s2 : VA2 [some t.d, some (.int k), some (.lst (w.map wd)), some e.d] = .er (eMi k) [some t.d, some (.int k), some (.lst (w.map wd)), some e.d] := by
    unfold VA2
    cases e with
    | non => cases hc
    | leaf => cases hc
    | fork => cases hnf
    | cut s n =>
      simp_arith [ix_tag, eqCut, isCut]
      rw [x_sRaiK (k := k) rfl]
    | shut k' s =>
      have e3 : opIx (T.shut k' s).d (.int 1) = some (.int k') := rfl
      have : (k' == k) = true := by
        rw [beq_iff_eq]
        have : (some k' == some k) = true := by simpa [hid, isCut, isShut, kyL] using hc
        exact Option.some.inj (eq_of_beq this)
      simp_arith [ix_tag, eqCut, isCut, eqShut, isShut, e3, this]
      rw [x_sRaiK (k := k) rfl]
  unfold M_value_at
  refine def2_er (s := [some t.d, some (.int k), none, none]) rfl ?_
  rw [b_VA]
  exact ⟨_, (sq_nx s1).trans (sq_er s2)⟩
theorem value {t : T} {k : Int} (h : ht t ≤ 16) (hk : 0 ≤ k) (hc : hid (endT 16 t k) k = false) : M_value_at [t.d, .int k] = .ok (vlT (endT 16 t k) k) := by
  have hw := way_to hk h
  have hnf := end_nofork 16 t k h
  generalize he : endT 16 t k = e at *
  generalize hww : wayT 16 t k = w at *
  have s1 : VA1 [some t.d, some (.int k), none, none] = .nx [some t.d, some (.int k), some (.lst (w.map wd)), some e.d] := by
    unfold VA1
    rw [x_sAsT]
    simp_arith [hw]
    rfl
  have s2 : VA2 [some t.d, some (.int k), some (.lst (w.map wd)), some e.d] = .nx [some t.d, some (.int k), some (.lst (w.map wd)), some e.d] := by
    unfold VA2
    cases e with
    | non => simp_arith [ix_tag, eqCut, isCut, eqShut, isShut]
    | leaf => simp_arith [ix_tag, eqCut, isCut, eqShut, isShut]
    | fork => cases hnf
    | cut s n => cases hc
    | shut k' s =>
      have e3 : opIx (T.shut k' s).d (.int 1) = some (.int k') := rfl
      have : (k' == k) = false := by
        have : (some k' == some k) = false := by simpa [hid, isCut, isShut, kyL] using hc
        rw [beq_eq_false_iff_ne]
        exact fun e => ne_of_beq_false this (by rw [e])
      simp_arith [ix_tag, eqCut, isCut, eqShut, isShut, e3, this]
  have s3 : VA3 [some t.d, some (.int k), some (.lst (w.map wd)), some e.d] = .rt (vlT e k) := by
    unfold VA3
    cases e with
    | non => simp_arith [ix_tag, eqLeaf]; rfl
    | fork => cases hnf
    | cut s n => cases hc
    | shut k' s => simp_arith [ix_tag, eqLeaf]; rfl
    | leaf k' v =>
      have e3 : opIx (T.leaf k' v).d (.int 1) = some (.int k') := rfl
      have e4 : opIx (T.leaf k' v).d (.int 2) = some v := rfl
      cases z : (k' == k) with
      | true => simp_arith [ix_tag, eqLeaf, e3, e4, z, vlT]; rw [if_pos (eq_of_beq z)]
      | false => simp_arith [ix_tag, eqLeaf, e3, e4, z, vlT]; rw [if_neg (ne_of_beq_false z)]
  unfold M_value_at
  refine def2_rt (s := [some t.d, some (.int k), none, none]) rfl ?_
  rw [b_VA]
  exact (sq_nx s1).trans ((sq_nx s2).trans (sq_rt s3))
theorem is_open {t : T} {k : Int} (h : ht t ≤ 16) (hk : 0 ≤ k) : M_is_open [t.d, .int k] = .ok (.bl (!hid (endT 16 t k) k)) := by
  have hw := way_to hk h
  have hnf := end_nofork 16 t k h
  generalize he : endT 16 t k = e at *
  generalize hww : wayT 16 t k = w at *
  have s1 : IO1 [some t.d, some (.int k), none] = .nx [some t.d, some (.int k), some e.d] := by
    unfold IO1
    simp_arith [hw, o_ix21]
  have s2 : IO2 [some t.d, some (.int k), some e.d] = .rt (.bl (!hid e k)) := by
    unfold IO2
    cases e with
    | non => simp_arith [ix_tag, neCut, isCut, eqShut, isShut]; rfl
    | leaf => simp_arith [ix_tag, neCut, isCut, eqShut, isShut]; rfl
    | fork => cases hnf
    | cut s n => simp_arith [ix_tag, neCut, isCut, eqShut, isShut]; rfl
    | shut k' s =>
      have e3 : opIx (T.shut k' s).d (.int 1) = some (.int k') := rfl
      simp_arith [ix_tag, neCut, isCut, eqShut, isShut, e3]
      rfl
  unfold M_is_open
  refine def2_rt (s := [some t.d, some (.int k), none]) rfl ?_
  rw [b_IO]
  exact (sq_nx s1).trans (sq_rt s2)
theorem newE_cn {n : Nat} {e : T} {k : Int} {v : D} (h : e = .non ∨ ∃ q : Int × D, e = .leaf q.1 q.2) : newE n e k v = newEnd n e k v := by
  rcases h with rfl | ⟨q, rfl⟩
  · rfl
  · show (if q.1 = k then _ else if isZ v = true then _ else wlT n (k, v) q.1 (.leaf q.1 q.2)) = (if q.1 = k then _ else if isZ v = true then _ else wl n (k, v) (q.1, q.2))
    rw [wlT_leaf]
theorem chT_cn {n : Nat} {ps : PL} {k : Int} {v : D} (h : Gd n ps) (a : At n k ps) : chT n (cn n ps) k v = cn n (updP k v ps) := by
  have hc := change_cn n ps k v h a
  have he := end_cn n ps k h
  have hn : newE (n - (wayT n (cn n ps) k).length) (endT n (cn n ps) k) k v = newEnd (n - (wayT n (cn n ps) k).length) (endT n (cn n ps) k) k v := newE_cn (he.imp id fun ⟨q, _, e⟩ => ⟨q, e⟩)
  unfold chT
  split
  · rename_i q
    have : newE (n - (wayT n (cn n ps) k).length) (endT n (cn n ps) k) k v = endT n (cn n ps) k := by
      rcases he with e | ⟨q', _, e⟩
      · rw [e]
        show (if isZ v = true then T.non else _) = _
        rw [if_pos q.1]
      · rw [e] at q ⊢
        show (if q'.1 = k then _ else if isZ v = true then T.leaf q'.1 q'.2 else _) = _
        rw [if_neg (fun z => q.2 (by rw [← z]; rfl)), if_pos q.1]
    rw [← hc, ← hn, this, rebuild_self n ps k h]
  · rw [hn, hc]
theorem cut_cn {n : Nat} {ps : PL} {k : Int} (h : Gd n ps) : isCut (endT n (cn n ps) k) = false := by
  rcases end_cn n ps k h with e | ⟨q, _, e⟩ <;> rw [e] <;> rfl
theorem endok_cn {n : Nat} {ps : PL} {k : Int} (h : Gd n ps) (a : At n k ps) (hp : ∀ p ∈ ps, 0 ≤ p.1) : EndOk n (cn n ps) k := by
  intro k' e
  rcases end_cn n ps k h with z | ⟨q, hq, z⟩
  · rw [z] at e; cases e
  · have hat := end_at n ps k h a q z hq
    rw [z] at e
    cases e
    exact ⟨hp q hq, hat⟩
theorem changed_at {ps : PL} {k : Int} {v : D} (h : Gd 16 ps) (a : At 16 k ps) (hk : 0 ≤ k) (hps : ∀ p ∈ ps, 0 ≤ p.1) (hv : VZ v) : M_changed_at [(cn 16 ps).d, .int k, v] = .ok (cn 16 (updP k v ps)).d := by
  rw [← chT_cn h a]
  exact changed (ht_cn 16 ps) hk (cut_cn h) (endok_cn h a hps) hv
end K49
/-! PC: trees of pairs. -/
namespace K49
open DL
open PySem (Str)
/-- a value that may be put: 0, a whole number, a text -/
def VV (v : D) : Prop := (∃ i, v = .int i ∧ 0 ≤ i ∧ i ≤ 1152921504606846976) ∨ ∃ s : Str, v = .str s ∧ 0 < s.length ∧ s.length ≤ 60000 ∧ sOk s = true
theorem VV.vz {v : D} (h : VV v) : VZ v := by
  rcases h with ⟨i, rfl, _⟩ | ⟨s, rfl, _, _, h⟩
  · rfl
  · show opEq (.str s) (.int 0) = some (.bl false)
    have e : (D.str s).okE = true := by
      unfold D.okE
      simp [D.okS, D.dep, h]
    have e2 : opEqB (.str s) (.int 0) = some false := by
      show (if ((D.str s).okE && (D.int 0).okE) = true then some (D.eqv (.str s) (.int 0)) else none) = _
      rw [e]
      rfl
    unfold opEq
    rw [e2]
def Spot (k : Int) : Prop := 0 ≤ k ∧ k < 65536
def pd (p : Int × D) : D := .tup [.int p.1, p.2]
theorem is_spot {k : Int} (h : Spot k) : M_is_spot [.int k] = .ok (.bl true) := by
  have h1 : decide (0 ≤ k) = true := decide_eq_true h.1
  have h2 : decide (k < 65536) = true := decide_eq_true h.2
  have e1 : M_is_integer [.int k] = .ok (.bl true) := rfl
  have e2 : M_is_under [.int k, .int 65536] = .ok (.bl true) := by
    simp only [M_is_under, x_def2, b_is_under, List.cons_append, List.nil_append, List.replicate, Nat.reduceSub, x_sSq, x_sRet, x_dAnd, x_dCall, x_daC, x_daN, x_dV0, x_dVs, rb_ok, e1, x_dChain, x_dC, o_le, o_lt, h1, h2, x_ofO_some]
  simp only [M_is_spot, x_def1, b_is_spot, List.cons_append, List.nil_append, List.replicate, Nat.reduceSub, x_sSq, x_sRet, x_dCall, x_daC, x_daN, x_dV0, x_dVs, rb_ok, x_dC, e2]
theorem need_key {k : Int} (h : Spot k) : M_need_key [.int k] = .ok .non := by
  simp only [M_need_key, x_def1, b_need_key, List.cons_append, List.nil_append, List.replicate, Nat.reduceSub, x_sSq, x_sIf, x_dtNot, x_dTr, x_dCall, x_daC, x_daN, x_dV0, x_dVs, rb_ok, is_spot h, o_trB, x_ofO_some, Bool.not_true, x_sNx]
theorem is_value_int {i : Int} (h1 : 1 ≤ i) (h2 : i ≤ 1152921504606846976) : M_is_value [.int i] = .ok (.bl true) := by
  have h1 : decide (1 ≤ i) = true := decide_eq_true h1
  have h2 : decide (i ≤ 1152921504606846976) = true := decide_eq_true h2
  have e0 : fIsStr (.int i) = some (.bl false) := rfl
  have e1 : M_is_integer [.int i] = .ok (.bl true) := rfl
  have e2 : M_is_between [.int i, .int 1, .int 1152921504606846976] = .ok (.bl true) := by
    simp only [M_is_between, x_def3, b_is_between, List.cons_append, List.nil_append, List.replicate, Nat.reduceSub, x_sSq, x_sRet, x_dAnd, x_dCall, x_daC, x_daN, x_dV0, x_dVs, rb_ok, e1, x_dChain, x_dC, o_le, o_lt, h1, h2, x_ofO_some]
  simp only [M_is_value, x_def1, b_is_value, List.cons_append, List.nil_append, List.replicate, Nat.reduceSub, x_sSq, x_sIf, x_dTr, x_d1, e0, x_ofO_some, o_trB, x_sNx, x_sRet, x_dCall, x_daC, x_daN, x_dV0, x_dVs, rb_ok, x_dC, e2]
theorem is_value_str {s : Str} (h1 : 0 < s.length) (h2 : s.length ≤ 60000) : M_is_value [.str s] = .ok (.bl true) := by
  have h3 : decide ((0 : Int) < s.length) = true := decide_eq_true (by omega)
  have h4 : decide ((s.length : Int) ≤ 60000) = true := decide_eq_true (by omega)
  have e0 : fIsStr (.str s) = some (.bl true) := rfl
  have e1 : fLen (.str s) = some (.int s.length) := o_lenS (by show s.length ≤ 16777216; omega)
  simp only [M_is_value, x_def1, b_is_value, List.cons_append, List.nil_append, List.replicate, Nat.reduceSub, x_sSq, x_sIf, x_dTr, x_d1, e0, x_ofO_some, o_trB, x_sNx, x_sRet, x_dChain, x_dV0, x_dVs, rb_ok, x_dC, e1, o_lt, o_le, h3, h4]
theorem need_value {v : D} (h : VV v) : M_need_value [v] = .ok .non := by
  rcases h with ⟨i, rfl, h1, h2⟩ | ⟨s, rfl, h1, h2, _⟩
  · by_cases z : i = 0
    · subst z
      rfl
    · simp only [M_need_value, x_def1, b_need_value, List.cons_append, List.nil_append, List.replicate, Nat.reduceSub, x_sSq, x_sIf, x_dtAnd, x_dtNot, x_dTr, x_dCall, x_daC, x_daN, x_dV0, x_dVs, rb_ok, is_value_int (show 1 ≤ i by omega) h2, o_trB, x_ofO_some, Bool.not_true, Bool.false_eq_true, if_false, x_sNx]
  · simp only [M_need_value, x_def1, b_need_value, List.cons_append, List.nil_append, List.replicate, Nat.reduceSub, x_sSq, x_sIf, x_dtAnd, x_dtNot, x_dTr, x_dCall, x_daC, x_daN, x_dV0, x_dVs, rb_ok, is_value_str h1 h2, o_trB, x_ofO_some, Bool.not_true, Bool.false_eq_true, if_false, x_sNx]
/-- pairs put one after another -/
def putsP (acc : PL) (prs : PL) : PL := prs.foldl (fun a p => updP p.1 p.2 a) acc
structure Sp (ps : PL) : Prop where
  asc : ps.Pairwise fun p q => p.1 < q.1
  spot : ∀ p ∈ ps, Spot p.1
theorem spot0 {k : Int} (h : Spot k) : k / 2 ^ 16 = 0 := Int.ediv_eq_zero_of_lt h.1 h.2
theorem Sp.gd {ps : PL} (h : Sp ps) : Gd 16 ps := ⟨h.asc, fun p hp q hq => by rw [spot0 (h.spot p hp), spot0 (h.spot q hq)]⟩
theorem Sp.at {ps : PL} (h : Sp ps) {k : Int} (hk : Spot k) : At 16 k ps := fun p hp => by rw [spot0 (h.spot p hp), spot0 hk]
theorem Sp.upd {ps : PL} (h : Sp ps) {k : Int} (hk : Spot k) (v : D) : Sp (updP k v ps) := ⟨asc_updP h.asc, fun p hp => (mem_updP hp).elim (fun e => by rw [e]; exact hk) (h.spot p)⟩
theorem Sp.nil : Sp [] := ⟨List.Pairwise.nil, fun _ h => by cases h⟩
theorem Sp.puts {acc : PL} (h : Sp acc) : ∀ {prs : PL}, (∀ p ∈ prs, Spot p.1) → Sp (putsP acc prs)
  | [], _ => h
  | p :: prs, hp => by
    show Sp (putsP (updP p.1 p.2 acc) prs)
    exact (h.upd (hp p List.mem_cons_self) p.2).puts fun q hq => hp q (List.mem_cons_of_mem _ hq)
theorem change {ps : PL} {k : Int} {v : D} (h : Sp ps) (hk : Spot k) (hv : VV v) : M_changed_at [(cn 16 ps).d, .int k, v] = .ok (cn 16 (updP k v ps)).d :=
  changed_at h.gd (h.at hk) hk.1 (fun p hp => (h.spot p hp).1) hv.vz
theorem tree_loop {a : Option D} : ∀ (prs acc : PL) (x y : Option D), Sp acc → (∀ p ∈ prs, Spot p.1 ∧ VV p.2) →
    ∃ x' y', forL (gT [2, 3]) (sSq (sAs (gN 1) (dCall M_changed_at (daC (dV 1) (daC (dV 2) (daC (dV 3) daN))))) sNx) (prs.map pd) [a, some (cn 16 acc).d, x, y] = .nx [a, some (cn 16 (putsP acc prs)).d, x', y'] := by
  intro prs
  induction prs with
  | nil => intro acc x y _ _; exact ⟨x, y, rfl⟩
  | cons p prs ih =>
    intro acc x y h hp
    obtain ⟨h1, h2⟩ := hp p List.mem_cons_self
    obtain ⟨x', y', e⟩ := ih (updP p.1 p.2 acc) (some (.int p.1)) (some p.2) (h.upd h1 p.2) fun q hq => hp q (List.mem_cons_of_mem _ hq)
    refine ⟨x', y', ?_⟩
    have hs : setAll [2, 3] [.int p.1, p.2] [a, some (cn 16 acc).d, x, y] = .ok [a, some (cn 16 acc).d, some (.int p.1), some p.2] := rfl
    rw [List.map_cons]
    show forL (gT [2, 3]) _ (.tup [.int p.1, p.2] :: prs.map pd) _ = _
    rw [x_forT hs]
    simp only [x_sSq, x_sAsN, x_dCall, x_daC, x_daN, x_dV0, x_dVs, rb_ok, change h h1 h2, List.set_cons_succ, List.set_cons_zero, x_sNx]
    exact e
theorem tree_of {c : List D → D} (hc : c = .tup ∨ c = .lst) {prs : PL} (hp : ∀ p ∈ prs, Spot p.1 ∧ VV p.2) : M_tree_of [c (prs.map pd)] = .ok (cn 16 (putsP [] prs)).d := by
  obtain ⟨x', y', e⟩ := tree_loop (a := some (c (prs.map pd))) prs [] none none Sp.nil hp
  have hi : diL (dV 0) [some (c (prs.map pd)), some (cn 16 []).d, none, none] = .ok (prs.map pd) := by
    rcases hc with rfl | rfl <;> rfl
  have en : D.tup K_NONE = (cn 16 []).d := rfl
  simp only [M_tree_of, x_def1, b_tree_of, List.cons_append, List.nil_append, List.replicate, Nat.reduceSub, x_sSq, x_sAsN, x_dC, List.set_cons_succ, List.set_cons_zero, en, x_sFor hi, e, x_sRet, x_dV0, x_dVs]
theorem need_loop {a : Option D} {z : Option D} : ∀ (prs : PL) (x y : Option D), (∀ p ∈ prs, Spot p.1 ∧ VV p.2) →
    ∃ x' y', forL (gT [2, 3]) (sSq (sE (dCall M_need_key (daC (dV 2) daN))) (sSq (sE (dCall M_need_value (daC (dV 3) daN))) sNx)) (prs.map pd) [a, z, x, y] = .nx [a, z, x', y'] := by
  intro prs
  induction prs with
  | nil => intro x y _; exact ⟨x, y, rfl⟩
  | cons p prs ih =>
    intro x y hp
    obtain ⟨h1, h2⟩ := hp p List.mem_cons_self
    obtain ⟨x', y', e⟩ := ih (some (.int p.1)) (some p.2) fun q hq => hp q (List.mem_cons_of_mem _ hq)
    refine ⟨x', y', ?_⟩
    have hs : setAll [2, 3] [.int p.1, p.2] [a, z, x, y] = .ok [a, z, some (.int p.1), some p.2] := rfl
    rw [List.map_cons]
    show forL (gT [2, 3]) _ (.tup [.int p.1, p.2] :: prs.map pd) _ = _
    rw [x_forT hs]
    simp only [x_sSq, x_sE, x_dCall, x_daC, x_daN, x_dV0, x_dVs, rb_ok, need_key h1, need_value h2, x_sNx]
    exact e
theorem led_tree {prs : PL} (hl : prs.length ≤ 16777216) (hp : ∀ p ∈ prs, Spot p.1 ∧ VV p.2) : M_led_tree [.tup (prs.map pd)] = .ok (cn 16 (putsP [] prs)).d := by
  obtain ⟨x', y', e⟩ := need_loop (a := some (.tup (prs.map pd))) (z := none) prs none none hp
  have hi : diL (dV 0) [some (.tup (prs.map pd)), none, none, none] = .ok (prs.map pd) := rfl
  have e0 : fIsTup (.tup (prs.map pd)) = some (.bl true) := rfl
  have lc : dLc (diL (dV 0)) [1] (gN 1) tT (dCall M_is_tuple_of (daC (dV 1) (daC (dC (.int 2)) daN))) [some (.tup (prs.map pd)), none, none, none] = .ok (.lst ((prs.map pd).map fun _ => .bl true)) := by
    refine x_dLc hi (by rw [List.length_map]; exact hl) (lcL_map fun d hd => ?_)
    obtain ⟨p, _, rfl⟩ := List.mem_map.mp hd
    exact ⟨_, rfl, rfl, rfl⟩
  have ea : fAll (.lst ((prs.map pd).map fun _ => .bl true)) = some (.bl true) := x_all fun d hd => by
    obtain ⟨_, _, rfl⟩ := List.mem_map.mp hd
    rfl
  simp only [M_led_tree, x_def1, b_led_tree, List.cons_append, List.nil_append, List.replicate, Nat.reduceSub, x_sSq, x_sIf, x_dtOr, x_dtNot, x_dTr, x_d1, x_dV0, x_dVs, rb_ok, e0, x_ofO_some, o_trB, Bool.not_true, Bool.false_eq_true, if_false, lc, ea, x_sNx, x_sFor hi, e, x_sRet, x_dCall, x_daC, x_daN, tree_of (.inl rfl) hp]
end K49
/-! PD: the nodes of a tree. -/
namespace K49
open DL
open PySem (Str)
/-- a place as a text -/
def bc (b : Bool) : Nat := if b = true then 49 else 48
def pS (p : List Bool) : Str := ⟨(p.map bc).toArray⟩
theorem pS_snoc (p : List Bool) (b : Bool) : pS p ++ (if b = true then ("1" : Str) else ("0" : Str)) = pS (p ++ [b]) := by
  cases b
  · show (⟨((p.map bc).toArray ++ #[48])⟩ : Str) = ⟨((p ++ [false]).map bc).toArray⟩
    congr 1
    simp [bc]
  · show (⟨((p.map bc).toArray ++ #[49])⟩ : Str) = ⟨((p ++ [true]).map bc).toArray⟩
    congr 1
    simp [bc]
theorem pS_len (p : List Bool) : (pS p).length = p.length := by
  show ((p.map bc).toArray).size = p.length
  simp
theorem pS_inj {p q : List Bool} (h : pS p = pS q) : p = q := by
  have h1 : (p.map bc).toArray = (q.map bc).toArray := by injection h
  have h2 : p.map bc = q.map bc := by simpa using congrArg Array.toList h1
  have hb : ∀ a b : Bool, bc a = bc b → a = b := by decide
  revert q
  induction p with
  | nil => intro q _ _ h2; exact (List.map_eq_nil_iff.mp h2.symm).symm
  | cons a p ih =>
    intro q _ _ h2
    cases q with
    | nil => cases h2
    | cons b q =>
      rw [List.map_cons, List.map_cons] at h2
      obtain ⟨e1, e2⟩ := List.cons.inj h2
      rw [hb a b e1, ih (by show (⟨_⟩ : Str) = ⟨_⟩; rw [e2]) (by rw [e2]) e2]
def bv (b : Bool) : Int := if b = true then 1 else 0
/-- the nodes under a place, from the left, each ahead of those under it -/
def nds : Nat → List Bool → PL → List (List Bool × PL)
  | 0, p, qs => [(p, qs)]
  | n + 1, p, qs => (p, qs) :: (if 2 ≤ qs.length then nds n (p ++ [false]) (fb n 0 qs) ++ nds n (p ++ [true]) (fb n 1 qs) else [])
def nt (x : List Bool × PL) : T := cn (16 - x.1.length) x.2
def nd (x : List Bool × PL) : D := .tup [.str (pS x.1), (nt x).d]
/-- a pending part: bits left, place, pairs -/
structure Pt where
  n : Nat
  p : List Bool
  qs : PL
def Pt.ok (x : Pt) : Prop := x.p.length + x.n = 16 ∧ Gd x.n x.qs
def Pt.d (x : Pt) : D := .tup [.str (pS x.p), (cn x.n x.qs).d]
def Pt.ns (x : Pt) : List (List Bool × PL) := nds x.n x.p x.qs
theorem addS {p : List Bool} (h : p.length ≤ 16) : opAdd (.str (pS p)) (.str "0") = some (.str (pS (p ++ [false]))) ∧ opAdd (.str (pS p)) (.str "1") = some (.str (pS (p ++ [true]))) := by
  have hl := pS_len p
  constructor
  · show (if (pS p).length + 1 ≤ SL then some (D.str (pS p ++ ("0" : Str))) else none) = _
    rw [if_pos (by show (pS p).length + 1 ≤ 16777216; omega)]
    rw [← pS_snoc p false]
    rfl
  · show (if (pS p).length + 1 ≤ SL then some (D.str (pS p ++ ("1" : Str))) else none) = _
    rw [if_pos (by show (pS p).length + 1 ≤ 16777216; omega)]
    rw [← pS_snoc p true]
    rfl
def unC : DT := dTr (dV 3)
def unB : DS := sSq (sPop (gT [0, 4]) 3) (sSq (sApp 2 (dTup (daC (dV 0) (daC (dV 4) daN)))) (sSq (sIf (dB (d2 opEq (d2 opIx (dV 4) (dC (.int 0))) (dC (.str "fork"))))
  (sSq (sExt 3 (dLst (daC (dTup (daC (d2 opAdd (dV 0) (dC (.str "1"))) (daC (d2 opIx (dV 4) (dC (.int 3))) daN))) (daC (dTup (daC (d2 opAdd (dV 0) (dC (.str "0"))) (daC (d2 opIx (dV 4) (dC (.int 2))) daN))) daN)))) sNx) sNx) sNx))
theorem under_loop {b : Option D} : ∀ (m fuel : Nat) (stk : List Pt) (acc : List D) (a e : Option D), (∀ x ∈ stk, x.ok) → (stk.flatMap Pt.ns).length = m → m < fuel → acc.length + m ≤ 1000000 →
    ∃ a' e', whileN unC unB fuel [a, b, some (.lst acc), some (.lst (stk.map Pt.d).reverse), e] = .nx [a', b, some (.lst (acc ++ (stk.flatMap Pt.ns).map nd)), some (.lst []), e'] := by
  intro m
  induction m with
  | zero =>
    intro fuel stk acc a e h1 h2 h3 h4
    obtain ⟨f, rfl⟩ : ∃ f, fuel = f + 1 := ⟨fuel - 1, by omega⟩
    have es : stk = [] := by
      cases stk with
      | nil => rfl
      | cons x r =>
        rw [List.flatMap_cons, List.length_append] at h2
        have : 1 ≤ x.ns.length := by
          obtain ⟨n, p, qs⟩ := x
          cases n <;> simp [Pt.ns, nds]
        omega
    subst es
    refine ⟨a, e, ?_⟩
    unfold whileN
    simp [unC]
  | succ m ih =>
    intro fuel stk acc a e h1 h2 h3 h4
    obtain ⟨f, rfl⟩ : ∃ f, fuel = f + 1 := ⟨fuel - 1, by omega⟩
    cases stk with
    | nil => simp at h2
    | cons x r =>
      obtain ⟨hx1, hx2⟩ := h1 x List.mem_cons_self
      have hr := fun y hy => h1 y (List.mem_cons_of_mem _ hy)
      have et : unC [a, b, some (.lst acc), some (.lst ((x :: r).map Pt.d).reverse), e] = .ok true := by simp [unC]
      have ep : sPop (gT [0, 4]) 3 [a, b, some (.lst acc), some (.lst ((x :: r).map Pt.d).reverse), e] = .nx [some (.str (pS x.p)), b, some (.lst acc), some (.lst (r.map Pt.d).reverse), some (cn x.n x.qs).d] := by
        rw [x_sPop (xs := (r.map Pt.d).reverse) (d := x.d) (by rw [List.map_cons, List.reverse_cons]; rfl)]
        rfl
      have hacc : acc.length < 16777216 := by omega
      have en : D.tup [.str (pS x.p), (cn x.n x.qs).d] = nd (x.p, x.qs) := by
        show _ = D.tup [.str (pS x.p), (cn (16 - x.p.length) x.qs).d]
        have : 16 - x.p.length = x.n := by omega
        rw [this]
      by_cases hb : 2 ≤ x.qs.length
      · obtain ⟨n, p, qs⟩ := x
        simp only at hb hx1 hx2 en
        cases n with
        | zero => have := hx2.zero; omega
        | succ n =>
          have ec := cn_big (n := n) hb
          have e0 : opIx (cn (n + 1) qs).d (.int 0) = some (.str "fork") := by rw [ec]; rfl
          have e3 : opIx (cn (n + 1) qs).d (.int 3) = some (cn n (fb n 1 qs)).d := by rw [ec]; rfl
          have e2 : opIx (cn (n + 1) qs).d (.int 2) = some (cn n (fb n 0 qs)).d := by rw [ec]; rfl
          have e1 : opEq (.str "fork") (.str "fork") = some (.bl true) := rfl
          obtain ⟨a1, a2⟩ := addS (p := p) (by omega)
          have hns : Pt.ns ⟨n + 1, p, qs⟩ = (p, qs) :: (Pt.ns ⟨n, p ++ [false], fb n 0 qs⟩ ++ Pt.ns ⟨n, p ++ [true], fb n 1 qs⟩) := by
            show nds (n + 1) p qs = _
            unfold nds
            rw [if_pos hb]
            rfl
          rw [List.flatMap_cons, hns, List.length_append, List.length_cons] at h2
          have hx2' := hx2
          obtain ⟨a', e', ei⟩ := ih f (⟨n, p ++ [false], fb n 0 qs⟩ :: ⟨n, p ++ [true], fb n 1 qs⟩ :: r) (acc ++ [nd (p, qs)]) (some (.str (pS p))) (some (cn (n + 1) qs).d) (fun y hy => by
            rcases List.mem_cons.mp hy with rfl | hy
            · exact ⟨by simp only [List.length_append, List.length_singleton]; omega, hx2'.fb 0⟩
            · rcases List.mem_cons.mp hy with rfl | hy
              · exact ⟨by simp only [List.length_append, List.length_singleton]; omega, hx2'.fb 1⟩
              · exact hr y hy) (by rw [List.flatMap_cons, List.flatMap_cons]; simp only [List.length_append] at h2 ⊢; omega) (by omega) (by simp only [List.length_append, List.length_singleton]; omega)
          refine ⟨a', e', ?_⟩
          have hstk : ((r.map Pt.d).reverse ++ [D.tup [.str (pS (p ++ [true])), (cn n (fb n 1 qs)).d], D.tup [.str (pS (p ++ [false])), (cn n (fb n 0 qs)).d]]) = ((⟨n, p ++ [false], fb n 0 qs⟩ :: ⟨n, p ++ [true], fb n 1 qs⟩ :: r : List Pt).map Pt.d).reverse := by
            rw [List.map_cons, List.map_cons, List.reverse_cons, List.reverse_cons, List.append_assoc]
            rfl
          have hxl : ∀ (s : DSt), s = [some (.str (pS p)), b, some (.lst (acc ++ [nd (p, qs)])), some (.lst (r.map Pt.d).reverse), some (cn (n + 1) qs).d] → sExt 3 (dLst (daC (dTup (daC (d2 opAdd (dV 0) (dC (.str "1"))) (daC (d2 opIx (dV 4) (dC (.int 3))) daN))) (daC (dTup (daC (d2 opAdd (dV 0) (dC (.str "0"))) (daC (d2 opIx (dV 4) (dC (.int 2))) daN))) daN))) s = .nx [some (.str (pS p)), b, some (.lst (acc ++ [nd (p, qs)])), some (.lst ((⟨n, p ++ [false], fb n 0 qs⟩ :: ⟨n, p ++ [true], fb n 1 qs⟩ :: r : List Pt).map Pt.d).reverse), some (cn (n + 1) qs).d] := by
            intro s hs
            subst hs
            rw [x_sExt (xs := (r.map Pt.d).reverse) (ds := [D.tup [.str (pS (p ++ [true])), (cn n (fb n 1 qs)).d], D.tup [.str (pS (p ++ [false])), (cn n (fb n 0 qs)).d]]) rfl (by
              simp only [x_dLst, x_daC, x_daN, x_dTup, x_d2, x_dV0, x_dVs, x_dC, rb_ok, a1, a2, x_ofO_some, e2, e3, List.length_cons, List.length_nil, SL, Nat.reduceLeDiff, Nat.reduceAdd, if_true]) (by
              have hrl : r.length ≤ (r.flatMap Pt.ns).length := by
                clear hstk ei ih h1 h2 h3 h4 hr et ep
                induction r with
                | nil => exact Nat.le_refl _
                | cons y r ihr =>
                  rw [List.flatMap_cons, List.length_append, List.length_cons]
                  have : 1 ≤ y.ns.length := by
                    obtain ⟨n', p', qs'⟩ := y
                    cases n' <;> simp [Pt.ns, nds]
                  omega
              show _ ≤ 16777216
              simp only [List.length_reverse, List.length_map, List.length_cons, List.length_nil]
              omega), hstk]
            rfl
          unfold whileN
          rw [et]
          simp only [unB, x_sSq, ep, x_sApp, x_ownL0, x_ownLs, x_dTup, x_daC, x_daN, x_dV0, x_dVs, rb_ok, List.length_cons, List.length_nil, SL, Nat.reduceLeDiff, Nat.reduceAdd, if_true, hacc, List.set_cons_succ, List.set_cons_zero, x_sIf, x_dB, x_d2, x_dC, e0, e1, x_ofO_some, x_boolR, en, hxl _ rfl, x_sNx]
          have fin := ei
          simp only [unB, unC] at fin
          rw [List.flatMap_cons, hns]
          rw [List.flatMap_cons, List.flatMap_cons] at fin
          simp only [List.map_append, List.map_cons, List.append_assoc, List.cons_append, List.nil_append] at fin ⊢
          exact fin
      · have hns : x.ns = [(x.p, x.qs)] := by
          obtain ⟨n, p, qs⟩ := x
          cases n with
          | zero => rfl
          | succ n =>
            show nds (n + 1) p qs = _
            unfold nds
            rw [if_neg hb]
        have hf : isFork (cn x.n x.qs) = false := by
          obtain ⟨n, p, qs⟩ := x
          match qs, hb with
          | [], _ => simp only [cn_nil]; rfl
          | [q], _ => simp only [cn_one]; rfl
          | q :: q' :: r', hb => simp at hb
        rw [List.flatMap_cons, hns, List.length_append, List.length_singleton] at h2
        obtain ⟨a', e', ei⟩ := ih f r (acc ++ [nd (x.p, x.qs)]) (some (.str (pS x.p))) (some (cn x.n x.qs).d) hr (by omega) (by omega) (by simp only [List.length_append, List.length_singleton]; omega)
        refine ⟨a', e', ?_⟩
        unfold whileN
        rw [et]
        simp only [unB, x_sSq, ep, x_sApp, x_ownL0, x_ownLs, x_dTup, x_daC, x_daN, x_dV0, x_dVs, rb_ok, List.length_cons, List.length_nil, SL, Nat.reduceLeDiff, Nat.reduceAdd, if_true, hacc, List.set_cons_succ, List.set_cons_zero, x_sIf, x_dB, x_d2, x_dC, ix_tag, eq_fork, hf, x_ofO_some, x_boolR, en, x_sNx]
        have fin := ei
        simp only [unB, unC] at fin
        rw [List.flatMap_cons, hns]
        simp only [List.map_append, List.map_cons, List.map_nil, List.append_assoc, List.cons_append, List.nil_append] at fin ⊢
        exact fin
theorem nds_len : ∀ (n : Nat) (p : List Bool) (qs : PL), (nds n p qs).length ≤ 2 * n * qs.length + 1
  | 0, p, qs => by simp [nds]
  | n + 1, p, qs => by
    unfold nds
    split
    · rename_i h
      have h1 := nds_len n (p ++ [false]) (fb n 0 qs)
      have h2 := nds_len n (p ++ [true]) (fb n 1 qs)
      have h3 := fb_len n qs
      rw [List.length_cons, List.length_append]
      have e : 2 * n * (fb n 0 qs).length + 2 * n * (fb n 1 qs).length = 2 * n * qs.length := by rw [← Nat.mul_add, h3]
      have e2 : 2 * (n + 1) * qs.length = 2 * n * qs.length + 2 * qs.length := by rw [Nat.mul_add, Nat.add_mul]
      omega
    · rw [List.length_cons, List.length_nil]; omega
theorem nodes_under {p : List Bool} {n : Nat} {qs : PL} (hp : p.length + n = 16) (h : Gd n qs) (hl : qs.length ≤ 1000) : M_nodes_under [.str (pS p), (cn n qs).d] = .ok (.lst ((nds n p qs).map nd)) := by
  have hn := nds_len n p qs
  have hm : 2 * n * qs.length ≤ 32000 := by
    have : n ≤ 16 := by omega
    calc 2 * n * qs.length ≤ 32 * 1000 := Nat.mul_le_mul (by omega) hl
      _ = 32000 := rfl
  obtain ⟨a', e', e⟩ := under_loop (b := some (cn n qs).d) (nds n p qs).length FU [⟨n, p, qs⟩] [] (some (.str (pS p))) none (fun y hy => by rw [List.mem_singleton.mp hy]; exact ⟨hp, h⟩) (by simp [Pt.ns]) (by show _ < 1048576; omega) (by simp; omega)
  have e : sWh unC unB [some (.str (pS p)), some (cn n qs).d, some (.lst []), some (.lst [.tup [.str (pS p), (cn n qs).d]]), none] = .nx [a', some (cn n qs).d, some (.lst ((nds n p qs).map nd)), some (.lst []), e'] := by
    have := e
    simp only [List.flatMap_cons, List.flatMap_nil, List.append_nil, List.nil_append, List.map_cons, List.map_nil, List.reverse_cons, List.reverse_nil] at this
    exact this
  have eb : b_nodes_under = sSq (sAs (gN 2) (dLst daN)) (sSq (sAs (gN 3) (dLst (daC (dTup (daC (dV 0) (daC (dV 1) daN))) daN))) (sSq (sWh unC unB) (sSq (sRet (dV 2)) sNx))) := rfl
  simp only [M_nodes_under, x_def2, eb, List.cons_append, List.nil_append, List.replicate, Nat.reduceSub, x_sSq, x_sAsN, x_dLst, x_daN, x_daC, x_dTup, x_dV0, x_dVs, rb_ok, List.length_cons, List.length_nil, SL, Nat.reduceLeDiff, Nat.reduceAdd, Nat.zero_le, if_true, List.set_cons_succ, List.set_cons_zero, e, x_sRet]
theorem nodes_of {ps : PL} (h : Gd 16 ps) (hl : ps.length ≤ 1000) : M_nodes_of [(cn 16 ps).d] = .ok (.lst ((nds 16 [] ps).map nd)) := by
  have := nodes_under (p := []) (n := 16) rfl h hl
  have e : D.str "" = .str (pS []) := rfl
  simp only [M_nodes_of, x_def1, b_nodes_of, List.cons_append, List.nil_append, List.replicate, Nat.reduceSub, x_sSq, x_sRet, x_dCall, x_daC, x_daN, x_dV0, x_dVs, rb_ok, x_dC, e, this]
end K49
/-! PF: a map's tree is a tree. -/
namespace K49
open DL
open PySem (Str)
theorem mem_enumD : ∀ {l : List D} {n : Nat} {d : D}, d ∈ enumD n l → ∃ i x, l[i]? = some x ∧ d = .tup [.int ((n + i : Nat) : Int), x]
  | [], _, _, h => by cases h
  | x :: l, n, d, h => by
    rcases List.mem_cons.mp h with e | h
    · exact ⟨0, x, rfl, e⟩
    · obtain ⟨i, y, h1, h2⟩ := mem_enumD h
      refine ⟨i + 1, y, by simpa using h1, ?_⟩
      rw [h2]
      congr 4
      omega
theorem enumD_len : ∀ (l : List D) (n : Nat), (enumD n l).length = l.length
  | [], _ => rfl
  | x :: l, n => by show (enumD (n + 1) l).length + 1 = _; rw [enumD_len l]; rfl
/-- the key lies under the place -/
def Bel (p : List Bool) (k : Int) : Prop := ∀ i b, p[i]? = some b → bi k (15 - i) = bv b
theorem is_below {p : List Bool} {k : Int} (hk : 0 ≤ k) (hp : p.length ≤ 16) (h : Bel p k) : M_is_below [.str (pS p), .int k] = .ok (.bl true) := by
  have hit : diEn (diStr (dV 0)) [some (.str (pS p)), some (.int k), none, none] = .ok (enumD 0 ((p.map bc).map fun c => .str ⟨#[c]⟩)) := by
    show (Res.ok (enumD 0 ((p.map bc).toArray.toList.map fun c => D.str ⟨#[c]⟩)) : Res (List D)) = _
    rfl
  have lc : dLc (diEn (diStr (dV 0))) [2, 3] (gT [2, 3]) tT (d2 opEq (d1 fStr (dCall M_bit_of (daC (dV 1) (daC (dV 2) daN)))) (dV 3)) [some (.str (pS p)), some (.int k), none, none] = .ok (.lst ((enumD 0 ((p.map bc).map fun c => .str ⟨#[c]⟩)).map fun _ => .bl true)) := by
    refine x_dLc hit (by rw [enumD_len, List.length_map, List.length_map]; show _ ≤ 16777216; omega) (lcL_map fun d hd => ?_)
    obtain ⟨i, x, h1, rfl⟩ := mem_enumD hd
    rw [List.map_map, List.getElem?_map] at h1
    cases hb : p[i]? with
    | none => rw [hb] at h1; cases h1
    | some b =>
      rw [hb] at h1
      cases h1
      have hi := (List.getElem?_eq_some_iff.mp hb).1
      refine ⟨_, rfl, rfl, ?_⟩
      have e1 : M_bit_of [.int k, .int ((0 + i : Nat) : Int)] = .ok (.int (bv b)) := by
        rw [Nat.zero_add, bit_of hk (by omega), h i b hb]
      have e2 : ∃ t, fStr (.int (bv b)) = some t ∧ opEq t (.str ⟨#[bc b]⟩) = some (.bl true) := by
        cases b
        · exact ⟨_, rfl, rfl⟩
        · exact ⟨_, rfl, rfl⟩
      obtain ⟨t, e2, e3⟩ := e2
      simp only [dwipe, List.set_cons_succ, List.set_cons_zero, x_d2, x_d1, x_dCall, x_daC, x_daN, x_dV0, x_dVs, rb_ok, e1, e2, x_ofO_some, Function.comp]
      show ofO (opEq t (.str ⟨#[bc b]⟩)) = _
      rw [e3]
      rfl
  have ea : fAll (.lst ((enumD 0 ((p.map bc).map fun c => .str ⟨#[c]⟩)).map fun _ => .bl true)) = some (.bl true) := x_all fun d hd => by
    obtain ⟨_, _, rfl⟩ := List.mem_map.mp hd
    rfl
  simp only [M_is_below, x_def2, b_is_below, List.cons_append, List.nil_append, List.replicate, Nat.reduceSub, x_sSq, x_sRet, x_d1, lc, rb_ok, ea, x_ofO_some]
/-- a value in a leaf -/
def LV (v : D) : Prop := (∃ i, v = .int i ∧ 1 ≤ i ∧ i ≤ 1152921504606846976) ∨ ∃ s : Str, v = .str s ∧ 0 < s.length ∧ s.length ≤ 60000 ∧ sOk s = true
theorem LV.vv {v : D} (h : LV v) : VV v := by
  rcases h with ⟨i, e, h1, h2⟩ | h
  · exact .inl ⟨i, e, by omega, h2⟩
  · exact .inr h
theorem LV.is {v : D} (h : LV v) : M_is_value [v] = .ok (.bl true) := by
  rcases h with ⟨i, rfl, h1, h2⟩ | ⟨s, rfl, h1, h2, _⟩
  · exact is_value_int h1 h2
  · exact is_value_str h1 h2
theorem is_node_non {p : List Bool} : M_is_node [.str (pS p), T.non.d] = .ok (.bl true) := rfl
theorem is_node_leaf {p : List Bool} {k : Int} {v : D} (hp : p.length ≤ 16) (hk : Spot k) (hv : LV v) (h : Bel p k) : M_is_node [.str (pS p), (T.leaf k v).d] = .ok (.bl true) := by
  have e0 : fIsTup (T.leaf k v).d = some (.bl true) := rfl
  have e1 : fLen (T.leaf k v).d = some (.int 3) := rfl
  have e2 : opIx (T.leaf k v).d (.int 0) = some (.str "leaf") := rfl
  have e3 : fIsStr (.str "leaf") = some (.bl true) := rfl
  have e4 : opEq (.str "leaf") (.str "none") = some (.bl false) := rfl
  have e5 : opEq (.str "leaf") (.str "leaf") = some (.bl true) := rfl
  have e6 : opIx (T.leaf k v).d (.int 1) = some (.int k) := rfl
  have e7 : opIx (T.leaf k v).d (.int 2) = some v := rfl
  have e8 : ((3 : Int) == 0) = false := rfl
  have e9 : ((3 : Int) == 3) = true := rfl
  simp only [M_is_node, x_def2, b_is_node, List.cons_append, List.nil_append, List.replicate, Nat.reduceSub, x_sSq, x_sIf, x_dtOr, x_dtNot, x_dTr, x_d1, x_dV0, x_dVs, rb_ok, e0, e1, e2, e3, e4, e5, e6, e7, e8, e9, x_ofO_some, o_trB, Bool.not_true, Bool.false_eq_true, if_false, x_dB, x_d2, x_dC, o_eq, x_boolR, x_sNx, x_sRet, x_dAnd, x_dCall, x_daC, x_daN, is_spot hk, hv.is, is_below hk.1 hp h]
theorem is_node_fork {p : List Bool} {m : Int} {l r : T} (hp : p.length < 16) (hm : 0 ≤ m) : M_is_node [.str (pS p), (T.fork m l r).d] = .ok (.bl true) := by
  have e0 : fIsTup (T.fork m l r).d = some (.bl true) := rfl
  have e1 : fLen (T.fork m l r).d = some (.int 4) := rfl
  have e2 : opIx (T.fork m l r).d (.int 0) = some (.str "fork") := rfl
  have e3 : fIsStr (.str "fork") = some (.bl true) := rfl
  have e4 : opEq (.str "fork") (.str "none") = some (.bl false) := rfl
  have e5 : opEq (.str "fork") (.str "leaf") = some (.bl false) := rfl
  have e5a : opEq (.str "fork") (.str "shut") = some (.bl false) := rfl
  have e5b : opEq (.str "fork") (.str "cut") = some (.bl false) := rfl
  have e5c : opEq (.str "fork") (.str "fork") = some (.bl true) := rfl
  have e6 : opIx (T.fork m l r).d (.int 1) = some (.int m) := rfl
  have e8 : ((4 : Int) == 0) = false := rfl
  have e9 : ((4 : Int) == 4) = true := rfl
  have e10 : M_is_number [.int m] = .ok (.bl true) := by
    have z : decide (0 ≤ m) = true := decide_eq_true hm
    have z1 : M_is_integer [.int m] = .ok (.bl true) := rfl
    simp only [M_is_number, x_def1, b_is_number, List.cons_append, List.nil_append, List.replicate, Nat.reduceSub, x_sSq, x_sRet, x_dAnd, x_dCall, x_daC, x_daN, x_dV0, x_dVs, rb_ok, z1, x_d2, x_dC, o_ge, z, x_ofO_some]
  have e11 : fLen (.str (pS p)) = some (.int (p.length : Int)) := by rw [o_lenS (by rw [pS_len]; show _ ≤ 16777216; omega), pS_len]
  have e12 : decide ((p.length : Int) < 16) = true := decide_eq_true (by omega)
  simp only [M_is_node, x_def2, b_is_node, List.cons_append, List.nil_append, List.replicate, Nat.reduceSub, x_sSq, x_sIf, x_dtOr, x_dtNot, x_dTr, x_d1, x_dV0, x_dVs, rb_ok, e0, e1, e2, e3, e4, e5, e5a, e5b, e5c, e6, e8, e9, e11, x_ofO_some, o_trB, Bool.not_true, Bool.false_eq_true, if_false, x_dB, x_d2, x_dC, o_eq, o_lt, e12, x_boolR, x_sNx, x_sRet, x_dAnd, x_dCall, x_daC, x_daN, e10]
theorem is_fork_right {n : Nat} {qs : PL} (h : Gd (n + 1) qs) (hb : 2 ≤ qs.length) : M_is_fork_right [(cn (n + 1) qs).d] = .ok (.bl true) := by
  rw [cn_big hb]
  have hl := fb_len n qs
  have e6 : opIx (T.fork qs.length (cn n (fb n 0 qs)) (cn n (fb n 1 qs))).d (.int 1) = some (.int qs.length) := rfl
  have e7 : opIx (T.fork qs.length (cn n (fb n 0 qs)) (cn n (fb n 1 qs))).d (.int 2) = some (cn n (fb n 0 qs)).d := rfl
  have e8 : opIx (T.fork qs.length (cn n (fb n 0 qs)) (cn n (fb n 1 qs))).d (.int 3) = some (cn n (fb n 1 qs)).d := rfl
  have z : decide ((2 : Int) ≤ qs.length) = true := decide_eq_true (by omega)
  have z2 : ((qs.length : Int) == ((fb n 0 qs).length : Int) + ((fb n 1 qs).length : Int)) = true := by
    rw [beq_iff_eq]
    omega
  simp only [M_is_fork_right, x_def1, b_is_fork_right, List.cons_append, List.nil_append, List.replicate, Nat.reduceSub, x_sSq, x_sRet, x_dAnd, x_d2, x_dC, x_dV0, x_dVs, rb_ok, e6, e7, e8, x_ofO_some, o_ge, z, x_dCall, x_daC, x_daN, many_in, many_cn (h.fb 0), many_cn (h.fb 1), o_add, o_eq, z2]
end K49
/-! PG: a map's tree is a tree (the loop). -/
namespace K49
open DL
open PySem (Str)
def Pt.ok2 (x : Pt) : Prop := x.ok ∧ ∀ q ∈ x.qs, Spot q.1 ∧ LV q.2 ∧ Bel x.p q.1
theorem Bel.snoc {p : List Bool} {k : Int} {b : Bool} {n : Nat} (h : Bel p k) (hn : p.length + (n + 1) = 16) (hb : bi k n = bv b) : Bel (p ++ [b]) k := fun i c hc => by
  by_cases hi : i < p.length
  · rw [List.getElem?_append_left hi] at hc
    exact h i c hc
  · rw [List.getElem?_append_right (by omega)] at hc
    have hi2 : i - p.length < 1 := (List.getElem?_eq_some_iff.mp hc).1
    have e : i = p.length := by omega
    subst e
    simp at hc
    subst hc
    have e2 : 15 - p.length = n := by omega
    rw [e2]
    exact hb
theorem Pt.ok2.kid {n : Nat} {p : List Bool} {qs : PL} (h : Pt.ok2 ⟨n + 1, p, qs⟩) (b : Bool) : Pt.ok2 ⟨n, p ++ [b], fb n (bv b) qs⟩ := by
  obtain ⟨⟨h1, h2⟩, h3⟩ := h
  simp only at h1 h2 h3
  refine ⟨⟨by simp only [List.length_append, List.length_singleton]; omega, h2.fb _⟩, fun q hq => ?_⟩
  obtain ⟨m1, m2⟩ := mem_fb.mp hq
  obtain ⟨s1, s2, s3⟩ := h3 q m1
  exact ⟨s1, s2, s3.snoc (by omega) m2⟩
theorem is_node_cn {x : Pt} (h : x.ok2) : M_is_node [.str (pS x.p), (cn x.n x.qs).d] = .ok (.bl true) := by
  obtain ⟨n, p, qs⟩ := x
  obtain ⟨⟨h1, h2⟩, h3⟩ := h
  simp only at h1 h2 h3 ⊢
  match qs, h2, h3 with
  | [], _, _ => rw [cn_nil]; exact is_node_non
  | [q], _, h3 =>
    obtain ⟨s1, s2, s3⟩ := h3 q (by simp)
    rw [cn_one]
    exact is_node_leaf (by omega) s1 s2 s3
  | q :: q' :: r, h2, _ =>
    cases n with
    | zero => have := h2.zero; simp at this
    | succ n =>
      rw [cn_big (by simp)]
      exact is_node_fork (by omega) (Int.natCast_nonneg _)
def paC : DT := dTr (dV 2)
def paB : DS := sSq (sPop (gT [0, 4]) 2) (sSq (sIf (dtNot (dTr (dCall M_is_node (daC (dV 0) (daC (dV 4) daN))))) (sSq (sRet (dC (.bl false))) sNx) sNx)
  (sSq (sIf (dB (d2 opEq (d2 opIx (dV 4) (dC (.int 0))) (dC (.str "fork")))) (sSq (sApp 3 (dV 4))
  (sSq (sExt 2 (dLst (daC (dTup (daC (d2 opAdd (dV 0) (dC (.str "1"))) (daC (d2 opIx (dV 4) (dC (.int 3))) daN))) (daC (dTup (daC (d2 opAdd (dV 0) (dC (.str "0"))) (daC (d2 opIx (dV 4) (dC (.int 2))) daN))) daN)))) sNx)) sNx) sNx))
theorem stk_len (r : List Pt) : r.length ≤ (r.flatMap Pt.ns).length := by
  induction r with
  | nil => exact Nat.le_refl _
  | cons y r ih =>
    rw [List.flatMap_cons, List.length_append, List.length_cons]
    have : 1 ≤ y.ns.length := by
      obtain ⟨n', p', qs'⟩ := y
      cases n' <;> simp [Pt.ns, nds]
    omega
theorem part_loop {b : Option D} : ∀ (m fuel : Nat) (stk : List Pt) (acc : List D) (a e : Option D), (∀ x ∈ stk, x.ok2) → (stk.flatMap Pt.ns).length = m → m < fuel → acc.length + m ≤ 1000000 → (∀ d ∈ acc, M_is_fork_right [d] = .ok (.bl true)) →
    ∃ a' e' fk, whileN paC paB fuel [a, b, some (.lst (stk.map Pt.d).reverse), some (.lst acc), e] = .nx [a', b, some (.lst []), some (.lst fk), e'] ∧ (∀ d ∈ fk, M_is_fork_right [d] = .ok (.bl true)) ∧ fk.length ≤ 1000000 := by
  intro m
  induction m with
  | zero =>
    intro fuel stk acc a e h1 h2 h3 h4 h5
    obtain ⟨f, rfl⟩ : ∃ f, fuel = f + 1 := ⟨fuel - 1, by omega⟩
    have es : stk = [] := by
      have := stk_len stk
      exact List.eq_nil_of_length_eq_zero (by omega)
    subst es
    refine ⟨a, e, acc, ?_, h5, by omega⟩
    unfold whileN
    simp [paC]
  | succ m ih =>
    intro fuel stk acc a e h1 h2 h3 h4 h5
    obtain ⟨f, rfl⟩ : ∃ f, fuel = f + 1 := ⟨fuel - 1, by omega⟩
    cases stk with
    | nil => simp at h2
    | cons x r =>
      have hx := h1 x List.mem_cons_self
      have hr := fun y hy => h1 y (List.mem_cons_of_mem _ hy)
      have et : paC [a, b, some (.lst ((x :: r).map Pt.d).reverse), some (.lst acc), e] = .ok true := by simp [paC]
      have ep : sPop (gT [0, 4]) 2 [a, b, some (.lst ((x :: r).map Pt.d).reverse), some (.lst acc), e] = .nx [some (.str (pS x.p)), b, some (.lst (r.map Pt.d).reverse), some (.lst acc), some (cn x.n x.qs).d] := by
        rw [x_sPop (xs := (r.map Pt.d).reverse) (d := x.d) (by rw [List.map_cons, List.reverse_cons]; rfl)]
        rfl
      have hacc : acc.length < 16777216 := by omega
      have en := is_node_cn hx
      by_cases hb : 2 ≤ x.qs.length
      · obtain ⟨n, p, qs⟩ := x
        obtain ⟨⟨hx1, hx2⟩, hx3⟩ := id hx
        simp only at hb hx1 hx2 hx3 en
        cases n with
        | zero => have := hx2.zero; omega
        | succ n =>
          have ec := cn_big (n := n) hb
          have e0 : opIx (cn (n + 1) qs).d (.int 0) = some (.str "fork") := by rw [ec]; rfl
          have e3 : opIx (cn (n + 1) qs).d (.int 3) = some (cn n (fb n 1 qs)).d := by rw [ec]; rfl
          have e2 : opIx (cn (n + 1) qs).d (.int 2) = some (cn n (fb n 0 qs)).d := by rw [ec]; rfl
          have e1 : opEq (.str "fork") (.str "fork") = some (.bl true) := rfl
          obtain ⟨a1, a2⟩ := addS (p := p) (by omega)
          have hns : Pt.ns ⟨n + 1, p, qs⟩ = (p, qs) :: (Pt.ns ⟨n, p ++ [false], fb n 0 qs⟩ ++ Pt.ns ⟨n, p ++ [true], fb n 1 qs⟩) := by
            show nds (n + 1) p qs = _
            unfold nds
            rw [if_pos hb]
            rfl
          rw [List.flatMap_cons, hns, List.length_append, List.length_cons] at h2
          obtain ⟨a', e', fk, ei, e5, e6⟩ := ih f (⟨n, p ++ [false], fb n 0 qs⟩ :: ⟨n, p ++ [true], fb n 1 qs⟩ :: r) (acc ++ [(cn (n + 1) qs).d]) (some (.str (pS p))) (some (cn (n + 1) qs).d) (fun y hy => by
            rcases List.mem_cons.mp hy with rfl | hy
            · exact hx.kid false
            · rcases List.mem_cons.mp hy with rfl | hy
              · exact hx.kid true
              · exact hr y hy) (by rw [List.flatMap_cons, List.flatMap_cons]; simp only [List.length_append] at h2 ⊢; omega) (by omega) (by simp only [List.length_append, List.length_singleton]; omega) (fun d hd => by
                rcases List.mem_append.mp hd with hd | hd
                · exact h5 d hd
                · rw [List.mem_singleton.mp hd]
                  exact is_fork_right hx2 hb)
          refine ⟨a', e', fk, ?_, e5, e6⟩
          have hstk : ((r.map Pt.d).reverse ++ [D.tup [.str (pS (p ++ [true])), (cn n (fb n 1 qs)).d], D.tup [.str (pS (p ++ [false])), (cn n (fb n 0 qs)).d]]) = ((⟨n, p ++ [false], fb n 0 qs⟩ :: ⟨n, p ++ [true], fb n 1 qs⟩ :: r : List Pt).map Pt.d).reverse := by
            rw [List.map_cons, List.map_cons, List.reverse_cons, List.reverse_cons, List.append_assoc]
            rfl
          have hxl : ∀ (s : DSt), s = [some (.str (pS p)), b, some (.lst (r.map Pt.d).reverse), some (.lst (acc ++ [(cn (n + 1) qs).d])), some (cn (n + 1) qs).d] → sExt 2 (dLst (daC (dTup (daC (d2 opAdd (dV 0) (dC (.str "1"))) (daC (d2 opIx (dV 4) (dC (.int 3))) daN))) (daC (dTup (daC (d2 opAdd (dV 0) (dC (.str "0"))) (daC (d2 opIx (dV 4) (dC (.int 2))) daN))) daN))) s = .nx [some (.str (pS p)), b, some (.lst ((⟨n, p ++ [false], fb n 0 qs⟩ :: ⟨n, p ++ [true], fb n 1 qs⟩ :: r : List Pt).map Pt.d).reverse), some (.lst (acc ++ [(cn (n + 1) qs).d])), some (cn (n + 1) qs).d] := by
            intro s hs
            subst hs
            rw [x_sExt (xs := (r.map Pt.d).reverse) (ds := [D.tup [.str (pS (p ++ [true])), (cn n (fb n 1 qs)).d], D.tup [.str (pS (p ++ [false])), (cn n (fb n 0 qs)).d]]) rfl (by
              simp only [x_dLst, x_daC, x_daN, x_dTup, x_d2, x_dV0, x_dVs, x_dC, rb_ok, a1, a2, x_ofO_some, e2, e3, List.length_cons, List.length_nil, SL, Nat.reduceLeDiff, Nat.reduceAdd, if_true]) (by
              have hrl := stk_len r
              show _ ≤ 16777216
              simp only [List.length_reverse, List.length_map, List.length_cons, List.length_nil]
              simp only [List.length_append] at h2
              omega), hstk]
            rfl
          unfold whileN
          rw [et]
          simp only [paB, x_sSq, ep, x_dtNot, x_dTr, x_dCall, en, o_trB, Bool.not_true, x_sApp, x_ownL0, x_ownLs, x_dTup, x_daC, x_daN, x_dV0, x_dVs, rb_ok, List.length_cons, List.length_nil, SL, Nat.reduceLeDiff, Nat.reduceAdd, if_true, hacc, List.set_cons_succ, List.set_cons_zero, x_sIf, x_dB, x_d2, x_dC, e0, e1, x_ofO_some, x_boolR, hxl _ rfl, x_sNx]
          exact ei
      · have hns : x.ns = [(x.p, x.qs)] := by
          obtain ⟨n, p, qs⟩ := x
          cases n with
          | zero => rfl
          | succ n =>
            show nds (n + 1) p qs = _
            unfold nds
            rw [if_neg hb]
        have hf : isFork (cn x.n x.qs) = false := by
          obtain ⟨n, p, qs⟩ := x
          match qs, hb with
          | [], _ => simp only [cn_nil]; rfl
          | [q], _ => simp only [cn_one]; rfl
          | q :: q' :: r', hb => simp at hb
        rw [List.flatMap_cons, hns, List.length_append, List.length_singleton] at h2
        obtain ⟨a', e', fk, ei, e5, e6⟩ := ih f r acc (some (.str (pS x.p))) (some (cn x.n x.qs).d) hr (by omega) (by omega) (by omega) h5
        refine ⟨a', e', fk, ?_, e5, e6⟩
        unfold whileN
        rw [et]
        simp only [paB, x_sSq, ep, x_dtNot, x_dTr, x_dCall, en, o_trB, Bool.not_true, x_daC, x_daN, x_dV0, x_dVs, rb_ok, List.set_cons_succ, List.set_cons_zero, x_sIf, x_dB, x_d2, x_dC, ix_tag, eq_fork, hf, x_ofO_some, x_boolR, x_sNx]
        exact ei
/-- a map as it is kept -/
structure Mp (ps : PL) : Prop where
  sp : Sp ps
  lv : ∀ p ∈ ps, LV p.2
  len : ps.length ≤ 1000
theorem Mp.pt {ps : PL} (h : Mp ps) : Pt.ok2 ⟨16, [], ps⟩ := ⟨⟨rfl, h.sp.gd⟩, fun q hq => ⟨h.sp.spot q hq, h.lv q hq, fun i b hb => by simp at hb⟩⟩
theorem is_tree {ps : PL} (h : Mp ps) : M_is_tree [(cn 16 ps).d] = .ok (.bl true) := by
  have hn := nds_len 16 [] ps
  have hl := h.len
  obtain ⟨a', e', fk, e, e5, e6⟩ := part_loop (b := some (cn 16 ps).d) (nds 16 [] ps).length FU [⟨16, [], ps⟩] [] (some (.str "")) none (fun y hy => by rw [List.mem_singleton.mp hy]; exact h.pt) (by simp [Pt.ns]) (by show _ < 1048576; omega) (by simp; omega) (fun d hd => by cases hd)
  have e : sWh paC paB [some (.str ""), some (cn 16 ps).d, some (.lst [.tup [.str "", (cn 16 ps).d]]), some (.lst []), none] = .nx [a', some (cn 16 ps).d, some (.lst []), some (.lst fk), e'] := e
  have hi : diL (dV 3) [a', some (cn 16 ps).d, some (.lst []), some (.lst fk), e'] = .ok fk := rfl
  have lc : dLc (diL (dV 3)) [4] (gN 4) tT (dCall M_is_fork_right (daC (dV 4) daN)) [a', some (cn 16 ps).d, some (.lst []), some (.lst fk), e'] = .ok (.lst (fk.map fun _ => .bl true)) := by
    refine x_dLc hi (by show _ ≤ 16777216; omega) (lcL_map fun d hd => ⟨_, rfl, rfl, ?_⟩)
    exact e5 d hd
  have ea : fAll (.lst (fk.map fun _ => .bl true)) = some (.bl true) := x_all fun d hd => by
    obtain ⟨_, _, rfl⟩ := List.mem_map.mp hd
    rfl
  have eb : b_is_part = sSq (sAs (gN 2) (dLst (daC (dTup (daC (dV 0) (daC (dV 1) daN))) daN))) (sSq (sAs (gN 3) (dLst daN)) (sSq (sWh paC paB) (sSq (sRet (d1 fAll (dLc (diL (dV 3)) [4] (gN 4) tT (dCall M_is_fork_right (daC (dV 4) daN))))) sNx))) := rfl
  have ep : M_is_part [.str "", (cn 16 ps).d] = .ok (.bl true) := by
    simp only [M_is_part, x_def2, eb, List.cons_append, List.nil_append, List.replicate, Nat.reduceSub, x_sSq, x_sAsN, x_dLst, x_daN, x_daC, x_dTup, x_dV0, x_dVs, rb_ok, List.length_cons, List.length_nil, SL, Nat.reduceLeDiff, Nat.reduceAdd, Nat.zero_le, if_true, List.set_cons_succ, List.set_cons_zero, e, x_sRet, x_d1, lc, ea, x_ofO_some]
  simp only [M_is_tree, x_def1, b_is_tree, List.cons_append, List.nil_append, List.replicate, Nat.reduceSub, x_sSq, x_sRet, x_dCall, x_daC, x_daN, x_dV0, x_dVs, rb_ok, x_dC, ep]
theorem need_tree {ps : PL} (h : Mp ps) : M_need_tree [(cn 16 ps).d] = .ok .non := by
  simp only [M_need_tree, x_def1, b_need_tree, List.cons_append, List.nil_append, List.replicate, Nat.reduceSub, x_sSq, x_sIf, x_dtNot, x_dTr, x_dCall, x_daC, x_daN, x_dV0, x_dVs, rb_ok, is_tree h, o_trB, x_ofO_some, Bool.not_true, x_sNx]
end K49
/-! PH: items, get, put. -/
namespace K49
open DL
open PySem (Str)
theorem cn_cases (n : Nat) (qs : PL) : cn n qs = .non ∨ (∃ q, qs = [q] ∧ cn n qs = .leaf q.1 q.2) ∨ ∃ m l r, cn n qs = .fork m l r := by
  match n, qs with
  | n, [] => exact .inl (cn_nil n)
  | n, [q] => exact .inr (.inl ⟨q, rfl, cn_one n q⟩)
  | 0, q :: q' :: r => exact .inl rfl
  | n + 1, q :: q' :: r => exact .inr (.inr ⟨_, _, _, cn_big (by simp)⟩)
def leafs (x : List Bool × PL) : List D := match nt x with
  | .leaf k v => [pd (k, v)]
  | _ => []
theorem nds_leafs : ∀ (n : Nat) (p : List Bool) (qs : PL), p.length + n = 16 → Gd n qs → (nds n p qs).flatMap leafs = qs.map pd
  | 0, p, qs, hp, h => by
    have := h.zero
    have hn : 16 - p.length = 0 := by omega
    match qs, h with
    | [], _ => simp [nds, leafs, nt, hn, cn]
    | [q], _ => simp [nds, leafs, nt, hn, cn]
    | q :: q' :: r, h => have := h.zero; simp at this
  | n + 1, p, qs, hp, h => by
    have hn : 16 - p.length = n + 1 := by omega
    unfold nds
    by_cases hb : 2 ≤ qs.length
    · rw [if_pos hb, List.flatMap_cons, List.flatMap_append, nds_leafs n _ _ (by simp only [List.length_append, List.length_singleton]; omega) (h.fb 0), nds_leafs n _ _ (by simp only [List.length_append, List.length_singleton]; omega) (h.fb 1), ← List.map_append, fb_app h]
      have : leafs (p, qs) = [] := by
        unfold leafs nt
        simp only [hn]
        rw [cn_big hb]
      rw [this, List.nil_append]
    · rw [if_neg hb]
      match qs, hb with
      | [], _ => simp [leafs, nt, hn, cn_nil]
      | [q], _ => simp [leafs, nt, hn, cn_one]
      | q :: q' :: r, hb => simp at hb
theorem eq_leaf (t : T) : opEq (tag t) (.str "leaf") = some (.bl (match t with | .leaf _ _ => true | _ => false)) := by cases t <;> rfl
theorem leaves_of {ps : PL} (h : Mp ps) : M_leaves_of [(cn 16 ps).d] = .ok (.lst (ps.map pd)) := by
  have hl := h.len
  have hn := nds_len 16 [] ps
  have hi : diL (dCall M_nodes_of (daC (dV 0) daN)) [some (cn 16 ps).d, none, none] = .ok ((nds 16 [] ps).map nd) := by
    unfold diL
    simp only [x_dCall, x_daC, x_daN, x_dV0, rb_ok, nodes_of h.sp.gd hl]
  have lc : dLc (diL (dCall M_nodes_of (daC (dV 0) daN))) [1, 2] (gT [1, 2]) (dB (d2 opEq (d2 opIx (dV 2) (dC (.int 0))) (dC (.str "leaf")))) (dTup (daC (d2 opIx (dV 2) (dC (.int 1))) (daC (d2 opIx (dV 2) (dC (.int 2))) daN))) [some (cn 16 ps).d, none, none] = .ok (.lst (ps.map pd)) := by
    rw [← nds_leafs 16 [] ps rfl h.sp.gd]
    refine x_dLc hi (by rw [List.length_map]; show _ ≤ 16777216; omega) (lcL_flat fun x hx => ?_)
    refine ⟨[some (cn 16 ps).d, some (.str (pS x.1)), some (nt x).d], rfl, ?_⟩
    have e1 : ∀ u : D, dB (d2 opEq (d2 opIx (dV 2) (dC (.int 0))) (dC (.str "leaf"))) [some (cn 16 ps).d, some u, some (nt x).d] = .ok (match nt x with | .leaf _ _ => true | _ => false) := fun u => by
      simp only [x_dB, x_d2, x_dV0, x_dVs, x_dC, rb_ok, ix_tag, x_ofO_some, eq_leaf, x_boolR]
    unfold leafs
    rw [e1]
    cases ht : nt x with
    | leaf k v =>
      left
      exact ⟨rfl, pd (k, v), rfl, rfl⟩
    | _ => right; exact ⟨rfl, rfl⟩
  simp only [M_leaves_of, x_def1, b_leaves_of, List.cons_append, List.nil_append, List.replicate, Nat.reduceSub, x_sSq, x_sRet, lc]
theorem is_closed {n : Nat} {qs : PL} : M_is_closed [(cn n qs).d] = .ok (.bl false) := by
  rcases cn_cases n qs with e | ⟨q, _, e⟩ | ⟨m, l, r, e⟩ <;> rw [e] <;> rfl
/-- what a map holds -/
def lkP (k : Int) : PL → Option D
  | [] => none
  | p :: r => if p.1 = k then some p.2 else lkP k r
theorem lkP_none {k : Int} : ∀ {ps : PL}, (∀ p ∈ ps, p.1 ≠ k) → lkP k ps = none
  | [], _ => rfl
  | p :: r, h => by
    show (if p.1 = k then _ else _) = _
    rw [if_neg (h p List.mem_cons_self), lkP_none fun q hq => h q (List.mem_cons_of_mem _ hq)]
theorem lkP_mem {k : Int} {v : D} : ∀ {ps : PL}, lkP k ps = some v → (k, v) ∈ ps
  | [], h => by cases h
  | p :: r, h => by
    have h : (if p.1 = k then some p.2 else lkP k r) = some v := h
    split at h
    · rename_i e
      cases h
      rw [← e]
      exact List.mem_cons_self
    · exact List.mem_cons_of_mem _ (lkP_mem h)
theorem lkP_of {k : Int} {v : D} : ∀ {ps : PL}, ps.Pairwise (fun p q => p.1 < q.1) → (k, v) ∈ ps → lkP k ps = some v
  | [], _, h => by cases h
  | p :: r, hp, h => by
    show (if p.1 = k then some p.2 else lkP k r) = some v
    rcases List.mem_cons.mp h with e | e
    · rw [← e, if_pos rfl]
    · have := (List.pairwise_cons.mp hp).1 _ e
      rw [if_neg (by simp only at this; omega), lkP_of (List.pairwise_cons.mp hp).2 e]
theorem lkP_fb {k : Int} {n : Nat} : ∀ {ps : PL}, lkP k (fb n (bi k n) ps) = lkP k ps
  | [] => rfl
  | p :: r => by
    by_cases q : bi p.1 n = bi k n
    · rw [fb_cons_pos q]
      show (if p.1 = k then some p.2 else lkP k (fb n (bi k n) r)) = (if p.1 = k then some p.2 else lkP k r)
      rw [lkP_fb]
    · rw [fb_cons_neg q, lkP_fb]
      show _ = (if p.1 = k then some p.2 else lkP k r)
      rw [if_neg (fun e => q (by rw [e]))]
theorem end_lk : ∀ (n : Nat) (ps : PL) (k : Int), Gd n ps → (match endT n (cn n ps) k with | .leaf k' v' => if k' = k then some v' else none | _ => none) = lkP k ps
  | n, [], k, _ => by cases n <;> rfl
  | n, [q], k, _ => by
    have e : endT n (cn n [q]) k = .leaf q.1 q.2 := by cases n <;> rfl
    rw [e]
    rfl
  | 0, p :: q :: r, _, h => by have := h.zero; simp at this
  | n + 1, p :: q :: r, k, h => by
    have hb : 2 ≤ (p :: q :: r).length := by simp
    generalize hps : p :: q :: r = ps at *
    have e : (if bi k n = 0 then cn n (fb n 0 ps) else cn n (fb n 1 ps)) = cn n (fb n (bi k n) ps) := by
      rcases bi01 k n with b | b <;> rw [b]
      · rw [if_pos rfl]
      · rw [if_neg (by omega)]
    rw [cn_big hb]
    show (match endT n (if bi k n = 0 then cn n (fb n 0 ps) else cn n (fb n 1 ps)) k with | .leaf k' v' => if k' = k then some v' else none | _ => none) = _
    rw [e, end_lk n _ k (h.fb _), lkP_fb]
theorem hid_cn {n : Nat} {ps : PL} {k : Int} (h : Gd n ps) : hid (endT n (cn n ps) k) k = false := by
  rcases end_cn n ps k h with e | ⟨q, _, e⟩ <;> rw [e] <;> rfl
theorem vl_cn {n : Nat} {ps : PL} {k : Int} (h : Gd n ps) : vlT (endT n (cn n ps) k) k = (lkP k ps).getD (.int 0) := by
  rw [← end_lk n ps k h]
  rcases end_cn n ps k h with e | ⟨q, _, e⟩
  · rw [e]; rfl
  · rw [e]
    show (if q.1 = k then q.2 else .int 0) = (if q.1 = k then some q.2 else none).getD (.int 0)
    split <;> rfl
theorem value_at {ps : PL} (h : Sp ps) {k : Int} (hk : Spot k) : M_value_at [(cn 16 ps).d, .int k] = .ok ((lkP k ps).getD (.int 0)) := by
  rw [value (ht_cn 16 ps) hk.1 (hid_cn h.gd), vl_cn h.gd]
theorem get {ps : PL} (h : Mp ps) {k : Int} (hk : Spot k) : M_get [(cn 16 ps).d, .int k] = .ok ((lkP k ps).getD (.int 0)) := by
  simp only [M_get, x_def2, b_get, List.cons_append, List.nil_append, List.replicate, Nat.reduceSub, x_sSq, x_sE, x_dCall, x_daC, x_daN, x_dV0, x_dVs, rb_ok, need_tree h, need_key hk, x_sRet, value_at h.sp hk]
theorem put {ps : PL} (h : Mp ps) {k : Int} (hk : Spot k) {v : D} (hv : VV v) : M_put [(cn 16 ps).d, .int k, v] = .ok (cn 16 (updP k v ps)).d := by
  simp only [M_put, x_def3, b_put, List.cons_append, List.nil_append, List.replicate, Nat.reduceSub, x_sSq, x_sE, x_dCall, x_daC, x_daN, x_dV0, x_dVs, rb_ok, need_tree h, need_key hk, need_value hv, x_sRet, change h.sp hk hv]
end K49
/-! PI: the law's own split of a map. -/
namespace DL
theorem lk_cons {α : Type} {k j : Key} {v : α} {r : List (Key × α)} : lk ((k, v) :: r) j = if k = j then some v else lk r j := by
  unfold lk
  rw [List.find?_cons]
  by_cases q : k = j
  · simp [q]
  · simp [q]
theorem lk_app {α : Type} {j : Key} {r : List (Key × α)} : ∀ {l : List (Key × α)}, lk (l ++ r) j = (lk l j).orElse fun _ => lk r j
  | [] => by simp [lk]
  | (k, v) :: l => by
    rw [List.cons_append, lk_cons, lk_cons, lk_app]
    split <;> rfl
theorem lk_any {α : Type} {j : Key} : ∀ {l : List (Key × α)}, (l.any fun kv => decide (kv.1 = j)) = (lk l j).isSome
  | [] => rfl
  | (k, v) :: l => by
    rw [List.any_cons, lk_cons, lk_any]
    by_cases q : k = j
    · simp [q]
    · simp [q]
theorem lk_repl {α : Type} {k j : Key} {v : α} : ∀ {l : List (Key × α)}, lk (l.map fun kv => if kv.1 = k then (kv.1, v) else kv) j = if k = j then (if (lk l j).isSome = true then some v else none) else lk l j
  | [] => by
    show lk [] j = _
    split <;> rfl
  | (k', w) :: l => by
    rw [List.map_cons]
    have ih := lk_repl (k := k) (j := j) (v := v) (l := l)
    by_cases q : k' = k
    · rw [if_pos (show (k', w).1 = k from q), lk_cons, lk_cons, ih]
      simp only
      by_cases q2 : k' = j
      · rw [if_pos q2, if_pos q2, if_pos (q.symm.trans q2)]
        rfl
      · rw [if_neg q2, if_neg q2]
    · rw [if_neg (show ¬ (k', w).1 = k from q), lk_cons, lk_cons, ih]
      by_cases q2 : k' = j
      · rw [if_pos q2, if_pos q2, if_neg (fun e => q (q2.trans e.symm))]
      · rw [if_neg q2, if_neg q2]
theorem lk_pt {α : Type} {k j : Key} {v : α} {l : List (Key × α)} : lk (pt l k v) j = if k = j then some v else lk l j := by
  unfold pt
  rw [lk_any]
  cases q : lk l k with
  | none =>
    simp only [Option.isSome_none, Bool.false_eq_true, if_false]
    rw [lk_app, lk_cons]
    by_cases e : k = j
    · subst e
      rw [q, if_pos rfl, if_pos rfl]
      rfl
    · rw [if_neg e, if_neg e]
      cases lk l j <;> rfl
  | some w =>
    simp only [Option.isSome_some, if_true]
    rw [lk_repl]
    by_cases e : k = j
    · subst e
      rw [if_pos rfl, if_pos rfl, q]
      rfl
    · rw [if_neg e, if_neg e]
theorem pt_len {α : Type} (kvs : List (Key × α)) (k : Key) (v : α) : (pt kvs k v).length ≤ kvs.length + 1 := by
  unfold pt
  split
  · rw [List.length_map]; omega
  · rw [List.length_append, List.length_singleton]; exact Nat.le_refl _
theorem x_diR1 {a : DE} {s : DSt} {n : Nat} (h : a s = .ok (.int (n : Int))) (hn : n < 1000) : diR1 a s = .ok (rg 0 n 1) := by
  unfold diR1
  rw [h, rb_ok]
  simp only
  rw [if_pos (by unfold smallB; rw [Bool.and_eq_true, decide_eq_true_eq, decide_eq_true_eq]; omega), Int.toNat_natCast]
end DL
namespace K49
open DL
open PySem (Str)
theorem power_loop {a : Option D} : ∀ (n : Nat) (lo : Int) (f : Int) (x : Option D), ∃ x', forL (gN 2) (sSq (sAs (gN 1) (d2 opMulI (dC (.int 2)) (dV 1))) sNx) (rg lo n 1) [a, some (.int f), x] = .nx [a, some (.int (2 ^ n * f)), x'] := by
  intro n
  induction n with
  | zero => intro lo f x; exact ⟨x, by rw [show (2 : Int) ^ 0 * f = f by simp]; rfl⟩
  | succ n ih =>
    intro lo f x
    obtain ⟨x', e⟩ := ih (lo + 1) (2 * f) (some (.int lo))
    refine ⟨x', ?_⟩
    have hm : opMulI (.int 2) (.int f) = some (.int (2 * f)) := o_mul (by unfold mulOk; rw [Bool.or_eq_true]; left; decide)
    rw [rg_succ, x_forN]
    simp only [x_sSq, x_sAsN, x_d2, x_dC, x_dV0, x_dVs, rb_ok, hm, x_ofO_some, List.set_cons_succ, List.set_cons_zero, x_sNx]
    rw [e]
    congr 5
    rw [Int.pow_succ, Int.mul_assoc]
theorem lp1 {n : Nat} (hn : n < 1000) : diR1 (dV 0) [some (.int (n : Int)), some (.int 1), none] = .ok (rg 0 n 1) := x_diR1 rfl hn
theorem lp2 {n : Nat} (hn : n < 1000) : ∃ x', sFor (diR1 (dV 0)) (gN 2) (sSq (sAs (gN 1) (d2 opMulI (dC (.int 2)) (dV 1))) sNx) [some (.int (n : Int)), some (.int 1), none] = .nx [some (.int (n : Int)), some (.int (2 ^ n)), x'] := by
  obtain ⟨x', e⟩ := power_loop (a := some (.int (n : Int))) n 0 1 none
  rw [Int.mul_one] at e
  exact ⟨x', (x_sFor (lp1 hn)).trans e⟩
theorem lp3 {t : DS} {s s' : DSt} {a d : D} {x : Option D} (h : t s = .nx [some a, some d, x]) : sSq t (sSq (sRet (dV 1)) sNx) s = .rt d := by
  simp only [x_sSq, h, x_sRet, x_dV0, x_dVs]
theorem lp4 {n : Nat} (hn : n < 1000) : b__law_power [some (.int (n : Int)), none, none] = .rt (.int (2 ^ n)) := by
  obtain ⟨x', e⟩ := lp2 hn
  have h1 : sAs (gN 1) (dC (.int 1)) [some (.int (n : Int)), none, none] = .nx [some (.int (n : Int)), some (.int 1), none] := rfl
  unfold b__law_power
  exact (sq_nx h1).trans (lp3 (s' := []) e)
theorem law_power {n : Nat} (hn : n < 1000) : M__law_power [.int (n : Int)] = .ok (.int (2 ^ n)) := by
  unfold M__law_power
  exact def1_rt rfl (lp4 hn)
theorem law_bit {k : Int} {d : Nat} (hd : d ≤ 15) : M__law_bit [.int k, .int (d : Int)] = .ok (.int (bi k (15 - d))) := by
  have e1 : (15 : Int) - (d : Int) = ((15 - d : Nat) : Int) := by omega
  have h2 : (0 : Int) < 2 ^ (15 - d) := Int.pow_pos (by omega)
  have h3 : (2 : Int) ^ (15 - d) < 1073741824 := by
    have : 15 - d ≤ 15 := by omega
    have h4 : (2 : Int) ^ (15 - d) ≤ 2 ^ 15 := by
      have h6 := Nat.pow_le_pow_right (show 0 < 2 by omega) this
      have h7 := Int.ofNat_le.mpr h6
      rw [Int.natCast_pow, Int.natCast_pow] at h7
      exact h7
    have : (2 : Int) ^ 15 = 32768 := by decide
    omega
  have h5 : M__law_power [.int ((15 : Int) - (d : Int))] = .ok (.int (2 ^ (15 - d))) := by rw [e1]; exact law_power (by omega)
  simp only [M__law_bit, x_def2, b__law_bit, List.cons_append, List.nil_append, List.replicate, Nat.reduceSub, x_sSq, x_sRet, x_d2, x_d1, x_dCall, x_daC, x_daN, x_dC, x_dV0, x_dVs, rb_ok, o_sub, x_ofO_some, h5, o_fdiv h2 h3, o_int, o_mod (show (0 : Int) < 2 by decide), bi]
def kids (x : Pt) : List Pt := match x.n with
  | 0 => []
  | n + 1 => if 2 ≤ x.qs.length then [⟨n, x.p ++ [false], fb n 0 x.qs⟩, ⟨n, x.p ++ [true], fb n 1 x.qs⟩] else []
theorem ns_kids (x : Pt) : x.ns = (x.p, x.qs) :: (kids x).flatMap Pt.ns := by
  obtain ⟨n, p, qs⟩ := x
  cases n with
  | zero => rfl
  | succ n =>
    show nds (n + 1) p qs = _
    unfold nds kids
    simp only
    split <;> simp [Pt.ns]
/-- from the top, level by level -/
def bq : Nat → List Pt → List Pt
  | m + 1, x :: r => x :: bq m (r ++ kids x)
  | _, _ => []
def En (x : Pt) : D := .tup [.str (pS x.p), .lst (x.qs.map pd)]
def spB : DS := sSq (sAs (gT [3, 4]) (d2 opIx (dV 1) (dV 2))) (sSq (sIf (dB (d2 opGt (d1 fLen (dV 4)) (dC (.int 1)))) (sSq (sFor (diR1 (dC (.int 2))) (gN 5) (sSq (sApp 1 (dTup (daC (d2 opAdd (dV 3) (d1 fStr (dV 5))) (daC (dLc (diL (dV 4)) [6] (gN 6) (dB (d2 opEq (dCall M__law_bit (daC (d2 opIx (dV 6) (dC (.int 0))) (daC (d1 fLen (dV 3)) daN))) (dV 5))) (dV 6)) daN)))) sNx)) sNx) sNx)
  (sSq (sAs (gN 2) (d2 opAdd (dV 2) (dC (.int 1)))) sNx))
theorem side_lc {a b c : Option D} {p : List Bool} {qs : PL} {side : Int} {y : Option D} {n : Nat} (hp : p.length + (n + 1) = 16) (hl : qs.length ≤ 1000) (s : DSt) (hs : s = [a, b, c, some (.str (pS p)), some (.lst (qs.map pd)), some (.int side), y]) :
    dLc (diL (dV 4)) [6] (gN 6) (dB (d2 opEq (dCall M__law_bit (daC (d2 opIx (dV 6) (dC (.int 0))) (daC (d1 fLen (dV 3)) daN))) (dV 5))) (dV 6) s = .ok (.lst ((fb n side qs).map pd)) := by
  subst hs
  have e : (fb n side qs).map pd = qs.flatMap fun q => if bi q.1 n = side then [pd q] else [] := by
    clear hl
    induction qs with
    | nil => rfl
    | cons q qs ih =>
      rw [List.flatMap_cons, ← ih]
      by_cases h : bi q.1 n = side
      · rw [fb_cons_pos h, if_pos h]; rfl
      · rw [fb_cons_neg h, if_neg h]; rfl
  rw [e]
  refine x_dLc rfl (by rw [List.length_map]; show _ ≤ 16777216; omega) (lcL_flat fun q hq => ?_)
  refine ⟨[a, b, c, some (.str (pS p)), some (.lst (qs.map pd)), some (.int side), some (pd q)], rfl, ?_⟩
  have e1 : opIx (pd q) (.int 0) = some (.int q.1) := rfl
  have e2 : fLen (.str (pS p)) = some (.int (p.length : Int)) := by rw [o_lenS (by rw [pS_len]; show _ ≤ 16777216; omega), pS_len]
  have e3 : M__law_bit [.int q.1, .int (p.length : Int)] = .ok (.int (bi q.1 n)) := by
    rw [law_bit (by omega)]
    congr 3
    omega
  have ec : dB (d2 opEq (dCall M__law_bit (daC (d2 opIx (dV 6) (dC (.int 0))) (daC (d1 fLen (dV 3)) daN))) (dV 5)) [a, b, c, some (.str (pS p)), some (.lst (qs.map pd)), some (.int side), some (pd q)] = .ok (bi q.1 n == side) := by
    simp only [x_dB, x_d2, x_d1, x_dCall, x_daC, x_daN, x_dC, x_dV0, x_dVs, rb_ok, e1, e2, e3, x_ofO_some, o_eq, x_boolR]
  rw [ec]
  by_cases h : bi q.1 n = side
  · left
    rw [if_pos h]
    exact ⟨by rw [beq_iff_eq.mpr h], pd q, rfl, rfl⟩
  · right
    rw [if_neg h]
    exact ⟨by rw [beq_eq_false_iff_ne.mpr h], rfl⟩
end K49
/-! PJ: the loop of the law's split. -/
namespace K49
open DL
open PySem (Str)
def spI : DS := sIf (dB (d2 opGt (d1 fLen (dV 4)) (dC (.int 1)))) (sSq (sFor (diR1 (dC (.int 2))) (gN 5) (sSq (sApp 1 (dTup (daC (d2 opAdd (dV 3) (d1 fStr (dV 5))) (daC (dLc (diL (dV 4)) [6] (gN 6) (dB (d2 opEq (dCall M__law_bit (daC (d2 opIx (dV 6) (dC (.int 0))) (daC (d1 fLen (dV 3)) daN))) (dV 5))) (dV 6)) daN)))) sNx)) sNx) sNx
theorem split_if {a c y z : Option D} {L : List Pt} {x : Pt} (hx : x.ok) (hl : x.qs.length ≤ 1000) (hL : L.length < 1000000) :
    ∃ y', spI [a, some (.lst (L.map En)), c, some (.str (pS x.p)), some (.lst (x.qs.map pd)), y, z] = .nx [a, some (.lst ((L ++ kids x).map En)), c, some (.str (pS x.p)), some (.lst (x.qs.map pd)), y', z] := by
  obtain ⟨n, p, qs⟩ := x
  obtain ⟨h1, h2⟩ := hx
  simp only at h1 h2 hl
  by_cases hb : 2 ≤ qs.length
  · cases n with
    | zero => have := h2.zero; omega
    | succ n =>
      obtain ⟨a1, a2⟩ := addS (p := p) (by omega)
      have hd : decide ((1 : Int) < (qs.length : Int)) = true := by rw [decide_eq_true_eq]; omega
      have hr : ∀ s, diR1 (dC (.int 2)) s = .ok [.int 0, .int 1] := fun s => rfl
      have f0 : fStr (.int 0) = some (.str "0") := rfl
      have f1 : fStr (.int 1) = some (.str "1") := rfl
      refine ⟨some (.int 1), ?_⟩
      have hk : kids ⟨n + 1, p, qs⟩ = [⟨n, p ++ [false], fb n 0 qs⟩, ⟨n, p ++ [true], fb n 1 qs⟩] := if_pos hb
      have s0 := fun (b : Option D) => side_lc (a := a) (b := b) (c := c) (side := 0) (y := z) h1 hl _ rfl
      have s1 := fun (b : Option D) => side_lc (a := a) (b := b) (c := c) (side := 1) (y := z) h1 hl _ rfl
      have o1 : ∀ s : DSt, ∀ xs, ownL (a :: some (.lst xs) :: s) 1 = some xs := fun s xs => rfl
      have hnil : ∀ (g : DG) (b : DS) (s : DSt), forL g b [] s = .nx s := fun _ _ _ => rfl
      have q0 : L.length < SL := by show _ < 16777216; omega
      have qt : ∀ u v : D, (([u, v] : List D).length ≤ SL) := fun u v => by show 2 ≤ 16777216; omega
      have q1 : (L.map En ++ [D.tup [D.str (pS (p ++ [false])), D.lst ((fb n 0 qs).map pd)]]).length < SL := by
        rw [List.length_append, List.length_map]; show _ + 1 < 16777216; omega
      simp only [spI, x_sIf, x_dB, x_d2, x_d1, x_dC, x_dV0, x_dVs, rb_ok, o_lenL, List.length_map, x_ofO_some, o_gt, hd, x_boolR, x_sSq, x_sFor (hr _), x_forN, List.set_cons_succ, List.set_cons_zero, x_sApp, o1, x_dTup, x_daC, x_daN, f0, f1, a1, a2, s0, s1, if_pos q0, if_pos q1, if_pos (qt _ _), x_sNx, hk, List.map_append, List.map_cons, List.map_nil, En, List.append_assoc, List.cons_append, List.nil_append, hnil]
  · have hd : decide ((1 : Int) < (qs.length : Int)) = false := by rw [decide_eq_false_iff_not]; omega
    have hk : kids ⟨n, p, qs⟩ = [] := by
      unfold kids
      cases n with
      | zero => rfl
      | succ n => exact if_neg hb
    refine ⟨y, ?_⟩
    rw [hk, List.append_nil]
    simp only [spI, x_sIf, x_dB, x_d2, x_d1, x_dC, x_dV0, x_dVs, rb_ok, o_lenL, List.length_map, x_ofO_some, o_gt, hd, x_boolR, x_sNx]
def spC : DT := dB (d2 opLt (dV 2) (d1 fLen (dV 1)))
theorem spB_eq : spB = sSq (sAs (gT [3, 4]) (d2 opIx (dV 1) (dV 2))) (sSq spI (sSq (sAs (gN 2) (d2 opAdd (dV 2) (dC (.int 1)))) sNx)) := (rfl)
theorem split_body {a u v y z : Option D} {pre r : List Pt} {x : Pt} (hx : x.ok) (hl : x.qs.length ≤ 1000) (hL : (pre ++ x :: r).length < 1000000) :
    ∃ u' v' y', spB [a, some (.lst ((pre ++ x :: r).map En)), some (.int (pre.length : Int)), u, v, y, z] = .nx [a, some (.lst (((pre ++ [x]) ++ (r ++ kids x)).map En)), some (.int ((pre ++ [x]).length : Int)), u', v', y', z] := by
  obtain ⟨y', e⟩ := split_if (a := a) (c := some (.int (pre.length : Int))) (y := y) (z := z) (L := pre ++ x :: r) hx hl hL
  refine ⟨some (.str (pS x.p)), some (.lst (x.qs.map pd)), y', ?_⟩
  have ei : opIx (.lst ((pre ++ x :: r).map En)) (.int (pre.length : Int)) = some (En x) := o_ixL (by rw [List.getElem?_map, List.getElem?_append_right (Nat.le_refl _), Nat.sub_self]; rfl)
  have ea : sAs (gT [3, 4]) (d2 opIx (dV 1) (dV 2)) [a, some (.lst ((pre ++ x :: r).map En)), some (.int (pre.length : Int)), u, v, y, z] = .nx [a, some (.lst ((pre ++ x :: r).map En)), some (.int (pre.length : Int)), some (.str (pS x.p)), some (.lst (x.qs.map pd)), y, z] := by
    have eh : d2 opIx (dV 1) (dV 2) [a, some (.lst ((pre ++ x :: r).map En)), some (.int (pre.length : Int)), u, v, y, z] = .ok (.tup [.str (pS x.p), .lst (x.qs.map pd)]) := by simp only [x_d2, x_dV0, x_dVs, rb_ok, ei, x_ofO_some, En]
    rw [x_sAsT, eh]
    rfl
  rw [spB_eq, sq_nx ea, sq_nx e]
  have el : ((pre ++ x :: r) ++ kids x) = ((pre ++ [x]) ++ (r ++ kids x)) := by simp
  rw [el]
  simp only [x_sSq, x_sAsN, x_d2, x_dC, x_dV0, x_dVs, rb_ok, o_add, x_ofO_some, List.set_cons_succ, List.set_cons_zero, x_sNx, List.length_append, List.length_singleton, Int.natCast_add, Int.natCast_one]
theorem kids_ok {x : Pt} (hx : x.ok) (hl : x.qs.length ≤ 1000) : ∀ y ∈ kids x, y.ok ∧ y.qs.length ≤ 1000 := by
  obtain ⟨n, p, qs⟩ := x
  obtain ⟨h1, h2⟩ := hx
  simp only at h1 h2 hl
  intro y hy
  cases n with
  | zero => exact absurd hy (by simp [kids])
  | succ n =>
    unfold kids at hy
    simp only at hy
    have l0 := (fb_sub n 0 qs).length_le
    have l1 := (fb_sub n 1 qs).length_le
    split at hy
    · rcases List.mem_cons.mp hy with rfl | hy
      · exact ⟨⟨by simp only [List.length_append, List.length_singleton]; omega, h2.fb _⟩, by simp only; omega⟩
      · rw [List.mem_singleton.mp hy]
        exact ⟨⟨by simp only [List.length_append, List.length_singleton]; omega, h2.fb _⟩, by simp only; omega⟩
    · exact absurd hy (by simp)
theorem split_loop {a z : Option D} : ∀ (m fuel : Nat) (pre q : List Pt) (u v y : Option D), (∀ x ∈ q, x.ok ∧ x.qs.length ≤ 1000) → (q.flatMap Pt.ns).length = m → m < fuel → pre.length + m < 1000000 →
    ∃ c' u' v' y', whileN spC spB fuel [a, some (.lst ((pre ++ q).map En)), some (.int (pre.length : Int)), u, v, y, z] = .nx [a, some (.lst ((pre ++ bq m q).map En)), c', u', v', y', z] := by
  intro m
  induction m with
  | zero =>
    intro fuel pre q u v y h1 h2 h3 h4
    obtain ⟨f, rfl⟩ : ∃ f, fuel = f + 1 := ⟨fuel - 1, by omega⟩
    have es : q = [] := by
      have := stk_len q
      exact List.eq_nil_of_length_eq_zero (by omega)
    subst es
    refine ⟨some (.int (pre.length : Int)), u, v, y, ?_⟩
    have ec : spC [a, some (.lst ((pre ++ []).map En)), some (.int (pre.length : Int)), u, v, y, z] = .ok false := by
      simp [spC]
    unfold whileN
    rw [ec]
    rfl
  | succ m ih =>
    intro fuel pre q u v y h1 h2 h3 h4
    obtain ⟨f, rfl⟩ : ∃ f, fuel = f + 1 := ⟨fuel - 1, by omega⟩
    cases q with
    | nil => simp at h2
    | cons x r =>
      obtain ⟨hx, hl⟩ := h1 x List.mem_cons_self
      have hk := kids_ok hx hl
      have hs := stk_len r
      have ec : spC [a, some (.lst ((pre ++ x :: r).map En)), some (.int (pre.length : Int)), u, v, y, z] = .ok true := by
        have : decide ((pre.length : Int) < ((pre ++ x :: r).length : Int)) = true := by
          rw [decide_eq_true_eq, List.length_append, List.length_cons]; omega
        simp only [spC, x_dB, x_d2, x_d1, x_dV0, x_dVs, rb_ok, o_lenL, List.length_map, x_ofO_some, o_lt, this, x_boolR]
      rw [List.flatMap_cons, ns_kids, List.length_append, List.length_cons] at h2
      obtain ⟨u', v', y', eb⟩ := split_body (a := a) (u := u) (v := v) (y := y) (z := z) (pre := pre) (r := r) hx hl (by rw [List.length_append, List.length_cons]; omega)
      obtain ⟨c2, u2, v2, y2, e2⟩ := ih f (pre ++ [x]) (r ++ kids x) u' v' y' (fun w hw => by
        rcases List.mem_append.mp hw with hw | hw
        · exact h1 w (List.mem_cons_of_mem _ hw)
        · exact hk w hw) (by rw [List.flatMap_append, List.length_append]; omega) (by omega) (by rw [List.length_append, List.length_singleton]; omega)
      refine ⟨c2, u2, v2, y2, ?_⟩
      unfold whileN
      rw [ec]
      simp only
      rw [eb]
      simp only
      rw [e2]
      rw [show bq (m + 1) (x :: r) = x :: bq m (r ++ kids x) from rfl, List.append_assoc, List.singleton_append]
theorem bq_len : ∀ (m : Nat) (q : List Pt), (bq m q).length ≤ m
  | 0, _ => by simp [bq]
  | m + 1, [] => by simp [bq]
  | m + 1, x :: r => by
    have := bq_len m (r ++ kids x)
    rw [show bq (m + 1) (x :: r) = x :: bq m (r ++ kids x) from rfl, List.length_cons]
    omega
theorem b_split : b__law_split = sSq (sAs (gN 1) (dLst (daC (dTup (daC (dC (.str "")) (daC (dV 0) daN))) daN))) (sSq (sAs (gN 2) (dC (.int 0))) (sSq (sWh spC spB) (sSq (sRet (dV 1)) sNx))) := (rfl)
theorem law_split {ps : PL} (h : Gd 16 ps) (hl : ps.length ≤ 1000) (hm : (Pt.ns ⟨16, [], ps⟩).length < 1000000) :
    M__law_split [.lst (ps.map pd)] = .ok (.lst ((bq (Pt.ns ⟨16, [], ps⟩).length [⟨16, [], ps⟩]).map En)) := by
  obtain ⟨c', u', v', y', e⟩ := split_loop (a := some (.lst (ps.map pd))) (z := none) (Pt.ns ⟨16, [], ps⟩).length FU [] [⟨16, [], ps⟩] none none none (fun x hx => by
    rw [List.mem_singleton.mp hx]
    exact ⟨⟨rfl, h⟩, hl⟩) (by rw [List.flatMap_cons, List.flatMap_nil, List.append_nil]) (by show _ < 1048576; omega) (by rw [List.length_nil]; omega)
  have h1 : sAs (gN 1) (dLst (daC (dTup (daC (dC (.str "")) (daC (dV 0) daN))) daN)) [some (.lst (ps.map pd)), none, none, none, none, none, none] = .nx [some (.lst (ps.map pd)), some (.lst [En ⟨16, [], ps⟩]), none, none, none, none, none] := rfl
  have h2 : sAs (gN 2) (dC (.int 0)) [some (.lst (ps.map pd)), some (.lst [En ⟨16, [], ps⟩]), none, none, none, none, none] = .nx [some (.lst (ps.map pd)), some (.lst [En ⟨16, [], ps⟩]), some (.int 0), none, none, none, none] := rfl
  have h3 : sWh spC spB [some (.lst (ps.map pd)), some (.lst [En ⟨16, [], ps⟩]), some (.int 0), none, none, none, none] = .nx [some (.lst (ps.map pd)), some (.lst ((bq (Pt.ns ⟨16, [], ps⟩).length [⟨16, [], ps⟩]).map En)), c', u', v', y', none] := e
  have h4 : sSq (sRet (dV 1)) sNx [some (.lst (ps.map pd)), some (.lst ((bq (Pt.ns ⟨16, [], ps⟩).length [⟨16, [], ps⟩]).map En)), c', u', v', y', none] = .rt (.lst ((bq (Pt.ns ⟨16, [], ps⟩).length [⟨16, [], ps⟩]).map En)) := rfl
  unfold M__law_split
  refine def1_rt rfl ?_
  rw [b_split]
  exact ((sq_nx h1).trans (sq_nx h2)).trans ((sq_nx h3).trans h4)
end K49
/-! PK: the order of the law's split. -/
namespace K49
open DL
open PySem (Str)
theorem ns_pos (x : Pt) : 1 ≤ x.ns.length := by
  rw [ns_kids, List.length_cons]; omega
theorem bq_step {m : Nat} {x : Pt} {r : List Pt} (h : ((x :: r).flatMap Pt.ns).length ≤ m + 1) : ((r ++ kids x).flatMap Pt.ns).length ≤ m := by
  rw [List.flatMap_cons, ns_kids, List.length_append, List.length_cons] at h
  rw [List.flatMap_append, List.length_append]
  omega
theorem bq_sub : ∀ (m : Nat) (q : List Pt), (q.flatMap Pt.ns).length ≤ m → ∀ x ∈ q, x ∈ bq m q
  | _, [], _, x, hx => by cases hx
  | 0, y :: r, h, x, hx => by
    have := ns_pos y
    rw [List.flatMap_cons, List.length_append] at h
    omega
  | m + 1, y :: r, h, x, hx => by
    rw [show bq (m + 1) (y :: r) = y :: bq m (r ++ kids y) from rfl]
    rcases List.mem_cons.mp hx with e | hx
    · rw [e]; exact List.mem_cons_self
    · exact List.mem_cons_of_mem _ (bq_sub m _ (bq_step h) x (List.mem_append_left _ hx))
theorem bq_kids : ∀ (m : Nat) (q : List Pt), (q.flatMap Pt.ns).length ≤ m → ∀ (pre : List Pt) (x : Pt) (post : List Pt), bq m q = pre ++ x :: post → ∀ y ∈ kids x, y ∈ post
  | 0, _, _, pre, x, post, e, y, _ => by simp [bq] at e
  | m + 1, [], _, pre, x, post, e, y, _ => by simp [bq] at e
  | m + 1, z :: r, h, pre, x, post, e, y, hy => by
    rw [show bq (m + 1) (z :: r) = z :: bq m (r ++ kids z) from rfl] at e
    cases pre with
    | nil =>
      rw [List.nil_append] at e
      injection e with e1 e2
      rw [← e2]
      exact bq_sub m _ (bq_step h) y (List.mem_append_right _ (e1 ▸ hy))
    | cons p pre =>
      rw [List.cons_append] at e
      injection e with e1 e2
      exact bq_kids m _ (bq_step h) pre x post e2 y hy
theorem bq_ok : ∀ (m : Nat) (q : List Pt), (∀ x ∈ q, x.ok ∧ x.qs.length ≤ 1000) → ∀ x ∈ bq m q, x.ok ∧ x.qs.length ≤ 1000
  | 0, _, _, x, hx => by simp [bq] at hx
  | m + 1, [], _, x, hx => by simp [bq] at hx
  | m + 1, z :: r, h, x, hx => by
    rw [show bq (m + 1) (z :: r) = z :: bq m (r ++ kids z) from rfl] at hx
    obtain ⟨h1, h2⟩ := h z List.mem_cons_self
    rcases List.mem_cons.mp hx with e | hx
    · rw [e]; exact ⟨h1, h2⟩
    · refine bq_ok m _ (fun w hw => ?_) x hx
      rcases List.mem_append.mp hw with hw | hw
      · exact h w (List.mem_cons_of_mem _ hw)
      · exact kids_ok h1 h2 w hw
end K49
/-! PL1: the pairs that belong to a place. -/
namespace K49
open DL
open PySem (Str)
def ofW : Nat → PL → List Bool → PL
  | _, qs, [] => qs
  | n + 1, qs, b :: p => ofW n (fb n (bv b) qs) p
  | 0, _, _ :: _ => []
theorem ofW_snoc : ∀ (n m : Nat) (qs : PL) (p : List Bool) (b : Bool), p.length + (m + 1) = n → ofW n qs (p ++ [b]) = fb m (bv b) (ofW n qs p)
  | n, m, qs, [], b, h => by
    obtain rfl : n = m + 1 := by simp at h; omega
    simp [ofW]
  | 0, m, qs, c :: p, b, h => by simp at h
  | n + 1, m, qs, c :: p, b, h => by
    rw [List.cons_append, ofW, ofW]
    exact ofW_snoc n m _ p b (by simp only [List.length_cons] at h; omega)
def Fits (ps : PL) (x : Pt) : Prop := x.p.length + x.n = 16 ∧ x.qs = ofW 16 ps x.p
theorem kids_fit {ps : PL} {x : Pt} (h : Fits ps x) : ∀ y ∈ kids x, Fits ps y := by
  obtain ⟨n, p, qs⟩ := x
  obtain ⟨h1, h2⟩ := h
  simp only at h1 h2
  intro y hy
  cases n with
  | zero => exact absurd hy (by simp [kids])
  | succ n =>
    unfold kids at hy
    simp only at hy
    split at hy
    · rcases List.mem_cons.mp hy with rfl | hy
      · exact ⟨by simp only [List.length_append, List.length_singleton]; omega, by rw [h2]; exact (ofW_snoc 16 n ps p false h1).symm⟩
      · rw [List.mem_singleton.mp hy]
        exact ⟨by simp only [List.length_append, List.length_singleton]; omega, by rw [h2]; exact (ofW_snoc 16 n ps p true h1).symm⟩
    · exact absurd hy (by simp)
theorem bq_fit {ps : PL} : ∀ (m : Nat) (q : List Pt), (∀ x ∈ q, Fits ps x) → ∀ x ∈ bq m q, Fits ps x
  | 0, _, _, x, hx => by simp [bq] at hx
  | m + 1, [], _, x, hx => by simp [bq] at hx
  | m + 1, z :: r, h, x, hx => by
    rw [show bq (m + 1) (z :: r) = z :: bq m (r ++ kids z) from rfl] at hx
    have h1 := h z List.mem_cons_self
    rcases List.mem_cons.mp hx with e | hx
    · rw [e]; exact h1
    · refine bq_fit m _ (fun w hw => ?_) x hx
      rcases List.mem_append.mp hw with hw | hw
      · exact h w (List.mem_cons_of_mem _ hw)
      · exact kids_fit h1 w hw
theorem fit_same {ps : PL} {x y : Pt} (hx : Fits ps x) (hy : Fits ps y) (e : x.p = y.p) : x = y := by
  obtain ⟨n, p, qs⟩ := x
  obtain ⟨n', p', qs'⟩ := y
  obtain ⟨h1, h2⟩ := hx
  obtain ⟨h3, h4⟩ := hy
  simp only at h1 h2 h3 h4 e
  subst e
  obtain rfl : n = n' := by omega
  rw [h2, h4]
end K49
/-! PL2: one turn of the law's whole tree. -/
namespace K49
open DL
open PySem (Str)
def wB : DS := (sSq (sIf (dtNot (dTr (dV 3))) (sSq (sPut 1 (dV 2) (dTup (daC (dC (.str "none")) daN)))
  sNx) (sSq (sIf (dB (d2 opEq (d1 fLen (dV 3)) (dC (.int 1)))) (sSq (sPut 1 (dV 2) (d2 opAdd (dTup (daC (dC (.str "leaf")) daN)) (d2 opIx (dV 3) (dC (.int 0)))))
  sNx) (sSq (sPut 1 (dV 2) (dTup (daC (dC (.str "fork")) (daC (d1 fLen (dV 3)) (daC (d2 opIx (dV 1) (d2 opAdd (dV 2) (dC (.str "0")))) (daC (d2 opIx (dV 1) (d2 opAdd (dV 2) (dC (.str "1")))) daN))))))
  sNx))
  sNx))
  sNx)
theorem wb_eq : b__law_whole_tree = sSq (sAs (gN 1) (dC (.dct []))) (sSq (sFor (diL (d1 opRev (dCall M__law_split (daC (d1 fSortedIt (dV 0)) daN)))) (gT [2, 3]) wB) (sSq (sRet (d2 opIx (dV 1) (dC (.str "")))) sNx)) := rfl
theorem tup_len4 (a b c d : D) : ([a, b, c, d] : List D).length ≤ SL := by show 4 ≤ 16777216; omega
theorem tup_len1 (a : D) : ([a] : List D).length ≤ SL := by show 1 ≤ 16777216; omega
theorem kids_big {n : Nat} {p : List Bool} {qs : PL} (hb : 2 ≤ qs.length) : kids ⟨n + 1, p, qs⟩ = [⟨n, p ++ [false], fb n 0 qs⟩, ⟨n, p ++ [true], fb n 1 qs⟩] := by
  unfold kids
  exact if_pos hb
theorem wt_body {a : Option D} {tr : List (Key × D)} {x : Pt} (hx : x.ok) (hk : ∀ y ∈ kids x, lk tr (.inr (pS y.p)) = some (cn y.n y.qs).d) (hl : tr.length < 1000000) :
    wB [a, some (.dct tr), some (.str (pS x.p)), some (.lst (x.qs.map pd))] = .nx [a, some (.dct (pt tr (.inr (pS x.p)) (cn x.n x.qs).d)), some (.str (pS x.p)), some (.lst (x.qs.map pd))] := by
  obtain ⟨n, p, qs⟩ := x
  obtain ⟨h1, h2⟩ := hx
  simp only at h1 h2 ⊢
  have q0 : tr.length < SL := by show _ < 16777216; omega
  have od : ∀ s : DSt, ownD (a :: some (.dct tr) :: s) 1 = some tr := fun s => rfl
  have ok : keyOf (.str (pS p)) = some (.inr (pS p)) := rfl
  match qs, h2, hk with
  | [], _, _ =>
    rw [cn_nil]
    have t : truth (.lst []) = some false := rfl
    simp only [wB, x_sSq, x_sIf, x_dtNot, x_dTr, x_dV0, x_dVs, rb_ok, List.map_nil, t, x_ofO_some, Bool.not_false, x_sPut, od, x_dTup, x_daC, x_daN, x_dC, if_pos (tup_len1 _), ok, if_pos q0, List.set_cons_succ, List.set_cons_zero, x_sNx, T.d]
  | [q], _, _ =>
    rw [cn_one]
    have t : truth (.lst [pd q]) = some true := rfl
    have e1 : opEq (.int (([pd q] : List D).length : Int)) (.int 1) = some (.bl true) := rfl
    have e2 : opIx (.lst [pd q]) (.int 0) = some (pd q) := rfl
    have e3 : opAdd (.tup [.str "leaf"]) (pd q) = some (T.leaf q.1 q.2).d := rfl
    simp only [wB, x_sSq, x_sIf, x_dtNot, x_dTr, x_dV0, x_dVs, rb_ok, List.map_cons, List.map_nil, t, x_ofO_some, Bool.not_true, x_dB, x_d2, x_d1, o_lenL, x_dC, e1, x_boolR, x_sPut, od, x_dTup, x_daC, x_daN, if_pos (tup_len1 _), e2, e3, ok, if_pos q0, List.set_cons_succ, List.set_cons_zero, x_sNx]
  | q :: q' :: r, h2, hk =>
    have hb : 2 ≤ (q :: q' :: r).length := by simp only [List.length_cons]; omega
    cases n with
    | zero => have := h2.zero; omega
    | succ n =>
      have t : truth (.lst ((q :: q' :: r).map pd)) = some true := rfl
      have e1 : ((((q :: q' :: r).length : Nat) : Int) == 1) = false := by rw [beq_eq_false_iff_ne]; omega
      obtain ⟨a1, a2⟩ := addS (p := p) (by omega)
      rw [kids_big hb] at hk
      have l0 := hk _ List.mem_cons_self
      have l1 := hk _ (List.mem_cons_of_mem _ List.mem_cons_self)
      have i0 : opIx (.dct tr) (.str (pS (p ++ [false]))) = some (cn n (fb n 0 (q :: q' :: r))).d := by
        show (match lk tr (.inr (pS (p ++ [false]))) with | some d => some d | none => none) = _
        rw [l0]
      have i1 : opIx (.dct tr) (.str (pS (p ++ [true]))) = some (cn n (fb n 1 (q :: q' :: r))).d := by
        show (match lk tr (.inr (pS (p ++ [true]))) with | some d => some d | none => none) = _
        rw [l1]
      rw [cn_big hb]
      simp only [wB, x_sSq, x_sIf, x_dtNot, x_dTr, x_dV0, x_dVs, rb_ok, t, x_ofO_some, Bool.not_true, x_dB, x_d2, x_d1, o_lenL, List.length_map, x_dC, o_eq, e1, x_boolR, x_sPut, od, x_dTup, x_daC, x_daN, a1, a2, i0, i1, if_pos (tup_len4 _ _ _ _), ok, if_pos q0, List.set_cons_succ, List.set_cons_zero, x_sNx, T.d]
end K49
/-! PL3: the loop of the law's whole tree. -/
namespace K49
open DL
open PySem (Str)
theorem wt_loop {a : Option D} {ps : PL} : ∀ (l post : List Pt) (tr : List (Key × D)) (u v : Option D), (∀ pre x post', l.reverse ++ post = pre ++ x :: post' → ∀ y ∈ kids x, y ∈ post') → (∀ x ∈ l, x.ok) → (∀ x ∈ l, Fits ps x) → (∀ x ∈ post, Fits ps x) → (∀ y ∈ post, lk tr (.inr (pS y.p)) = some (cn y.n y.qs).d) → tr.length + l.length < 1000000 →
    ∃ tr' u' v', forL (gT [2, 3]) wB (l.map En) [a, some (.dct tr), u, v] = .nx [a, some (.dct tr'), u', v'] ∧ ∀ y ∈ l.reverse ++ post, lk tr' (.inr (pS y.p)) = some (cn y.n y.qs).d
  | [], post, tr, u, v, _, _, _, _, h, _ => ⟨tr, u, v, rfl, h⟩
  | x :: l, post, tr, u, v, hk, ho, hf, hg, h, hl => by
    have er : (x :: l).reverse ++ post = l.reverse ++ (x :: post) := by simp
    rw [er] at hk ⊢
    have hx := hf x List.mem_cons_self
    have eb := wt_body (a := a) (tr := tr) (ho x List.mem_cons_self) (fun y hy => h y (hk _ x post rfl y hy)) (by rw [List.length_cons] at hl; omega)
    have hp := pt_len tr (.inr (pS x.p)) (cn x.n x.qs).d
    obtain ⟨tr', u', v', e, h2⟩ := wt_loop l (x :: post) (pt tr (.inr (pS x.p)) (cn x.n x.qs).d) (some (.str (pS x.p))) (some (.lst (x.qs.map pd))) hk (fun y hy => ho y (List.mem_cons_of_mem _ hy)) (fun y hy => hf y (List.mem_cons_of_mem _ hy)) (fun y hy => by
      rcases List.mem_cons.mp hy with rfl | hy
      · exact hx
      · exact hg y hy) (fun y hy => by
      rw [lk_pt]
      by_cases q : (Sum.inr (pS x.p) : Key) = .inr (pS y.p)
      · have hy2 : Fits ps y := by
          rcases List.mem_cons.mp hy with rfl | hy
          · exact hx
          · exact hg y hy
        rw [if_pos q, fit_same hx hy2 (pS_inj (Sum.inr.inj q))]
      · rw [if_neg q]
        rcases List.mem_cons.mp hy with rfl | hy
        · exact absurd rfl q
        · exact h y hy) (by rw [List.length_cons] at hl; omega)
    refine ⟨tr', u', v', ?_, h2⟩
    have es : setAll [2, 3] [.str (pS x.p), .lst (x.qs.map pd)] [a, some (.dct tr), u, v] = .ok [a, some (.dct tr), some (.str (pS x.p)), some (.lst (x.qs.map pd))] := rfl
    rw [List.map_cons, show En x = .tup [.str (pS x.p), .lst (x.qs.map pd)] from rfl, x_forT es, eb]
    exact e
end K49
/-! PL4: the law's whole tree is the canonical tree. -/
namespace K49
open DL
open PySem (Str)
theorem law_whole_tree {kv : List (Key × D)} {ps : PL} (hs : fSortedIt (.dct kv) = some (.lst (ps.map pd))) (h : Gd 16 ps) (hl : ps.length ≤ 1000) :
    M__law_whole_tree [.dct kv] = .ok (cn 16 ps).d := by
  have hm : (Pt.ns ⟨16, [], ps⟩).length ≤ 2 * 16 * ps.length + 1 := nds_len 16 [] ps
  have hsp := law_split h hl (by omega)
  have hroot : ∀ x ∈ ([⟨16, [], ps⟩] : List Pt), x.ok ∧ x.qs.length ≤ 1000 := fun x hx => by rw [List.mem_singleton.mp hx]; exact ⟨⟨rfl, h⟩, hl⟩
  have hfit : ∀ x ∈ ([⟨16, [], ps⟩] : List Pt), Fits ps x := fun x hx => by rw [List.mem_singleton.mp hx]; exact ⟨rfl, by simp [ofW]⟩
  have hle : (([⟨16, [], ps⟩] : List Pt).flatMap Pt.ns).length ≤ (Pt.ns ⟨16, [], ps⟩).length := by rw [List.flatMap_cons, List.flatMap_nil, List.append_nil]; exact Nat.le_refl _
  obtain ⟨L, hL⟩ : ∃ L, bq (Pt.ns ⟨16, [], ps⟩).length [⟨16, [], ps⟩] = L := ⟨_, rfl⟩
  have b1 := bq_len (Pt.ns ⟨16, [], ps⟩).length [⟨16, [], ps⟩]
  have b2 := bq_sub _ _ hle ⟨16, [], ps⟩ List.mem_cons_self
  have b3 := bq_kids _ _ hle
  have b4 := bq_ok (Pt.ns ⟨16, [], ps⟩).length _ hroot
  have b5 := bq_fit (ps := ps) (Pt.ns ⟨16, [], ps⟩).length _ hfit
  rw [hL] at hsp b1 b2 b3 b4 b5
  obtain ⟨tr', u', v', e, h2⟩ := wt_loop (a := some (.dct kv)) (ps := ps) L.reverse [] [] none none (by rw [List.reverse_reverse, List.append_nil]; exact b3) (fun x hx => (b4 x (List.mem_reverse.mp hx)).1) (fun x hx => b5 x (List.mem_reverse.mp hx)) (fun x hx => by cases hx) (fun x hx => by cases hx) (by rw [List.length_reverse, List.length_nil]; omega)
  rw [List.reverse_reverse, List.append_nil] at h2
  have h3 := h2 _ b2
  have h4 : opIx (.dct tr') (.str "") = some (cn 16 ps).d := by
    show (match lk tr' (.inr (pS [])) with | some d => some d | none => none) = _
    rw [h3]
  have er : opRev (.lst (L.map En)) = some (.lst (L.reverse.map En)) := by rw [List.map_reverse]; rfl
  have ed : diL (d1 opRev (dCall M__law_split (daC (d1 fSortedIt (dV 0)) daN))) [some (.dct kv), some (.dct []), none, none] = .ok (L.reverse.map En) := by
    have : d1 opRev (dCall M__law_split (daC (d1 fSortedIt (dV 0)) daN)) [some (.dct kv), some (.dct []), none, none] = .ok (.lst (L.reverse.map En)) := by
      simp only [x_d1, x_dCall, x_daC, x_daN, x_dV0, x_dVs, rb_ok, hs, x_ofO_some, hsp, er]
    unfold diL
    rw [this]
    rfl
  unfold M__law_whole_tree
  refine def1_rt rfl ?_
  rw [wb_eq]
  have s1 : sAs (gN 1) (dC (.dct [])) [some (.dct kv), none, none, none] = .nx [some (.dct kv), some (.dct []), none, none] := rfl
  refine (sq_nx s1).trans ((sq_nx ((x_sFor ed).trans e)).trans ?_)
  simp only [x_sSq, x_sRet, x_d2, x_dC, x_dV0, x_dVs, rb_ok, h4, x_ofO_some]
end K49
/-! PS1: one sum by steps, and by chunks. -/
namespace K49
open DL
abbrev SP : Int := 2305843009213693951
abbrev SA : Int := 6364136223846793005
abbrev SB : Int := 1442695040888963407
def sh : Int → List Nat → Int
  | f, [] => f
  | f, c :: r => sh ((f * SA + SB + (c : Int)) % SP) r
def geo (a : Int) : Nat → Int
  | 0 => 0
  | n + 1 => geo a n + a ^ n
def dot : List Nat → List Int → Int
  | c :: r, k :: t => (c : Int) * k + dot r t
  | _, _ => 0
def gK (p a : Int) : List Int → Bool
  | [] => true
  | k :: r => decide (k % p = a ^ r.length % p) && gK p a r
theorem em {p x y : Int} (h : x % p = y % p) : ∃ t, x = y + p * t :=
  ⟨x / p - y / p, by
    have h1 := Int.mul_ediv_add_emod x p
    have h2 := Int.mul_ediv_add_emod y p
    rw [Int.mul_sub]; omega⟩
theorem me {p x y t : Int} (h : x = y + p * t) : x % p = y % p := by
  rw [h, Int.add_mul_emod_self_left]
theorem chunk_step {p a b f c k d g n : Int} (f' : Int) (e : f' % p = (f * a + b + c) % p) (hk : k % p = n % p) : (f' * n + d + b * g) % p = (f * (n * a) + (c * k + d) + b * (g + n)) % p := by
  obtain ⟨t, ht⟩ := em e
  obtain ⟨u, hu⟩ := em hk
  refine me (t := t * n - c * u) ?_
  rw [ht, hu]
  simp only [Int.add_mul, Int.mul_add, Int.mul_sub]
  have e1 : f * (n * a) = f * a * n := by rw [Int.mul_comm n a, Int.mul_assoc]
  have e2 : p * t * n = p * (t * n) := Int.mul_assoc _ _ _
  have e3 : c * (p * u) = p * (c * u) := by rw [← Int.mul_assoc, Int.mul_comm c p, Int.mul_assoc]
  rw [e1, e2, e3]
  omega
theorem sh_chunk : ∀ (cs : List Nat) (K : List Int) (f : Int), cs.length = K.length → gK SP SA K = true → sh f cs % SP = (f * SA ^ K.length + dot cs K + SB * geo SA K.length) % SP
  | [], [], f, _, _ => by simp [sh, dot, geo]
  | c :: r, k :: t, f, hl, h => by
    unfold gK at h
    rw [Bool.and_eq_true, decide_eq_true_eq] at h
    have ih := sh_chunk r t ((f * SA + SB + (c : Int)) % SP) (by simpa using hl) h.2
    unfold sh dot
    rw [ih, List.length_cons, Int.pow_succ]
    show _ = (f * (SA ^ t.length * SA) + (↑c * k + dot r t) + SB * (geo SA t.length + SA ^ t.length)) % SP
    exact chunk_step _ (Int.emod_emod _ _) h.1
  | [], _ :: _, _, h, _ => by simp at h
  | _ :: _, [], _, h, _ => by simp at h
theorem sh_lt : ∀ (cs : List Nat) (f : Int), 0 ≤ f → f < SP → 0 ≤ sh f cs ∧ sh f cs < SP
  | [], f, h1, h2 => ⟨h1, h2⟩
  | c :: r, f, _, _ => sh_lt r _ (Int.emod_nonneg _ (by decide)) (Int.emod_lt_of_pos _ (by decide))
theorem sh_app : ∀ (cs ds : List Nat) (f : Int), sh f (cs ++ ds) = sh (sh f cs) ds
  | [], _, _ => rfl
  | _ :: r, ds, _ => sh_app r ds _
end K49
/-! PS2: the sums of the program and of the law. -/
namespace K49
open DL
open PySem (Str)
def PW : List Int := K_POWERS.filterMap fun d => match d with
  | .int i => some i
  | _ => none
theorem pw_eq : K_POWERS = PW.map D.int := rfl
theorem pw_len : PW.length = 32 := rfl
theorem pw_good : gK SP SA PW = true := by decide +kernel
theorem ct_good : (1756108757816216254 : Int) % SP = SA ^ 32 % SP := by decide +kernel
theorem cp_good : (1472633651945887258 : Int) % SP = SB * geo SA 32 % SP := by decide +kernel
theorem chunk32 {cs : List Nat} (h : cs.length = 32) {f : Int} (h0 : 0 ≤ f) (h1 : f < SP) : sh f cs = (f * 1756108757816216254 + dot cs PW + 1472633651945887258) % SP := by
  have e := sh_chunk cs PW f (by rw [h, pw_len]) pw_good
  obtain ⟨a, b⟩ := sh_lt cs f h0 h1
  rw [Int.emod_eq_of_lt a b, pw_len] at e
  rw [e]
  obtain ⟨t, ht⟩ := em ct_good
  obtain ⟨u, hu⟩ := em cp_good
  refine (me (t := f * t + u) ?_).symm
  rw [hu, ht, Int.mul_add, Int.mul_add, ← Int.mul_assoc f SP t, Int.mul_comm f SP, Int.mul_assoc SP f t]
  omega
def ch (c : Nat) : D := .str ⟨#[c]⟩
@[simp] theorem ord_ch (c : Nat) : fOrd (ch c) = some (.int (c : Int)) := rfl
theorem mulA (f : Int) : opMulI (.int f) (.int 6364136223846793005) = some (.int (f * 6364136223846793005)) := o_mul (by unfold mulOk; rw [Bool.or_eq_true]; right; decide)
def lsB : DS := sSq (sAs (gN 2) (d2 opMod (d1 fInt (d2 opAdd (d2 opAdd (d2 opMulI (dV 2) (dC (.int 6364136223846793005))) (dC (.int 1442695040888963407))) (d1 fOrd (dV 3)))) (dC (.int 2305843009213693951)))) sNx
theorem ls_loop {a b : Option D} : ∀ (cs : List Nat) (f : Int) (x : Option D), ∃ x', forL (gN 3) lsB (cs.map ch) [a, b, some (.int f), x] = .nx [a, b, some (.int (sh f cs)), x']
  | [], f, x => ⟨x, rfl⟩
  | c :: r, f, x => by
    obtain ⟨x', e⟩ := ls_loop (a := a) (b := b) r ((f * SA + SB + (c : Int)) % SP) (some (ch c))
    refine ⟨x', ?_⟩
    rw [List.map_cons, x_forN]
    simp only [lsB, x_sSq, x_sAsN, x_d2, x_d1, x_dC, x_dV0, x_dVs, rb_ok, mulA, o_add, o_int, o_mod (show (0 : Int) < 2305843009213693951 by decide), ord_ch, x_ofO_some, List.set_cons_succ, List.set_cons_zero, x_sNx]
    exact e
theorem b_lsum : b__law_sum = sSq (sAs (gN 2) (dC (.int 104729))) (sSq (sFor (diStr (dV 0)) (gN 3) lsB) (sSq (sRet (d2 opMod (d1 fInt (d2 opFdiv (dV 2) (dC (.int 8)))) (dCall M__law_power (daC (dV 1) daN)))) sNx)) := (rfl)
theorem ls_end {z : Option D} {x : Option D} {g : List D → Res D} {b f m : Int} (hg : g [.int b] = .ok (.int m)) (h0 : 0 < m) : sSq (sRet (d2 opMod (d1 fInt (d2 opFdiv (dV 2) (dC (.int 8)))) (dCall g (daC (dV 1) daN)))) sNx [z, some (.int b), some (.int f), x] = .rt (.int (f / 8 % m)) := by
  simp only [x_sSq, x_sRet, x_d2, x_d1, x_dCall, x_daC, x_daN, x_dC, x_dV0, x_dVs, rb_ok, o_fdiv (show (0 : Int) < 8 by decide) (show (8 : Int) < 1073741824 by decide), o_int, hg, o_mod h0, x_ofO_some]
theorem law_sum {z : Str} {b : Nat} (hb : b < 1000) : M__law_sum [.str z, .int (b : Int)] = .ok (.int (sh 104729 z.cps.toList / 8 % 2 ^ b)) := by
  obtain ⟨x', e⟩ := ls_loop (a := some (.str z)) (b := some (.int (b : Int))) z.cps.toList 104729 none
  have ei : diStr (dV 0) [some (.str z), some (.int (b : Int)), some (.int 104729), none] = .ok (z.cps.toList.map ch) := rfl
  have h1 : sAs (gN 2) (dC (.int 104729)) [some (.str z), some (.int (b : Int)), none, none] = .nx [some (.str z), some (.int (b : Int)), some (.int 104729), none] := rfl
  have hp : M__law_power [.int (b : Int)] = .ok (.int (2 ^ b)) := law_power hb
  have h0 : (0 : Int) < 2 ^ b := Int.pow_pos (by omega)
  unfold M__law_sum
  refine def2_rt rfl ?_
  rw [b_lsum]
  exact (sq_nx h1).trans ((sq_nx ((x_sFor ei).trans e)).trans (ls_end hp h0))
end K49
/-! PS3: the program's sum of a text is the law's. -/
namespace K49
open DL
open PySem (Str)
theorem dot_mem {i : Int} (hi : i ∈ PW) : mulOk (i : Int) i = true ∧ ∀ c : Int, mulOk c i = true := by
  have h : ∀ k ∈ PW, -(2 ^ 64) < k ∧ k < 2 ^ 64 := by decide +kernel
  have := h i hi
  constructor <;> intros <;> (unfold mulOk; rw [Bool.or_eq_true]; right; exact decide_eq_true this)
theorem ord_c (c : Nat) : fOrd (ch c) = some (.int (c : Int)) := Eq.trans rfl rfl
theorem dot_cons (c : Nat) (k : Int) (cs : List Nat) (ks : List Int) : dot (c :: cs) (k :: ks) = (c : Int) * k + dot cs ks := by simp only [dot]
theorem lcL_cons {g : DG} {c : DT} {e : DE} {s : DSt} {d : D} {ds : List D} : lcL g c e s (d :: ds) = (g d s).bind fun s1 => (c s1).bind fun b => if b = true then (e s1).bind fun x => (lcL g c e s ds).bind fun r => .ok (x :: r) else lcL g c e s ds := rfl
theorem d2_ord {F : D → D → Option D} {a b c d e f : Option D} {u : Nat} {k w : D} (h : F (.int (u : Int)) k = some w) : d2 F (d1 fOrd (dV 6)) (dV 7) [a, b, c, d, e, f, some (ch u), some k] = .ok w := by
  simp only [x_d2, x_d1, x_dV0, x_dVs, rb_ok, ord_c, x_ofO_some, h]
theorem zip_lc {a b c d e f x y : Option D} (cs : List Nat) : ∀ (ks : List Int), (∀ k ∈ ks, k ∈ PW) →
    ∃ L : List Int, lcL (gT [6, 7]) tT (d2 opMulI (d1 fOrd (dV 6)) (dV 7)) [a, b, c, d, e, f, x, y] (((cs.map ch).zip (ks.map D.int)).map fun p => .tup [p.1, p.2]) = .ok (L.map D.int) ∧ L.sum = dot cs ks := by
  induction cs with
  | nil => intro ks _; exact ⟨[], by cases ks <;> rfl, by cases ks <;> rfl⟩
  | cons u cs ih =>
    intro ks h
    cases ks with
    | nil => exact ⟨[], rfl, rfl⟩
    | cons k ks =>
      obtain ⟨L, e1, e2⟩ := ih ks fun k hk => h k (List.mem_cons_of_mem _ hk)
      refine ⟨((u : Int) * k) :: L, ?_, by rw [List.sum_cons, e2, dot_cons]⟩
      have hm := (dot_mem (h k List.mem_cons_self)).2 (u : Int)
      have h1 : gT [6, 7] (.tup [ch u, .int k]) [a, b, c, d, e, f, x, y] = .ok [a, b, c, d, e, f, some (ch u), some (.int k)] := rfl
      have h2 : tT [a, b, c, d, e, f, some (ch u), some (.int k)] = .ok true := rfl
      rw [List.map_cons, List.map_cons, List.zip_cons_cons, List.map_cons, lcL_cons, h1, rb_ok, h2, rb_ok, if_pos rfl, e1]
      rw [d2_ord (o_mul hm), rb_ok, rb_ok, List.map_cons]
theorem intsOf_map : ∀ L : List Int, intsOf (L.map D.int) = some L
  | [] => rfl
  | i :: L => by
    show (intsOf (L.map D.int)).map (i :: ·) = _
    rw [intsOf_map L]
    rfl
theorem o_sumI (L : List Int) : fSum (.lst (L.map D.int)) = some (.int L.sum) := by
  unfold fSum
  simp only [intsOf_map]
theorem cut_mid {z : Str} {pre c rest : List Nat} (h : z.cps.toList = pre ++ (c ++ rest)) (hc : c.length = 32) : (L2.cutS z (some (pre.length : Int)) (some ((pre.length : Int) + 32))).cps.toList = c := by
  have hl : z.length = pre.length + (32 + rest.length) := by
    show z.cps.size = _
    rw [← Array.length_toList, h, List.length_append, List.length_append, hc]
  unfold L2.cutS
  have e : ((pre.length : Int) + 32) = ((pre.length + 32 : Nat) : Int) := by omega
  rw [e, HT.sIx_nat, HT.sIx_nat, hl, h]
  have e1 : min pre.length (pre.length + (32 + rest.length)) = pre.length := by omega
  have e2 : min (pre.length + 32) (pre.length + (32 + rest.length)) = pre.length + 32 := by omega
  rw [e1, e2, List.drop_left, Nat.add_sub_cancel_left, ← hc, List.take_left]
theorem cut_end {z : Str} {pre rest : List Nat} (h : z.cps.toList = pre ++ rest) : (L2.cutS z (some (pre.length : Int)) none).cps.toList = rest := by
  have hl : z.length = pre.length + rest.length := by
    show z.cps.size = _
    rw [← Array.length_toList, h, List.length_append]
  unfold L2.cutS
  rw [HT.sIx_nat, HT.sIx_none, hl, h]
  have e1 : min pre.length (pre.length + rest.length) = pre.length := by omega
  rw [e1, List.drop_left, Nat.add_sub_cancel_left, List.take_length]
def sbE : DE := d1 fSum (dLc (diZip (diStr (dSl (dV 0) (doS (dV 4)) (doS (d2 opAdd (dV 4) (dC (.int 32)))))) (diTup (dC (.tup K_POWERS)))) [6, 7] (gT [6, 7]) tT (d2 opMulI (d1 fOrd (dV 6)) (dV 7)))
def sbB : DS := sSq (sAs (gN 5) sbE) (sSq (sAs (gN 2) (d2 opMod (d2 opAdd (d2 opAdd (d2 opMulI (dV 2) (dC (.int 1756108757816216254))) (dV 5)) (dC (.int 1472633651945887258))) (dC (.int 2305843009213693951)))) sNx)
theorem sl_ok {z : Str} {lo hi : Option Int} (hz : z.length ≤ SL) : opSl lo hi (.str z) = some (.str (L2.cutS z lo hi)) := if_pos hz
theorem sb_e {z : Str} (hz : z.length ≤ SL) {pre c rest : List Nat} (h : z.cps.toList = pre ++ (c ++ rest)) (hc : c.length = 32) {b f w x u v : Option D} :
    sbE [some (.str z), b, f, w, some (.int (pre.length : Int)), x, u, v] = .ok (.int (dot c PW)) := by
  obtain ⟨L, e1, e2⟩ := zip_lc (a := some (.str z)) (b := b) (c := f) (d := w) (e := some (.int (pre.length : Int))) (f := x) (x := none) (y := none) c PW (fun k hk => hk)
  have es : dSl (dV 0) (doS (dV 4)) (doS (d2 opAdd (dV 4) (dC (.int 32)))) [some (.str z), b, f, w, some (.int (pre.length : Int)), x, u, v] = .ok (.str (L2.cutS z (some (pre.length : Int)) (some ((pre.length : Int) + 32)))) := by
    show ((ofO (opSl (some (pre.length : Int)) (some ((pre.length : Int) + 32)) (.str z))) : Res D) = _
    rw [sl_ok hz]
    rfl
  have ei : diZip (diStr (dSl (dV 0) (doS (dV 4)) (doS (d2 opAdd (dV 4) (dC (.int 32)))))) (diTup (dC (.tup K_POWERS))) [some (.str z), b, f, w, some (.int (pre.length : Int)), x, u, v] = .ok (((c.map ch).zip (PW.map D.int)).map fun p => .tup [p.1, p.2]) := by
    unfold diZip diStr diTup
    rw [es, rb_ok]
    simp only [x_dC, rb_ok, cut_mid h hc, ← pw_eq]
    rfl
  have el := x_dLc (vs := [6, 7]) ei (by rw [List.length_map, List.length_zip, List.length_map, hc]; show min 32 _ ≤ 16777216; omega) e1
  unfold sbE
  simp only [x_d1, el, rb_ok, o_sumI, e2, x_ofO_some]
theorem mulC (f : Int) : opMulI (.int f) (.int 1756108757816216254) = some (.int (f * 1756108757816216254)) := o_mul (by unfold mulOk; rw [Bool.or_eq_true]; right; decide)
theorem sb_loop {z : Str} (hz : z.length ≤ SL) {b w u v : Option D} : ∀ (j : Nat) (pre rest : List Nat) (x y : Option D), z.cps.toList = pre ++ rest → 32 * j ≤ rest.length →
    ∃ x' y', forL (gN 4) sbB (rg (pre.length : Int) j 32) [some (.str z), b, some (.int (sh 104729 pre)), w, x, y, u, v] = .nx [some (.str z), b, some (.int (sh 104729 (pre ++ rest.take (32 * j)))), w, x', y', u, v] := by
  intro j
  induction j with
  | zero => intro pre rest x y _ _; exact ⟨x, y, by rw [Nat.mul_zero, List.take_zero, List.append_nil]; rfl⟩
  | succ j ih =>
    intro pre rest x y h hr
    have hc : (rest.take 32).length = 32 := by rw [List.length_take]; omega
    have h' : z.cps.toList = pre ++ (rest.take 32 ++ rest.drop 32) := by rw [List.take_append_drop]; exact h
    have e1 := sb_e (b := b) (f := some (.int (sh 104729 pre))) (w := w) (x := y) (u := u) (v := v) hz h' hc
    obtain ⟨a1, a2⟩ := sh_lt pre 104729 (by decide) (by decide)
    have e2 := chunk32 hc a1 a2
    obtain ⟨x', y', e⟩ := ih (pre ++ rest.take 32) (rest.drop 32) (some (.int (pre.length : Int))) (some (.int (dot (rest.take 32) PW))) (by rw [List.append_assoc]; exact h') (by rw [List.length_drop]; omega)
    refine ⟨x', y', ?_⟩
    have el : ((pre ++ rest.take 32).length : Int) = (pre.length : Int) + 32 := by rw [List.length_append, hc]; omega
    have et : (pre ++ rest.take 32) ++ (rest.drop 32).take (32 * j) = pre ++ rest.take (32 * (j + 1)) := by
      rw [List.append_assoc, Nat.mul_add, Nat.mul_one, Nat.add_comm (32 * j) 32, List.take_add]
    rw [et, el] at e
    rw [rg_succ, x_forN]
    simp only [sbB, x_sSq, x_sAsN, List.set_cons_succ, List.set_cons_zero, e1, x_d2, x_dC, x_dV0, x_dVs, rb_ok, mulC, o_add, o_mod (show (0 : Int) < 2305843009213693951 by decide), x_ofO_some, x_sNx]
    rw [← e2, ← sh_app]
    exact e
def stB : DS := sSq (sAs (gN 2) (d2 opMod (d2 opAdd (d2 opAdd (d2 opMulI (dV 2) (dC (.int 6364136223846793005))) (dC (.int 1442695040888963407))) (d1 fOrd (dV 6))) (dC (.int 2305843009213693951)))) sNx
theorem st_loop {a b w x y v : Option D} : ∀ (cs : List Nat) (f : Int) (u : Option D), ∃ u', forL (gN 6) stB (cs.map ch) [a, b, some (.int f), w, x, y, u, v] = .nx [a, b, some (.int (sh f cs)), w, x, y, u', v]
  | [], f, u => ⟨u, rfl⟩
  | c :: r, f, u => by
    obtain ⟨u', e⟩ := st_loop (a := a) (b := b) (w := w) (x := x) (y := y) (v := v) r ((f * SA + SB + (c : Int)) % SP) (some (ch c))
    refine ⟨u', ?_⟩
    rw [List.map_cons, x_forN]
    simp only [stB, x_sSq, x_sAsN, x_d2, x_d1, x_dC, x_dV0, x_dVs, rb_ok, mulA, o_add, o_mod (show (0 : Int) < 2305843009213693951 by decide), ord_ch, x_ofO_some, List.set_cons_succ, List.set_cons_zero, x_sNx]
    exact e
theorem b_sum : b_sum_by = sSq (sAs (gN 2) (dC (.int 104729))) (sSq (sAs (gN 3) (d2 opSub (d1 fLen (dV 0)) (d2 opMod (d1 fLen (dV 0)) (dC (.int 32))))) (sSq (sFor (diR3 (dC (.int 0)) (dV 3) (dC (.int 32))) (gN 4) sbB) (sSq (sFor (diStr (dSl (dV 0) (doS (dV 3)) doN)) (gN 6) stB)
  (sSq (sRet (d2 opMod (d2 opFdiv (dV 2) (dC (.int 8))) (d2 opShl (dC (.int 1)) (dV 1)))) sNx)))) := (rfl)
/-- the sum of a text -/
def tS (b : Nat) (z : Str) : Int := sh 104729 z.cps.toList / 8 % 2 ^ b
theorem r32n (q : Nat) : PySem.Builtin.Range.rangeSize 0 ((32 * q : Nat) : Int) 32 = (q : Int) := by
  unfold PySem.Builtin.Range.rangeSize
  rw [if_pos (by decide)]
  split <;> omega
theorem r32s {w n : Int} (hw : 0 ≤ w) (hw2 : w < 1000000000) (hn : PySem.Builtin.Range.rangeSize 0 w 32 = n) (h1 : 0 ≤ n) (h2 : n < 1000000000) : PySem.Builtin.Range.small 0 w 32 = true := by
  unfold PySem.Builtin.Range.small
  rw [hn]
  simp only [PySem.Builtin.Range.rangeFitsLong, Bool.and_eq_true, Bool.or_eq_true, decide_eq_true_eq, beq_iff_eq, show ((32 : Int) > 0) from by decide, if_true]
  omega
theorem x_diR3u {w n : Int} {a : DE} {s : DSt} (h : a s = .ok (.int w)) (hs : PySem.Builtin.Range.small 0 w 32 = true) (hn : PySem.Builtin.Range.rangeSize 0 w 32 = n) (h1 : 0 ≤ n) : diR3 (dC (.int 0)) a (dC (.int 32)) s = .ok (rg 0 n.toNat 32) := by
  unfold diR3
  simp only [x_daC, h, x_dC, x_daN, rb_ok]
  rw [if_pos ⟨by decide, by decide, hs, by rw [hn]; exact h1⟩, hn]
theorem r32 {q : Nat} (hq : q < 1000000) {s : DSt} {a : DE} (h : a s = .ok (.int ((32 * q : Nat) : Int))) : diR3 (dC (.int 0)) a (dC (.int 32)) s = .ok (rg 0 q 32) :=
  x_diR3u h (r32s (Int.natCast_nonneg _) (by omega) (r32n q) (Int.natCast_nonneg _) (by omega)) (r32n q) (Int.natCast_nonneg _)
theorem sum_by {z : Str} (hz : z.length ≤ SL) {b : Nat} (hb : b < 1000) : M_sum_by [.str z, .int (b : Int)] = .ok (.int (tS b z)) := by
  have hz' : z.cps.toList.length ≤ 16777216 := hz
  have hlen : z.length = z.cps.toList.length := rfl
  obtain ⟨q, hq⟩ : ∃ q, q = z.cps.toList.length / 32 := ⟨_, rfl⟩
  have e0 : z.cps.toList = ([] : List Nat) ++ z.cps.toList := rfl
  have hle : 32 * q ≤ z.cps.toList.length := by omega
  obtain ⟨x', y', e1⟩ := sb_loop (b := some (.int (b : Int))) (w := some (.int ((32 * q : Nat) : Int))) (u := none) (v := none) hz q [] z.cps.toList none none e0 hle
  rw [List.nil_append] at e1
  have hpre : (z.cps.toList.take (32 * q)).length = 32 * q := by rw [List.length_take]; omega
  have hcut := cut_end (z := z) (pre := z.cps.toList.take (32 * q)) (rest := z.cps.toList.drop (32 * q)) (List.take_append_drop _ _).symm
  rw [hpre] at hcut
  obtain ⟨u', e2⟩ := st_loop (a := some (.str z)) (b := some (.int (b : Int))) (w := some (.int ((32 * q : Nat) : Int))) (x := x') (y := y') (v := none) (z.cps.toList.drop (32 * q)) (sh 104729 (z.cps.toList.take (32 * q))) none
  rw [← sh_app, List.take_append_drop] at e2
  have h1 : sAs (gN 2) (dC (.int 104729)) [some (.str z), some (.int (b : Int)), none, none, none, none, none, none] = .nx [some (.str z), some (.int (b : Int)), some (.int 104729), none, none, none, none, none] := rfl
  have hsub : (z.length : Int) - (z.length : Int) % 32 = ((32 * q : Nat) : Int) := by rw [hlen]; omega
  have h2 : sAs (gN 3) (d2 opSub (d1 fLen (dV 0)) (d2 opMod (d1 fLen (dV 0)) (dC (.int 32)))) [some (.str z), some (.int (b : Int)), some (.int 104729), none, none, none, none, none] = .nx [some (.str z), some (.int (b : Int)), some (.int 104729), some (.int ((32 * q : Nat) : Int)), none, none, none, none] := by
    simp only [x_sAsN, x_d2, x_d1, x_dC, x_dV0, x_dVs, rb_ok, o_lenS hz, o_mod (show (0 : Int) < 32 by decide), o_sub, x_ofO_some, List.set_cons_succ, List.set_cons_zero, hsub]
  have e3 : diR3 (dC (.int 0)) (dV 3) (dC (.int 32)) [some (.str z), some (.int (b : Int)), some (.int 104729), some (.int ((32 * q : Nat) : Int)), none, none, none, none] = .ok (rg 0 q 32) := r32 (by omega) rfl
  have e4 : diStr (dSl (dV 0) (doS (dV 3)) doN) [some (.str z), some (.int (b : Int)), some (.int (sh 104729 (z.cps.toList.take (32 * q)))), some (.int ((32 * q : Nat) : Int)), x', y', none, none] = .ok ((z.cps.toList.drop (32 * q)).map ch) := by
    have es : dSl (dV 0) (doS (dV 3)) doN [some (.str z), some (.int (b : Int)), some (.int (sh 104729 (z.cps.toList.take (32 * q)))), some (.int ((32 * q : Nat) : Int)), x', y', none, none] = .ok (.str (L2.cutS z (some ((32 * q : Nat) : Int)) none)) := by
      show ((ofO (opSl (some ((32 * q : Nat) : Int)) none (.str z))) : Res D) = _
      rw [sl_ok hz]
      rfl
    unfold diStr
    rw [es, rb_ok]
    simp only [hcut]
    rfl
  have hs : opShl (.int 1) (.int (b : Int)) = some (.int (2 ^ b)) := by
    show (if 0 ≤ (b : Int) ∧ (b : Int) ≤ 1000000 ∧ (1 : Int).natAbs < 2 ^ 64 then some (D.int (1 * 2 ^ (b : Int).toNat)) else none) = _
    rw [if_pos ⟨by omega, by omega, by decide⟩, Int.toNat_natCast, Int.one_mul]
  have h0 : (0 : Int) < 2 ^ b := Int.pow_pos (by omega)
  unfold M_sum_by
  refine def2_rt rfl ?_
  rw [b_sum]
  refine (sq_nx h1).trans ((sq_nx h2).trans ((sq_nx ((x_sFor e3).trans e1)).trans ((sq_nx ((x_sFor e4).trans e2)).trans ?_)))
  simp only [x_sSq, x_sRet, x_d2, x_dC, x_dV0, x_dVs, rb_ok, o_fdiv (show (0 : Int) < 8 by decide) (show (8 : Int) < 1073741824 by decide), hs, o_mod h0, x_ofO_some]
  rfl
end K49
/-! QA: more on how meanings are worked out. -/
namespace DL
open PySem (Str)
/-! ### keyed lists, each key once -/
section
variable {ι α : Type}
def KN (l : List (Key × α)) : Prop := (l.map (·.1)).Nodup
theorem KN.cons {k : Key} {v : α} {l : List (Key × α)} : KN ((k, v) :: l) ↔ (∀ x ∈ l, x.1 ≠ k) ∧ KN l := by
  unfold KN
  rw [List.map_cons, List.nodup_cons]
  constructor
  · rintro ⟨h1, h2⟩
    exact ⟨fun x hx e => h1 (List.mem_map.mpr ⟨x, hx, e⟩), h2⟩
  · rintro ⟨h1, h2⟩
    refine ⟨fun h => ?_, h2⟩
    obtain ⟨x, hx, e⟩ := List.mem_map.mp h
    exact h1 x hx e
theorem lk_none {l : List (Key × α)} {k : Key} (h : ∀ x ∈ l, x.1 ≠ k) : lk l k = none := by
  unfold lk
  rw [Option.map_eq_none_iff, List.find?_eq_none]
  intro x hx e
  exact h x hx (of_decide_eq_true e)
theorem lk_mem {l : List (Key × α)} {k : Key} {v : α} (h : lk l k = some v) : (k, v) ∈ l := by
  unfold lk at h
  rw [Option.map_eq_some_iff] at h
  obtain ⟨x, h1, h2⟩ := h
  have h3 := List.find?_some h1
  have h4 := List.mem_of_find?_eq_some h1
  have e : x.1 = k := of_decide_eq_true h3
  rw [← e, ← h2]
  exact h4
theorem lk_of {k : Key} {v : α} : ∀ {l : List (Key × α)}, KN l → (k, v) ∈ l → lk l k = some v
  | [], _, h => by cases h
  | (k', v') :: l, hn, h => by
    obtain ⟨h1, h2⟩ := KN.cons.mp hn
    rw [lk_cons]
    rcases List.mem_cons.mp h with e | h
    · cases e
      rw [if_pos rfl]
    · rw [if_neg (fun e => h1 _ h e.symm), lk_of h2 h]
theorem pt_new {l : List (Key × α)} {k : Key} {v : α} (h : ∀ x ∈ l, x.1 ≠ k) : pt l k v = l ++ [(k, v)] := by
  unfold pt
  rw [if_neg]
  intro e
  obtain ⟨x, hx, e⟩ := List.any_eq_true.mp e
  exact h x hx (of_decide_eq_true e)
theorem lk_map {key : ι → Key} {val : ι → α} {l : List ι} (hn : (l.map key).Nodup) {y : ι} (hy : y ∈ l) : lk (l.map fun x => (key x, val x)) (key y) = some (val y) :=
  lk_of (by unfold KN; rw [List.map_map]; exact hn) (List.mem_map.mpr ⟨y, hy, rfl⟩)
theorem kn_map {key : ι → Key} {val : ι → α} {l : List ι} (hn : (l.map key).Nodup) : KN (l.map fun x => (key x, val x)) := by
  unfold KN; rw [List.map_map]; exact hn
end
/-- a dict built key by key, each entry from earlier ones -/
theorem bup {ι : Type} {key : ι → Key} {val : ι → D} {kids : ι → List ι} {L : List ι} {S : List (Key × D) → DSt → Prop} {g : DG} {b : DS} {el : ι → D}
    (hn : (L.map key).Nodup) (hk : ∀ pre x post, L = pre ++ x :: post → ∀ y ∈ kids x, y ∈ pre) (hl : L.length < 1000000)
    (step : ∀ x kv s, x ∈ L → S kv s → kv.length < 1000000 → (∀ y ∈ kids x, lk kv (key y) = some (val y)) → ∃ s1 s2, g (el x) s = .ok s1 ∧ b s1 = .nx s2 ∧ S (pt kv (key x) (val x)) s2)
    {s0 : DSt} (h0 : S [] s0) : ∃ s', forL g b (L.map el) s0 = .nx s' ∧ S (L.map fun x => (key x, val x)) s' := by
  have go : ∀ (post pre : List ι) (s : DSt), L = pre ++ post → S (pre.map fun x => (key x, val x)) s → ∃ s', forL g b (post.map el) s = .nx s' ∧ S (L.map fun x => (key x, val x)) s' := by
    intro post
    induction post with
    | nil =>
      intro pre s e h
      rw [List.append_nil] at e
      exact ⟨s, rfl, by rw [e]; exact h⟩
    | cons x post ih =>
      intro pre s e h
      have hx : x ∈ L := by rw [e]; simp
      have hnp : (pre.map key).Nodup := by
        rw [e, List.map_append, List.nodup_append] at hn
        exact hn.1
      have hd : ∀ z ∈ pre.map fun x => (key x, val x), z.1 ≠ key x := by
        intro z hz ez
        obtain ⟨y, hy, rfl⟩ := List.mem_map.mp hz
        rw [e, List.map_append, List.nodup_append] at hn
        exact hn.2.2 (key y) (List.mem_map.mpr ⟨y, hy, rfl⟩) (key x) (by simp) ez
      have hlen : pre.length < 1000000 := by rw [e, List.length_append] at hl; omega
      obtain ⟨s1, s2, e1, e2, e3⟩ := step x (pre.map fun x => (key x, val x)) s hx h (by rw [List.length_map]; exact hlen) fun y hy => lk_map hnp (hk pre x post e y hy)
      rw [pt_new hd] at e3
      obtain ⟨s', e4, e5⟩ := ih (pre ++ [x]) s2 (by rw [e]; simp) (by rw [List.map_append]; exact e3)
      refine ⟨s', ?_, e5⟩
      rw [List.map_cons, forL_cons, e1]
      simp only [e2]
      exact e4
  exact go L [] s0 rfl h0
/-! ### equality -/
mutual
theorem D.eqv_refl : ∀ d : D, d.okS = true → PySem.PyData.eqv d.p d.p = true
  | .non, _ => by simp only [D.p, PySem.PyData.eqv]
  | .bl b, _ => by simp only [D.p, PySem.PyData.eqv, beq_self_eq_true]
  | .int i, _ => by simp only [D.p, PySem.PyData.eqv, beq_self_eq_true]
  | .str x, _ => by simp only [D.p, PySem.PyData.eqv, beq_self_eq_true]
  | .tup xs, h => by
    simp only [D.p, PySem.PyData.eqv]
    exact D.eqvs_refl xs (by simpa only [D.okS] using h)
  | .lst xs, h => by
    simp only [D.p, PySem.PyData.eqv]
    exact D.eqvs_refl xs (by simpa only [D.okS] using h)
  | .dct _, h => by simp only [D.okS] at h; cases h
  | .scr _, h => by simp only [D.okS] at h; cases h
theorem D.eqvs_refl : ∀ ds : List D, D.okSs ds = true → PySem.PyData.eqvAll (D.ps ds) (D.ps ds) = true
  | [], _ => by simp only [D.ps, PySem.PyData.eqvAll]
  | d :: ds, h => by
    simp only [D.okSs, Bool.and_eq_true] at h
    simp only [D.ps, PySem.PyData.eqvAll, Bool.and_eq_true]
    exact ⟨D.eqv_refl d h.1, D.eqvs_refl ds h.2⟩
end
theorem D.okE_okS {d : D} (h : d.okE = true) : d.okS = true := by
  unfold D.okE at h
  simp only [Bool.and_eq_true] at h
  exact h.1
theorem eqB_def {d e : D} (h : d.isDct = false) : opEqB d e = if (d.okE && e.okE) = true then some (D.eqv d e) else none := by
  cases d with
  | dct _ => cases h
  | _ => cases e <;> rfl
theorem eqB_self {d : D} (h : d.okE = true) : opEqB d d = some true := by
  have hs := D.okE_okS h
  have e := D.eqv_refl d hs
  have hd : d.isDct = false := by
    cases d with
    | dct _ => simp only [D.okS] at hs; cases hs
    | _ => rfl
  rw [eqB_def hd, h]
  show some (D.eqv _ _) = _
  unfold D.eqv
  rw [e]
theorem eq_self {d : D} (h : d.okE = true) : opEq d d = some (.bl true) := by
  unfold opEq
  rw [eqB_self h]
theorem ne_self {d : D} (h : d.okE = true) : opNe d d = some (.bl false) := by
  unfold opNe
  rw [eqB_self h]
  rfl
/-- equal dicts of flat values -/
theorem ne_dct {a b : List (Key × D)} (ha : dctFlat a = true) (hb : dctFlat b = true) (hl : a.length = b.length) (h : ∀ kv ∈ a, lk b kv.1 = some kv.2) : opNe (.dct a) (.dct b) = some (.bl false) := by
  have e : dctEq a b = true := by
    unfold dctEq
    rw [Bool.and_eq_true]
    refine ⟨beq_iff_eq.mpr hl, List.all_eq_true.mpr fun kv hkv => ?_⟩
    rw [h kv hkv]
    unfold dctFlat at ha
    have := List.all_eq_true.mp ha kv hkv
    rw [Bool.and_eq_true] at this
    exact D.eqv_refl _ (D.okE_okS this.2)
  have e2 : opEqB (.dct a) (.dct b) = some true := by
    show (if (dctFlat a && dctFlat b) = true then some (dctEq a b) else none) = _
    rw [ha, hb, e]
    rfl
  unfold opNe
  rw [e2]
  rfl
end DL
/-! QB: numbers and values as texts. -/
namespace DL
open PySem (Str)
theorem wh_step {c : DT} {b : DS} {n : Nat} {s s1 : DSt} (h : c s = .ok true) (h2 : b s = .nx s1) : whileN c b (n + 1) s = whileN c b n s1 := by
  conv => lhs; unfold whileN
  rw [h]
  simp only
  rw [h2]
theorem wh_end {c : DT} {b : DS} {n : Nat} {s : DSt} (h : c s = .ok false) : whileN c b (n + 1) s = .nx s := by
  unfold whileN
  rw [h]
/-- numbers that are written -/
def Nm (i : Int) : Prop := 0 ≤ i ∧ i < 100000000000000000000
def nS (i : Int) : Str := Str.ofString (toString i)
theorem fStr_n {i : Int} (h : Nm i) : fStr (.int i) = some (.str (nS i)) := by
  have h2 : i.natAbs.log2 < 1920 := by
    by_cases z : i.natAbs = 0
    · rw [z]; decide
    · have h1 : i.natAbs < 2 ^ 200 := by
        have : i.natAbs < 100000000000000000000 := by have := h.1; have := h.2; omega
        exact Nat.lt_trans this (by decide)
      have := (Nat.log2_lt z).mpr h1
      omega
  exact if_pos h2
theorem nS_len {i : Int} (h : Nm i) : (nS i).length ≤ 20 := PyProof.Rows.toString_length_le h.1 (by decide) (by have := h.2; omega)
theorem sOk_app {a b : Str} : sOk (a ++ b) = (sOk a && sOk b) := by
  show ((a.cps ++ b.cps).toList.all _) = _
  rw [Array.toList_append, List.all_append]
  rfl
theorem sOk_of (s : String) : sOk (Str.ofString s) = true := by
  rw [Str.ofString_eq_toList]
  show ((s.toList.map Char.toNat).toArray.toList.all _) = true
  rw [List.all_eq_true]
  intro x hx
  rw [List.toList_toArray, List.mem_map] at hx
  obtain ⟨c, _, rfl⟩ := hx
  have := c.valid
  rw [decide_eq_true_eq]
  rcases this with h | h
  · show c.val.toNat < _; omega
  · show c.val.toNat < _; omega
theorem len_app (a b : Str) : (a ++ b).length = a.length + b.length := by
  show (a.cps ++ b.cps).size = _
  rw [Array.size_append]
  rfl
theorem o_addS {a b : Str} (h : a.length + b.length ≤ SL) : opAdd (.str a) (.str b) = some (.str (a ++ b)) := if_pos h
theorem o_join1 (a x : Str) (h : x.length + a.length ≤ SL) : mJoin (.str a) (.lst [.str x]) = some (.str x) := by
  show (if ([x].map (·.length)).sum + [x].length * a.length ≤ SL then some (D.str (PySem.Txt.join a [x])) else none) = _
  rw [if_pos (by simpa using h)]
  rfl
end DL
namespace K49
open DL
open PySem (Str)
/-- a value's text -/
def pk : D → Str
  | .int i => "i" ++ nS i ++ ";"
  | .str x => "t" ++ nS (x.length : Int) ++ ":" ++ x
  | _ => ""
/-- a value of a leaf, of one that is told -/
def PV (v : D) : Prop := (∃ i, v = .int i ∧ Nm i) ∨ ∃ s : Str, v = .str s ∧ s.length ≤ 60000 ∧ sOk s = true
theorem LV.pv {v : D} (h : LV v) : PV v := by
  rcases h with ⟨i, rfl, h1, h2⟩ | ⟨s, rfl, _, h2, h3⟩
  · exact .inl ⟨i, rfl, by omega, by omega⟩
  · exact .inr ⟨s, rfl, h2, h3⟩
theorem pk_len {v : D} (h : PV v) : (pk v).length ≤ 60022 := by
  have l1 : ("i" : Str).length = 1 := by decide +kernel
  have l2 : (";" : Str).length = 1 := by decide +kernel
  have l3 : ("t" : Str).length = 1 := by decide +kernel
  have l4 : (":" : Str).length = 1 := by decide +kernel
  rcases h with ⟨i, rfl, hi⟩ | ⟨s, rfl, h2, _⟩
  · have := nS_len hi
    show ("i" ++ nS i ++ ";" : Str).length ≤ _
    rw [len_app, len_app]
    omega
  · have := nS_len (i := (s.length : Int)) ⟨by omega, by omega⟩
    show ("t" ++ nS (s.length : Int) ++ ":" ++ s : Str).length ≤ _
    rw [len_app, len_app, len_app]
    omega
theorem pk_ok {v : D} (h : PV v) : sOk (pk v) = true := by
  rcases h with ⟨i, rfl, hi⟩ | ⟨s, rfl, _, h2⟩
  · show sOk ("i" ++ nS i ++ ";" : Str) = _
    rw [sOk_app, sOk_app, nS, sOk_of, sOk_of, sOk_of]; rfl
  · show sOk ("t" ++ nS (s.length : Int) ++ ":" ++ s : Str) = _
    rw [sOk_app, sOk_app, sOk_app, nS, sOk_of, sOk_of, sOk_of, h2]; rfl
open Lean in
local macro_rules
  | `(tactic| simp_arith [$ls,*]) => `(tactic| simp only [x_def1, x_def2, x_def3, x_def4, x_def5, List.cons_append, List.nil_append, List.replicate, Nat.reduceSub, List.map_cons, List.map_nil, x_sSq, x_sIf, x_sRet, x_sE, x_sAsN, x_dV0, x_dVs, x_dC, x_d1, x_d2, x_dCall, x_dCallF, x_daC, x_daN, rb_ok, x_ofO_some, x_dB, x_boolR, x_dTr, x_dtAnd, x_dtOr, x_dtNot, x_dAnd, x_dNot, x_dIfE, x_dChain, x_sNx, x_sApp, x_ownL0, x_ownLs, x_ownD0, x_ownDs, x_sPut, x_sRai, List.set_cons_zero, List.set_cons_succ, Bool.not_true, Bool.not_false, Bool.false_eq_true, if_true, if_false, x_dTup, x_dLst, sl0, sl1, sl2, sl3, sl4, o_add, o_sub, o_eq, o_ne, o_lt, o_le, o_gt, o_ge, o_lenL, o_lenT, o_trB, o_trL, o_trT, o_int, $ls,*])
/-- the text that one value adds -/
theorem pk_eq {v : D} (h : PV v) {s : DSt} {i : Nat} {xs : List D} (hv : dV 3 s = .ok v) (ho : ownL s 2 = some []) :
    (sIf (dTr (d1 fIsStr (dV 3))) (sSq (sApp 2 (d2 opAdd (d2 opAdd (d2 opAdd (dC (.str "t")) (d1 fStr (d1 fLen (dV 3)))) (dC (.str ":"))) (dV 3))) sNx) (sSq (sApp 2 (d2 opAdd (d2 opAdd (dC (.str "i")) (d1 fStr (dV 3))) (dC (.str ";")))) sNx)) s = .nx (s.set 2 (some (.lst [.str (pk v)]))) := by
  have l1 : ("i" : Str).length = 1 := by decide +kernel
  have l2 : (";" : Str).length = 1 := by decide +kernel
  have l3 : ("t" : Str).length = 1 := by decide +kernel
  have l4 : (":" : Str).length = 1 := by decide +kernel
  have hnil : (([] : List D).length < SL) = True := eq_true (by show 0 < 16777216; omega)
  rcases h with ⟨i, rfl, hi⟩ | ⟨z, rfl, h2, _⟩
  · have := nS_len hi
    have e0 : fIsStr (.int i) = some (.bl false) := rfl
    have e1 : opAdd (.str "i") (.str (nS i)) = some (.str ("i" ++ nS i)) := o_addS (by show _ ≤ 16777216; omega)
    have e2 : opAdd (.str ("i" ++ nS i)) (.str ";") = some (.str ("i" ++ nS i ++ ";")) := o_addS (by rw [len_app]; show _ ≤ 16777216; omega)
    simp_arith [hv, e0, fStr_n hi, e1, e2, ho, hnil]
    rfl
  · have hn : Nm (z.length : Int) := ⟨by omega, by omega⟩
    have := nS_len hn
    have e0 : fIsStr (.str z) = some (.bl true) := rfl
    have el : fLen (.str z) = some (.int z.length) := o_lenS (by show _ ≤ 16777216; omega)
    have e1 : opAdd (.str "t") (.str (nS z.length)) = some (.str ("t" ++ nS z.length)) := o_addS (by show _ ≤ 16777216; omega)
    have e2 : opAdd (.str ("t" ++ nS z.length)) (.str ":") = some (.str ("t" ++ nS z.length ++ ":")) := o_addS (by rw [len_app]; show _ ≤ 16777216; omega)
    have e3 : opAdd (.str ("t" ++ nS z.length ++ ":")) (.str z) = some (.str ("t" ++ nS z.length ++ ":" ++ z)) := o_addS (by rw [len_app, len_app]; show _ ≤ 16777216; omega)
    simp_arith [hv, e0, fStr_n hn, el, e1, e2, e3, ho, hnil]
    rfl
def pkI : DS := sIf (dTr (d1 fIsStr (dV 3))) (sSq (sApp 2 (d2 opAdd (d2 opAdd (d2 opAdd (dC (.str "t")) (d1 fStr (d1 fLen (dV 3)))) (dC (.str ":"))) (dV 3))) sNx) (sSq (sApp 2 (d2 opAdd (d2 opAdd (dC (.str "i")) (d1 fStr (dV 3))) (dC (.str ";")))) sNx)
def pkB (f : D → Option D) (u : DS) : DS := sSq (sPop (gN 3) 1) (sSq (sIf (dTr (d1 f (dV 3))) (sSq (sApp 2 (dC (.str ")"))) sNx) (sSq (sIf (dTr (d1 fIsTup (dV 3))) u (sSq pkI sNx)) sNx)) sNx)
def pkAll (f : D → Option D) (u : DS) : DS := sSq (sAs (gN 1) (dLst (daC (dV 0) daN))) (sSq (sAs (gN 2) (dLst daN)) (sSq (sWh (dTr (dV 1)) (pkB f u)) (sSq (sRet (dSm mJoin (dC (.str "")) (dV 2))) sNx)))
theorem pk_body {v : D} (h : PV v) {f : D → Option D} {u : DS} (hf : f v = some (.bl false)) : pkB f u [some v, some (.lst [v]), some (.lst []), none] = .nx [some v, some (.lst []), some (.lst [.str (pk v)]), some v] := by
  have e1 : sPop (gN 3) 1 [some v, some (.lst [v]), some (.lst []), none] = .nx [some v, some (.lst []), some (.lst []), some v] := x_sPop (xs := []) rfl
  have e2 : fIsTup v = some (.bl false) := by rcases h with ⟨i, rfl, hi⟩ | ⟨z, rfl, h2, _⟩ <;> rfl
  have e3 : pkI [some v, some (.lst []), some (.lst []), some v] = .nx [some v, some (.lst []), some (.lst [.str (pk v)]), some v] := pk_eq (i := 0) (xs := []) h rfl rfl
  unfold pkB
  rw [sq_nx e1]
  simp_arith [hf, e2, e3]
theorem pk_all {v : D} (h : PV v) {f : D → Option D} {u : DS} (hf : f v = some (.bl false)) : pkAll f u [some v, none, none, none] = .rt (.str (pk v)) := by
  have hl := pk_len h
  have e1 : sWh (dTr (dV 1)) (pkB f u) [some v, some (.lst [v]), some (.lst []), none] = .nx [some v, some (.lst []), some (.lst [.str (pk v)]), some v] := by
    show whileN (dTr (dV 1)) (pkB f u) (1048574 + 1 + 1) _ = _
    rw [wh_step rfl (pk_body h hf), wh_end rfl]
  have e2 : dSm mJoin (dC (.str "")) (dV 2) [some v, some (.lst []), some (.lst [.str (pk v)]), some v] = .ok (.str (pk v)) := by
    show (ofO (mJoin (.str "") (.lst [.str (pk v)])) : Res D) = _
    rw [o_join1 _ _ (by show (pk v).length + 0 ≤ 16777216; omega)]
    rfl
  unfold pkAll
  simp_arith [e1, e2]
theorem packed_text {v : D} (h : PV v) : M_packed_text [v] = .ok (.str (pk v)) := by
  unfold M_packed_text
  exact def1_rt rfl (pk_all h rfl)
theorem law_packed {v : D} (h : PV v) : M__law_packed [v] = .ok (.str (pk v)) := by
  unfold M__law_packed
  refine def1_rt rfl (pk_all (f := fIsLst) (u := sNo) h ?_)
  rcases h with ⟨i, rfl, hi⟩ | ⟨z, rfl, h2, _⟩ <;> rfl
end K49
/-! QC: nodes, texts and roots of any tree. -/
namespace K49
open DL
open PySem (Str)
open Lean in
local macro_rules
  | `(tactic| simp_arith [$ls,*]) => `(tactic| simp only [x_def1, x_def2, x_def3, x_def4, x_def5, List.cons_append, List.nil_append, List.replicate, Nat.reduceSub, List.map_cons, List.map_nil, x_sSq, x_sIf, x_sRet, x_sE, x_sAsN, x_dV0, x_dVs, x_dC, x_d1, x_d2, x_dCall, x_dCallF, x_daC, x_daN, rb_ok, x_ofO_some, x_dB, x_boolR, x_dTr, x_dtAnd, x_dtOr, x_dtNot, x_dAnd, x_dNot, x_dIfE, x_dChain, x_sNx, x_sApp, x_ownL0, x_ownLs, x_ownD0, x_ownDs, x_sPut, x_sRai, List.set_cons_zero, List.set_cons_succ, Bool.not_true, Bool.not_false, Bool.false_eq_true, if_true, if_false, x_dTup, x_dLst, sl0, sl1, sl2, sl3, sl4, o_add, o_sub, o_eq, o_ne, o_lt, o_le, o_gt, o_ge, o_lenL, o_lenT, o_trB, o_trL, o_trT, o_int, $ls,*])
/-- the nodes of a tree at a place -/
def nT : List Bool → T → List (List Bool × T)
  | p, .fork m l r => (p, .fork m l r) :: (nT (p ++ [false]) l ++ nT (p ++ [true]) r)
  | p, t => [(p, t)]
theorem nT_leaf {p : List Bool} {t : T} (h : isFork t = false) : nT p t = [(p, t)] := by
  cases t <;> first | rfl | cases h
theorem nT_fork (p : List Bool) (m : Int) (l r : T) : nT p (.fork m l r) = (p, .fork m l r) :: (nT (p ++ [false]) l ++ nT (p ++ [true]) r) := by
  rw [nT]
def nP (x : List Bool × T) : D := .tup [.str (pS x.1), x.2.d]
theorem nT_pos (p : List Bool) (t : T) : 1 ≤ (nT p t).length := by
  cases t <;> simp [nT]
theorem nT_len : ∀ (t : T) (p : List Bool), (nT p t).length + 1 ≤ 2 ^ (ht t + 1)
  | .fork m l r, p => by
    rw [nT_fork, List.length_cons, List.length_append]
    have h1 := nT_len l (p ++ [false])
    have h2 := nT_len r (p ++ [true])
    have e : ht (.fork m l r) = max (ht l) (ht r) + 1 := rfl
    have a1 : 2 ^ (ht l + 1) ≤ 2 ^ (max (ht l) (ht r) + 1) := Nat.pow_le_pow_right (by omega) (by omega)
    have a2 : 2 ^ (ht r + 1) ≤ 2 ^ (max (ht l) (ht r) + 1) := Nat.pow_le_pow_right (by omega) (by omega)
    rw [e, Nat.pow_succ 2 (max (ht l) (ht r) + 1)]
    omega
  | .non, _ => by simp [nT, ht]
  | .leaf _ _, _ => by simp [nT, ht]
  | .shut _ _, _ => by simp [nT, ht]
  | .cut _ _, _ => by simp [nT, ht]
theorem nT_small {t : T} (h : ht t ≤ 16) (p : List Bool) : (nT p t).length ≤ 131071 := by
  have h1 := nT_len t p
  have h2 : 2 ^ (ht t + 1) ≤ 2 ^ 17 := Nat.pow_le_pow_right (by omega) (by omega)
  have h3 : 2 ^ 17 = 131072 := by decide
  omega
def fits (x : List Bool × T) : Prop := x.1.length + ht x.2 ≤ 16
theorem nT_fits : ∀ (t : T) (p : List Bool), p.length + ht t ≤ 16 → ∀ x ∈ nT p t, fits x
  | .fork m l r, p, h, x, hx => by
    have e : ht (.fork m l r) = max (ht l) (ht r) + 1 := rfl
    rw [nT_fork] at hx
    rcases List.mem_cons.mp hx with rfl | hx
    · exact h
    · rcases List.mem_append.mp hx with hx | hx
      · exact nT_fits l _ (by simp only [List.length_append, List.length_singleton]; omega) x hx
      · exact nT_fits r _ (by simp only [List.length_append, List.length_singleton]; omega) x hx
  | .non, p, h, x, hx => by rw [nT_leaf rfl, List.mem_singleton] at hx; rw [hx]; exact h
  | .leaf _ _, p, h, x, hx => by rw [nT_leaf rfl, List.mem_singleton] at hx; rw [hx]; exact h
  | .shut _ _, p, h, x, hx => by rw [nT_leaf rfl, List.mem_singleton] at hx; rw [hx]; exact h
  | .cut _ _, p, h, x, hx => by rw [nT_leaf rfl, List.mem_singleton] at hx; rw [hx]; exact h
/-- a node's sides with their places -/
def kT (x : List Bool × T) : List (List Bool × T) := match x.2 with
  | .fork _ l r => [(x.1 ++ [false], l), (x.1 ++ [true], r)]
  | _ => []
theorem nT_kT (x : List Bool × T) : nT x.1 x.2 = x :: (kT x).flatMap fun y => nT y.1 y.2 := by
  obtain ⟨p, t⟩ := x
  cases t with
  | fork m l r => rw [nT_fork]; simp [kT]
  | _ => rfl
theorem kT_fits {x : List Bool × T} (h : fits x) : ∀ y ∈ kT x, fits y := by
  obtain ⟨p, t⟩ := x
  unfold fits at h
  intro y hy
  cases t with
  | fork m l r =>
    have e : ht (.fork m l r) = max (ht l) (ht r) + 1 := rfl
    simp only [e] at h
    simp only [kT, List.mem_cons, List.not_mem_nil, or_false] at hy
    rcases hy with rfl | rfl <;> (unfold fits; simp only [List.length_append, List.length_singleton]; omega)
  | _ => simp [kT] at hy
/-- every node's sides come behind it -/
theorem nT_kids : ∀ (t : T) (p : List Bool) (pre : List (List Bool × T)) (x : List Bool × T) (post : List (List Bool × T)), nT p t = pre ++ x :: post → ∀ y ∈ kT x, y ∈ post
  | t, p, [], x, post, e, y, hy => by
    have h := nT_kT (p, t)
    simp only at h
    rw [e, List.nil_append] at h
    injection h with h1 h2
    rw [h2, ← h1]
    refine List.mem_flatMap.mpr ⟨y, hy, ?_⟩
    rw [nT_kT]
    exact List.mem_cons_self
  | .fork m l r, p, z :: pre, x, post, e, y, hy => by
    rw [nT_fork, List.cons_append] at e
    injection e with _ e
    rcases List.append_eq_append_iff.mp e with ⟨c, h1, h2⟩ | ⟨c, h1, h2⟩
    · exact nT_kids r _ c x post h2 y hy
    · cases c with
      | nil => exact nT_kids r _ [] x post (by simpa using h2.symm) y hy
      | cons w c =>
        rw [List.cons_append] at h2
        injection h2 with h3 h4
        rw [h4]
        exact List.mem_append_left _ (nT_kids l _ pre x c (by rw [h1, h3]) y hy)
  | .non, p, z :: pre, x, post, e, y, hy => by rw [nT_leaf rfl, List.cons_append] at e; injection e with _ e; simp at e
  | .leaf _ _, p, z :: pre, x, post, e, y, hy => by rw [nT_leaf rfl, List.cons_append] at e; injection e with _ e; simp at e
  | .shut _ _, p, z :: pre, x, post, e, y, hy => by rw [nT_leaf rfl, List.cons_append] at e; injection e with _ e; simp at e
  | .cut _ _, p, z :: pre, x, post, e, y, hy => by rw [nT_leaf rfl, List.cons_append] at e; injection e with _ e; simp at e
/-- each place once -/
theorem nT_under : ∀ (t : T) (p : List Bool), ∀ x ∈ nT p t, ∃ q, x.1 = p ++ q
  | .fork m l r, p, x, hx => by
    rw [nT_fork] at hx
    rcases List.mem_cons.mp hx with rfl | hx
    · exact ⟨[], by simp⟩
    · rcases List.mem_append.mp hx with hx | hx
      · obtain ⟨q, e⟩ := nT_under l _ x hx
        exact ⟨false :: q, by rw [e]; simp⟩
      · obtain ⟨q, e⟩ := nT_under r _ x hx
        exact ⟨true :: q, by rw [e]; simp⟩
  | .non, p, x, hx => by rw [nT_leaf rfl, List.mem_singleton] at hx; rw [hx]; exact ⟨[], by simp⟩
  | .leaf _ _, p, x, hx => by rw [nT_leaf rfl, List.mem_singleton] at hx; rw [hx]; exact ⟨[], by simp⟩
  | .shut _ _, p, x, hx => by rw [nT_leaf rfl, List.mem_singleton] at hx; rw [hx]; exact ⟨[], by simp⟩
  | .cut _ _, p, x, hx => by rw [nT_leaf rfl, List.mem_singleton] at hx; rw [hx]; exact ⟨[], by simp⟩
theorem nT_nodup : ∀ (t : T) (p : List Bool), ((nT p t).map (·.1)).Nodup
  | .fork m l r, p => by
    rw [nT_fork, List.map_cons, List.nodup_cons, List.map_append, List.nodup_append]
    refine ⟨fun h => ?_, nT_nodup l _, nT_nodup r _, ?_⟩
    · rcases List.mem_append.mp h with h | h
      · obtain ⟨x, hx, e⟩ := List.mem_map.mp h
        obtain ⟨q, e2⟩ := nT_under l _ x hx
        rw [e2] at e
        have := congrArg List.length e
        simp at this
      · obtain ⟨x, hx, e⟩ := List.mem_map.mp h
        obtain ⟨q, e2⟩ := nT_under r _ x hx
        rw [e2] at e
        have := congrArg List.length e
        simp at this
    · intro a ha b hb e
      obtain ⟨x, hx, e1⟩ := List.mem_map.mp ha
      obtain ⟨y, hy, e2⟩ := List.mem_map.mp hb
      obtain ⟨q, e3⟩ := nT_under l _ x hx
      obtain ⟨q', e4⟩ := nT_under r _ y hy
      rw [← e1, ← e2, e3, e4, List.append_assoc, List.append_assoc] at e
      have := List.append_cancel_left e
      simp at this
  | .non, p => by rw [nT_leaf rfl]; simp
  | .leaf _ _, p => by rw [nT_leaf rfl]; simp
  | .shut _ _, p => by rw [nT_leaf rfl]; simp
  | .cut _ _, p => by rw [nT_leaf rfl]; simp
theorem stkT_len (r : List (List Bool × T)) : r.length ≤ (r.flatMap fun y => nT y.1 y.2).length := by
  induction r with
  | nil => exact Nat.le_refl _
  | cons y r ih =>
    rw [List.flatMap_cons, List.length_append, List.length_cons]
    have := nT_pos y.1 y.2
    omega
theorem un_loop {b : Option D} : ∀ (m fuel : Nat) (stk : List (List Bool × T)) (acc : List D) (a e : Option D), (∀ x ∈ stk, fits x) → (stk.flatMap fun y => nT y.1 y.2).length = m → m < fuel → acc.length + m ≤ 1000000 →
    ∃ a' e', whileN unC unB fuel [a, b, some (.lst acc), some (.lst (stk.map nP).reverse), e] = .nx [a', b, some (.lst (acc ++ (stk.flatMap fun y => nT y.1 y.2).map nP)), some (.lst []), e'] := by
  intro m
  induction m with
  | zero =>
    intro fuel stk acc a e h1 h2 h3 h4
    obtain ⟨f, rfl⟩ : ∃ f, fuel = f + 1 := ⟨fuel - 1, by omega⟩
    have es : stk = [] := by
      have := stkT_len stk
      exact List.eq_nil_of_length_eq_zero (by omega)
    subst es
    refine ⟨a, e, ?_⟩
    rw [wh_end (by simp [unC])]
    simp
  | succ m ih =>
    intro fuel stk acc a e h1 h2 h3 h4
    obtain ⟨f, rfl⟩ : ∃ f, fuel = f + 1 := ⟨fuel - 1, by omega⟩
    cases stk with
    | nil => simp at h2
    | cons x r =>
      have hx := h1 x List.mem_cons_self
      have hr := fun y hy => h1 y (List.mem_cons_of_mem _ hy)
      have hs := stkT_len r
      have et : unC [a, b, some (.lst acc), some (.lst ((x :: r).map nP).reverse), e] = .ok true := by simp [unC]
      have ep : sPop (gT [0, 4]) 3 [a, b, some (.lst acc), some (.lst ((x :: r).map nP).reverse), e] = .nx [some (.str (pS x.1)), b, some (.lst acc), some (.lst (r.map nP).reverse), some x.2.d] := by
        rw [x_sPop (xs := (r.map nP).reverse) (d := nP x) (by rw [List.map_cons, List.reverse_cons]; rfl)]
        rfl
      have hacc : acc.length < SL := by show _ < 16777216; omega
      rw [List.flatMap_cons, nT_kT, List.length_append, List.length_cons] at h2
      obtain ⟨a', e', ei⟩ := ih f (kT x ++ r) (acc ++ [nP x]) (some (.str (pS x.1))) (some x.2.d) (fun y hy => by
        rcases List.mem_append.mp hy with hy | hy
        · exact kT_fits hx y hy
        · exact hr y hy) (by rw [List.flatMap_append, List.length_append]; omega) (by omega) (by rw [List.length_append, List.length_singleton]; omega)
      refine ⟨a', e', ?_⟩
      have eb : unB [a, b, some (.lst acc), some (.lst ((x :: r).map nP).reverse), e] = .nx [some (.str (pS x.1)), b, some (.lst (acc ++ [nP x])), some (.lst ((kT x ++ r).map nP).reverse), some x.2.d] := by
        obtain ⟨p, t⟩ := x
        unfold unB
        rw [sq_nx ep]
        have hp16 : p.length ≤ 16 := by unfold fits at hx; simp only at hx; omega
        obtain ⟨a1, a2⟩ := addS (p := p) hp16
        have en : D.tup [.str (pS p), t.d] = nP (p, t) := rfl
        cases t with
        | fork m' l r' =>
          have e2 : opIx (T.fork m' l r').d (.int 2) = some l.d := rfl
          have e3 : opIx (T.fork m' l r').d (.int 3) = some r'.d := rfl
          have hxl : sExt 3 (dLst (daC (dTup (daC (d2 opAdd (dV 0) (dC (.str "1"))) (daC (d2 opIx (dV 4) (dC (.int 3))) daN))) (daC (dTup (daC (d2 opAdd (dV 0) (dC (.str "0"))) (daC (d2 opIx (dV 4) (dC (.int 2))) daN))) daN)))
              [some (.str (pS p)), b, some (.lst (acc ++ [nP (p, .fork m' l r')])), some (.lst (r.map nP).reverse), some (T.fork m' l r').d] = .nx [some (.str (pS p)), b, some (.lst (acc ++ [nP (p, .fork m' l r')])), some (.lst ((kT (p, .fork m' l r') ++ r).map nP).reverse), some (T.fork m' l r').d] := by
            rw [x_sExt (xs := (r.map nP).reverse) (ds := [nP (p ++ [true], r'), nP (p ++ [false], l)]) rfl (by simp_arith [a1, a2, e2, e3, nP]) (by
              show _ ≤ 16777216
              simp only [List.length_reverse, List.length_map, List.length_cons, List.length_nil]
              omega)]
            simp [kT]
          simp_arith [en, if_pos hacc, ix_tag, eq_fork, isFork, hxl]
        | _ =>
          simp_arith [en, if_pos hacc, ix_tag, eq_fork, isFork, kT]
      rw [wh_step et eb, ei, List.flatMap_cons, nT_kT, List.flatMap_append]
      simp [List.append_assoc]
theorem nodes_under' {p : List Bool} {t : T} (h : p.length + ht t ≤ 16) : M_nodes_under [.str (pS p), t.d] = .ok (.lst ((nT p t).map nP)) := by
  have hn := nT_small (t := t) (by omega) p
  obtain ⟨a', e', e⟩ := un_loop (b := some t.d) (nT p t).length FU [(p, t)] [] (some (.str (pS p))) none (fun y hy => by rw [List.mem_singleton.mp hy]; exact h) (by simp) (by show _ < 1048576; omega) (by rw [List.length_nil]; omega)
  have e : sWh unC unB [some (.str (pS p)), some t.d, some (.lst []), some (.lst [.tup [.str (pS p), t.d]]), none] = .nx [a', some t.d, some (.lst ((nT p t).map nP)), some (.lst []), e'] := by
    have := e
    simp only [List.flatMap_cons, List.flatMap_nil, List.append_nil, List.nil_append, List.map_cons, List.map_nil, List.reverse_cons, List.reverse_nil] at this
    exact this
  have eb : b_nodes_under = sSq (sAs (gN 2) (dLst daN)) (sSq (sAs (gN 3) (dLst (daC (dTup (daC (dV 0) (daC (dV 1) daN))) daN))) (sSq (sWh unC unB) (sSq (sRet (dV 2)) sNx))) := rfl
  simp_arith [M_nodes_under, eb, e]
theorem nodes_of' {t : T} (h : ht t ≤ 16) : M_nodes_of [t.d] = .ok (.lst ((nT [] t).map nP)) := by
  have := nodes_under' (p := []) (t := t) (by simpa using h)
  have e : D.str "" = .str (pS []) := rfl
  simp_arith [M_nodes_of, b_nodes_of, e, this]
end K49
/-! QD: texts and roots of any tree. -/
namespace DL
theorem nodup_map {α β : Type} {f : α → β} {l : List α} (h : l.Nodup) (hf : ∀ a b, f a = f b → a = b) : (l.map f).Nodup := by
  induction l with
  | nil => simp
  | cons a l ih =>
    rw [List.nodup_cons] at h
    rw [List.map_cons, List.nodup_cons]
    refine ⟨fun hm => ?_, ih h.2⟩
    obtain ⟨b, hb, e⟩ := List.mem_map.mp hm
    rw [hf b a e] at hb
    exact h.1 hb
theorem x_dGet1 {a b : DE} {s : DSt} {kv : List (Key × D)} {k : D} {kk : Key} (h : a s = .ok (.dct kv)) (h2 : b s = .ok k) (h3 : keyOf k = some kk) : dGet1 a b s = .ok ((lk kv kk).getD .non) := by
  unfold dGet1
  rw [h, rb_ok, if_pos (show (D.dct kv).isDct = true from rfl), h2, rb_ok]
  unfold mGet1
  simp only [h3]
  rfl
theorem o_addT {a b : List D} (h : a.length + b.length ≤ SL) : opAdd (.tup a) (.tup b) = some (.tup (a ++ b)) := if_pos h
end DL
namespace K49
open DL
open PySem (Str)
open Lean in
local macro_rules
  | `(tactic| simp_arith [$ls,*]) => `(tactic| simp only [x_def1, x_def2, x_def3, x_def4, x_def5, List.cons_append, List.nil_append, List.replicate, Nat.reduceSub, List.map_cons, List.map_nil, x_sSq, x_sIf, x_sRet, x_sE, x_sAsN, x_dV0, x_dVs, x_dC, x_d1, x_d2, x_dCall, x_dCallF, x_daC, x_daN, rb_ok, x_ofO_some, x_dB, x_boolR, x_dTr, x_dtAnd, x_dtOr, x_dtNot, x_dAnd, x_dNot, x_dIfE, x_dChain, x_sNx, x_sApp, x_ownL0, x_ownLs, x_ownD0, x_ownDs, x_sPut, x_sRai, List.set_cons_zero, List.set_cons_succ, Bool.not_true, Bool.not_false, Bool.false_eq_true, if_true, if_false, x_dTup, x_dLst, sl0, sl1, sl2, sl3, sl4, o_add, o_sub, o_eq, o_ne, o_lt, o_le, o_gt, o_ge, o_lenL, o_lenT, o_trB, o_trL, o_trT, o_int, $ls,*])
/-- texts of a leaf, of a fork -/
def lfS (k s : Int) : Str := "leaf " ++ nS k ++ " " ++ nS s
def fkS (a b c d : Int) : Str := "fork " ++ PySem.Txt.join " " [nS a, nS b, nS c, nS d]
def vS (b : Nat) (v : D) : Int := tS b (pk v)
/-- the sum of a node -/
def rs (b : Nat) : T → Int
  | .non => tS b "none"
  | .leaf k v => tS b (lfS k (vS b v))
  | .shut k s => tS b (lfS k s)
  | .cut s _ => s
  | .fork _ l r => tS b (fkS (rs b l) l.many (rs b r) r.many)
def tx (b : Nat) : T → Str
  | .non => "none"
  | .leaf k v => lfS k (vS b v)
  | .shut k s => lfS k s
  | .cut _ _ => ""
  | .fork _ l r => fkS (rs b l) l.many (rs b r) r.many
def rD (b : Nat) (t : T) : D := .tup [.int (rs b t), .int t.many]
theorem rs_tx {b : Nat} {t : T} (h : isCut t = false) : rs b t = tS b (tx b t) := by
  cases t <;> first | rfl | cases h
/-- what can be told as text -/
def TV : T → Prop
  | .non => True
  | .leaf k v => Nm k ∧ PV v
  | .shut k s => Nm k ∧ Nm s
  | .cut s n => Nm s ∧ Nm n
  | .fork n l r => Nm n ∧ TV l ∧ TV r
theorem tS_nm {b : Nat} (hb : b ≤ 60) (z : Str) : Nm (tS b z) := by
  have h0 : (0 : Int) < 2 ^ b := Int.pow_pos (by omega)
  have h1 : 0 ≤ sh 104729 z.cps.toList / 8 % 2 ^ b := Int.emod_nonneg _ (by omega)
  have h2 : sh 104729 z.cps.toList / 8 % 2 ^ b < 2 ^ b := Int.emod_lt_of_pos _ h0
  have h3 : (2 : Int) ^ b ≤ 2 ^ 60 := by
    have h6 := Nat.pow_le_pow_right (show 0 < 2 by omega) hb
    have h7 := Int.ofNat_le.mpr h6
    rw [Int.natCast_pow, Int.natCast_pow] at h7
    exact h7
  have h4 : (2 : Int) ^ 60 = 1152921504606846976 := by decide
  unfold tS
  exact ⟨h1, by omega⟩
theorem rs_nm {b : Nat} (hb : b ≤ 60) {t : T} (h : TV t) : Nm (rs b t) := by
  cases t with
  | cut s n => exact h.1
  | _ => exact tS_nm hb _
theorem many_nm {t : T} (h : TV t) : Nm t.many := by
  cases t with
  | cut s n => exact h.2
  | fork n l r => exact h.1
  | non => exact ⟨by decide, by decide⟩
  | leaf => exact ⟨Int.le.intro 1 rfl, by show (1 : Int) < _; decide⟩
  | shut => exact ⟨Int.le.intro 1 rfl, by show (1 : Int) < _; decide⟩
theorem l_leaf : ("leaf " : Str).length = 5 := by decide +kernel
theorem l_sp : (" " : Str).length = 1 := by decide +kernel
theorem l_fork : ("fork " : Str).length = 5 := by decide +kernel
theorem lfS_len {k s : Int} (hk : Nm k) (hs : Nm s) : (lfS k s).length ≤ 46 := by
  have h1 := nS_len hk
  have h2 := nS_len hs
  unfold lfS
  rw [len_app, len_app, len_app, l_leaf, l_sp]
  omega
theorem join4 (a b c d : Str) : PySem.Txt.join " " [a, b, c, d] = a ++ " " ++ (b ++ " " ++ (c ++ " " ++ d)) := by
  unfold PySem.Txt.join
  rw [PySem.StrLaws.glued_eq_join]
  rfl
theorem fkS_len {a b c d : Int} (ha : Nm a) (hb : Nm b) (hc : Nm c) (hd : Nm d) : (fkS a b c d).length ≤ 88 := by
  have h1 := nS_len ha
  have h2 := nS_len hb
  have h3 := nS_len hc
  have h4 := nS_len hd
  unfold fkS
  rw [join4]
  simp only [len_app, l_fork, l_sp]
  omega
theorem lfS_ok (k s : Int) : sOk (lfS k s) = true := by
  unfold lfS nS
  simp only [sOk_app, sOk_of, Bool.and_self]
theorem fkS_ok (a b c d : Int) : sOk (fkS a b c d) = true := by
  unfold fkS nS
  rw [join4]
  simp only [sOk_app, sOk_of, Bool.and_self]
theorem tx_len {b : Nat} (hb : b ≤ 60) {t : T} (h : TV t) : (tx b t).length ≤ 88 := by
  cases t with
  | non => exact (by decide +kernel : ("none" : Str).length ≤ 88)
  | leaf k v => have := lfS_len h.1 (tS_nm hb (pk v)); show (lfS k (tS b (pk v))).length ≤ 88; omega
  | shut k s => have := lfS_len h.1 h.2; show (lfS k s).length ≤ 88; omega
  | cut s n => exact (by decide +kernel : ("" : Str).length ≤ 88)
  | fork n l r => exact fkS_len (rs_nm hb h.2.1) (many_nm h.2.1) (rs_nm hb h.2.2) (many_nm h.2.2)
theorem tx_ok (b : Nat) (t : T) : sOk (tx b t) = true := by
  cases t with
  | non => exact sOk_of _
  | leaf k v => exact lfS_ok _ _
  | shut k s => exact lfS_ok _ _
  | cut s n => exact sOk_of _
  | fork n l r => exact fkS_ok _ _ _ _
theorem value_sum {b : Nat} (hb : b ≤ 60) {k : Int} {v : D} (hv : PV v) : M_value_sum [(T.leaf k v).d, .int (b : Int)] = .ok (.int (vS b v)) := by
  have hl := pk_len hv
  have e0 : opIx (T.leaf k v).d (.int 0) = some (.str "leaf") := rfl
  have e1 : opEq (.str "leaf") (.str "leaf") = some (.bl true) := rfl
  have e2 : opIx (T.leaf k v).d (.int 2) = some v := rfl
  have e3 : M_sum_by [.str (pk v), .int (b : Int)] = .ok (.int (tS b (pk v))) := sum_by (by show _ ≤ 16777216; omega) (by omega)
  simp_arith [M_value_sum, b_value_sum, e0, e1, e2, packed_text hv, e3]
  rfl
theorem value_sumS {b : D} {k s : Int} : M_value_sum [(T.shut k s).d, b] = .ok (.int s) := by
  have e0 : opIx (T.shut k s).d (.int 0) = some (.str "shut") := rfl
  have e1 : opEq (.str "shut") (.str "leaf") = some (.bl false) := rfl
  have e2 : opIx (T.shut k s).d (.int 2) = some (.int s) := rfl
  simp_arith [M_value_sum, b_value_sum, e0, e1, e2]
/-- "leaf " + str(k) + " " + str(s) -/
theorem leaf_text {k s : Int} (hk : Nm k) (hs : Nm s) : opAdd (.str "leaf ") (.str (nS k)) = some (.str ("leaf " ++ nS k)) ∧ opAdd (.str ("leaf " ++ nS k)) (.str " ") = some (.str ("leaf " ++ nS k ++ " ")) ∧ opAdd (.str ("leaf " ++ nS k ++ " ")) (.str (nS s)) = some (.str (lfS k s)) := by
  have h1 := nS_len hk
  have h2 := nS_len hs
  refine ⟨o_addS ?_, o_addS ?_, o_addS ?_⟩
  · rw [l_leaf]; show _ ≤ 16777216; omega
  · rw [len_app, l_leaf, l_sp]; show _ ≤ 16777216; omega
  · rw [len_app, len_app, l_leaf, l_sp]; show _ ≤ 16777216; omega
/-- "fork " + " ".join([str(one) for one in ..]) -/
theorem fork_join {a b c d : Int} (ha : Nm a) (hb : Nm b) (hc : Nm c) (hd : Nm d) {it : DE} {s : DSt} {i : Nat} (hi : it s = .ok (.tup [.int a, .int b, .int c, .int d])) (hg : ∀ x : D, dV i ((dwipe s [i]).set i (some x)) = .ok x) :
    d2 opAdd (dC (.str "fork ")) (dSm mJoin (dC (.str " ")) (dLc (diL it) [i] (gN i) tT (d1 fStr (dV i)))) s = .ok (.str (fkS a b c d)) := by
  have h1 := nS_len ha
  have h2 := nS_len hb
  have h3 := nS_len hc
  have h4 := nS_len hd
  have e1 : diL it s = .ok [.int a, .int b, .int c, .int d] := by
    unfold diL
    rw [hi]
    rfl
  have e2 : lcL (gN i) tT (d1 fStr (dV i)) (dwipe s [i]) [.int a, .int b, .int c, .int d] = .ok [.str (nS a), .str (nS b), .str (nS c), .str (nS d)] := by
    have st : ∀ {x : Int} (hx : Nm x) (ds : List D), lcL (gN i) tT (d1 fStr (dV i)) (dwipe s [i]) (.int x :: ds) = (lcL (gN i) tT (d1 fStr (dV i)) (dwipe s [i]) ds).bind fun r => .ok (.str (nS x) :: r) := by
      intro x hx ds
      rw [lcL_cons]
      show ((d1 fStr (dV i) ((dwipe s [i]).set i (some (.int x)))).bind _) = _
      rw [x_d1, hg, rb_ok, fStr_n hx, x_ofO_some, rb_ok]
    rw [st ha, st hb, st hc, st hd]
    rfl
  have e3 := x_dLc (vs := [i]) e1 (by show 4 ≤ 16777216; omega) e2
  have e4 : mJoin (.str " ") (.lst [.str (nS a), .str (nS b), .str (nS c), .str (nS d)]) = some (.str (PySem.Txt.join " " [nS a, nS b, nS c, nS d])) := by
    show (if ([nS a, nS b, nS c, nS d].map (·.length)).sum + [nS a, nS b, nS c, nS d].length * (" " : Str).length ≤ SL then some (D.str (PySem.Txt.join " " [nS a, nS b, nS c, nS d])) else none) = _
    rw [if_pos]
    show _ ≤ 16777216
    simp only [List.map_cons, List.map_nil, List.sum_cons, List.sum_nil, List.length_cons, List.length_nil, l_sp]
    omega
  have e5 : dSm mJoin (dC (.str " ")) (dLc (diL it) [i] (gN i) tT (d1 fStr (dV i))) s = .ok (.str (PySem.Txt.join " " [nS a, nS b, nS c, nS d])) := by
    unfold dSm
    rw [x_dC, rb_ok, if_pos (show (D.str " ").isStr = true from rfl), e3, rb_ok, e4]
    rfl
  have e6 : opAdd (.str "fork ") (.str (PySem.Txt.join " " [nS a, nS b, nS c, nS d])) = some (.str (fkS a b c d)) := o_addS (by
    rw [join4]
    simp only [len_app, l_fork, l_sp]
    show _ ≤ 16777216
    omega)
  rw [x_d2, x_dC, rb_ok, e5, rb_ok, e6]
  rfl
theorem node_text {b : Nat} (hb : b ≤ 60) {t : T} (h : TV t) (hc : isCut t = false) {L R : D} (hL : ∀ m l r, t = .fork m l r → L = rD b l ∧ R = rD b r) : M_node_text [t.d, L, R, .int (b : Int)] = .ok (.str (tx b t)) := by
  cases t with
  | cut => cases hc
  | non => rfl
  | leaf k v =>
    have e0 : opIx (T.leaf k v).d (.int 0) = some (.str "leaf") := rfl
    have e1 : opEq (.str "leaf") (.str "none") = some (.bl false) := rfl
    have e2 : opIn (.str "leaf") (.tup [.str "leaf", .str "shut"]) = some (.bl true) := rfl
    have e3 : opIx (T.leaf k v).d (.int 1) = some (.int k) := rfl
    obtain ⟨a1, a2, a3⟩ := leaf_text h.1 (tS_nm hb (pk v))
    simp_arith [M_node_text, b_node_text, e0, e1, e2, e3, value_sum hb h.2, fStr_n h.1, fStr_n (tS_nm hb (pk v)), vS, a1, a2, a3]
    rfl
  | shut k s =>
    have e0 : opIx (T.shut k s).d (.int 0) = some (.str "shut") := rfl
    have e1 : opEq (.str "shut") (.str "none") = some (.bl false) := rfl
    have e2 : opIn (.str "shut") (.tup [.str "leaf", .str "shut"]) = some (.bl true) := rfl
    have e3 : opIx (T.shut k s).d (.int 1) = some (.int k) := rfl
    obtain ⟨a1, a2, a3⟩ := leaf_text h.1 h.2
    simp_arith [M_node_text, b_node_text, e0, e1, e2, e3, value_sumS, fStr_n h.1, fStr_n h.2, vS, a1, a2, a3]
    rfl
  | fork m l r =>
    obtain ⟨rfl, rfl⟩ := hL m l r rfl
    have e0 : opIx (T.fork m l r).d (.int 0) = some (.str "fork") := rfl
    have e1 : opEq (.str "fork") (.str "none") = some (.bl false) := rfl
    have e2 : opIn (.str "fork") (.tup [.str "leaf", .str "shut"]) = some (.bl false) := rfl
    have e3 : d2 opAdd (dV 1) (dV 2) [some (T.fork m l r).d, some (rD b l), some (rD b r), some (.int (b : Int)), none] = .ok (.tup [.int (rs b l), .int l.many, .int (rs b r), .int r.many]) := rfl
    have e4 := fork_join (rs_nm hb h.2.1) (many_nm h.2.1) (rs_nm hb h.2.2) (many_nm h.2.2) (i := 4) e3 (fun _ => rfl)
    rw [x_d2] at e4
    simp_arith [M_node_text, b_node_text, e0, e1, e2]
    rw [show (dC (.str "fork ") [some (T.fork m l r).d, some (rD b l), some (rD b r), some (.int (b : Int)), none] : Res D) = .ok (.str "fork ") from rfl, rb_ok] at e4
    rw [e4]
    rfl
end K49
/-! QE: roots of any tree. -/
namespace K49
open DL
open PySem (Str)
open Lean in
local macro_rules
  | `(tactic| simp_arith [$ls,*]) => `(tactic| simp only [x_def1, x_def2, x_def3, x_def4, x_def5, List.cons_append, List.nil_append, List.replicate, Nat.reduceSub, List.map_cons, List.map_nil, x_sSq, x_sIf, x_sRet, x_sE, x_sAsN, x_dV0, x_dVs, x_dC, x_d1, x_d2, x_dCall, x_dCallF, x_daC, x_daN, rb_ok, x_ofO_some, x_dB, x_boolR, x_dTr, x_dtAnd, x_dtOr, x_dtNot, x_dAnd, x_dNot, x_dIfE, x_dChain, x_sNx, x_sApp, x_ownL0, x_ownLs, x_ownD0, x_ownDs, x_sPut, x_sRai, List.set_cons_zero, List.set_cons_succ, Bool.not_true, Bool.not_false, Bool.false_eq_true, if_true, if_false, x_dTup, x_dLst, sl0, sl1, sl2, sl3, sl4, o_add, o_sub, o_eq, o_ne, o_lt, o_le, o_gt, o_ge, o_lenL, o_lenT, o_trB, o_trL, o_trT, o_int, $ls,*])
theorem TV_all : ∀ (t : T) (p : List Bool), TV t → ∀ x ∈ nT p t, TV x.2
  | .fork m l r, p, h, x, hx => by
    rw [nT_fork] at hx
    rcases List.mem_cons.mp hx with rfl | hx
    · exact h
    · rcases List.mem_append.mp hx with hx | hx
      · exact TV_all l _ h.2.1 x hx
      · exact TV_all r _ h.2.2 x hx
  | .non, p, h, x, hx => by rw [nT_leaf rfl, List.mem_singleton] at hx; rw [hx]; exact h
  | .leaf _ _, p, h, x, hx => by rw [nT_leaf rfl, List.mem_singleton] at hx; rw [hx]; exact h
  | .shut _ _, p, h, x, hx => by rw [nT_leaf rfl, List.mem_singleton] at hx; rw [hx]; exact h
  | .cut _ _, p, h, x, hx => by rw [nT_leaf rfl, List.mem_singleton] at hx; rw [hx]; exact h
abbrev kyT (x : List Bool × T) : Key := .inr (pS x.1)
theorem kyT_nodup (t : T) (p : List Bool) : ((nT p t).map kyT).Nodup := by
  have h := nT_nodup t p
  have := nodup_map (f := fun q : List Bool => (Sum.inr (pS q) : Key)) h fun a b e => pS_inj (Sum.inr.inj e)
  rw [List.map_map] at this
  exact this
theorem rev_kids {t : T} {p : List Bool} : ∀ pre x post, (nT p t).reverse = pre ++ x :: post → ∀ y ∈ kT x, y ∈ pre := by
  intro pre x post e y hy
  have e2 : nT p t = post.reverse ++ x :: pre.reverse := by
    rw [← List.reverse_reverse (nT p t), e]
    simp
  exact List.mem_reverse.mp (nT_kids t p _ x _ e2 y hy)
def ruB : DS := sSq (sIf (dB (d2 opEq (d2 opIx (dV 4) (dC (.int 0))) (dC (.str "cut")))) (sSq (sPut 3 (dV 0) (dTup (daC (d2 opIx (dV 4) (dC (.int 1))) (daC (d2 opIx (dV 4) (dC (.int 2))) daN))))
  sNx) (sSq (sAs (gN 5) (dCall M_node_text (daC (dV 4) (daC (dGet1 (dV 3) (d2 opAdd (dV 0) (dC (.str "0")))) (daC (dGet1 (dV 3) (d2 opAdd (dV 0) (dC (.str "1")))) (daC (dV 2) daN))))))
  (sSq (sPut 3 (dV 0) (dTup (daC (dCall M_sum_by (daC (dV 5) (daC (dV 2) daN))) (daC (dCall M_many_in (daC (dV 4) daN)) daN))))
  sNx))) sNx
theorem b_ru : b_roots_under = sSq (sAs (gN 3) (dC (.dct []))) (sSq (sFor (diL (d1 opRev (dCall M_nodes_under (daC (dV 0) (daC (dV 1) daN))))) (gT [0, 4]) ruB) (sSq (sRet (dV 3)) sNx)) := (rfl)
theorem ru_step {b : Nat} (hb : b ≤ 60) {a1 w : Option D} {kv : List (Key × D)} {x : List Bool × T} (hf : fits x) (hv : TV x.2) (hl : kv.length < 1000000) (hk : ∀ y ∈ kT x, lk kv (kyT y) = some (rD b y.2)) :
    ∃ w', ruB [some (.str (pS x.1)), a1, some (.int (b : Int)), some (.dct kv), some x.2.d, w] = .nx [some (.str (pS x.1)), a1, some (.int (b : Int)), some (.dct (pt kv (kyT x) (rD b x.2))), some x.2.d, w'] := by
  obtain ⟨p, t⟩ := x
  simp only at hv ⊢
  have hlt : kv.length < SL := by show _ < 16777216; omega
  have hp16 : p.length ≤ 16 := by unfold fits at hf; simp only at hf; omega
  have hky : keyOf (.str (pS p)) = some (.inr (pS p)) := rfl
  cases hc : isCut t with
  | true =>
    cases t with
    | cut s n =>
      have e1 : opIx (T.cut s n).d (.int 0) = some (.str "cut") := rfl
      have e2 : opEq (.str "cut") (.str "cut") = some (.bl true) := rfl
      have e3 : opIx (T.cut s n).d (.int 1) = some (.int s) := rfl
      have e4 : opIx (T.cut s n).d (.int 2) = some (.int n) := rfl
      refine ⟨w, ?_⟩
      simp_arith [ruB, e1, e2, e3, e4, hky, if_pos hlt]
      rfl
    | _ => cases hc
  | false =>
    obtain ⟨a1', a2⟩ := addS (p := p) hp16
    have h1 : ∀ (w : Option D), dGet1 (dV 3) (d2 opAdd (dV 0) (dC (.str "0"))) [some (.str (pS p)), a1, some (.int (b : Int)), some (.dct kv), some t.d, w] = .ok ((lk kv (.inr (pS (p ++ [false])))).getD .non) := fun w =>
      x_dGet1 (k := .str (pS (p ++ [false]))) rfl (by simp_arith [a1']) rfl
    have h2 : ∀ (w : Option D), dGet1 (dV 3) (d2 opAdd (dV 0) (dC (.str "1"))) [some (.str (pS p)), a1, some (.int (b : Int)), some (.dct kv), some t.d, w] = .ok ((lk kv (.inr (pS (p ++ [true])))).getD .non) := fun w =>
      x_dGet1 (k := .str (pS (p ++ [true]))) rfl (by simp_arith [a2]) rfl
    have hn : M_node_text [t.d, (lk kv (.inr (pS (p ++ [false])))).getD .non, (lk kv (.inr (pS (p ++ [true])))).getD .non, .int (b : Int)] = .ok (.str (tx b t)) := node_text hb hv hc (fun m l r e => by
      subst e
      rw [show lk kv (.inr (pS (p ++ [false]))) = some (rD b l) from hk (p ++ [false], l) (by simp [kT]), show lk kv (.inr (pS (p ++ [true]))) = some (rD b r) from hk (p ++ [true], r) (by simp [kT])]
      exact ⟨rfl, rfl⟩)
    have hs : M_sum_by [.str (tx b t), .int (b : Int)] = .ok (.int (rs b t)) := by
      rw [rs_tx hc]
      have := tx_len hb hv
      exact sum_by (by show _ ≤ 16777216; omega) (by omega)
    have ec : opEq (tag t) (.str "cut") = some (.bl false) := by
      rw [eq_cut]
      cases t <;> first | rfl | cases hc
    refine ⟨some (.str (tx b t)), ?_⟩
    simp_arith [ruB, ix_tag, ec, h1, h2, hn, hs, many_in, hky, if_pos hlt]
    rfl
theorem roots_under {b : Nat} (hb : b ≤ 60) {p : List Bool} {t : T} (h : p.length + ht t ≤ 16) (hv : TV t) : M_roots_under [.str (pS p), t.d, .int (b : Int)] = .ok (.dct ((nT p t).reverse.map fun x => (kyT x, rD b x.2))) := by
  have hn := nT_small (t := t) (by omega) p
  obtain ⟨s', e, q, w, z, rfl⟩ := bup (S := fun kv s => ∃ q w z, s = [q, some t.d, some (.int (b : Int)), some (.dct kv), w, z]) (key := kyT) (val := fun x => rD b x.2) (kids := kT) (L := (nT p t).reverse) (g := gT [0, 4]) (b := ruB) (el := nP) (s0 := [some (.str (pS p)), some t.d, some (.int (b : Int)), some (.dct []), none, none])
    (by rw [List.map_reverse]; exact (List.reverse_perm _).nodup_iff.mpr (kyT_nodup t p)) rev_kids (by rw [List.length_reverse]; omega)
    (by
      rintro x kv s hx ⟨q, w, z, rfl⟩ hl hk
      have hx := List.mem_reverse.mp hx
      obtain ⟨w', e⟩ := ru_step (a1 := some t.d) (w := z) hb (nT_fits t p h x hx) (TV_all t p hv x hx) hl hk
      exact ⟨_, _, rfl, e, _, _, _, rfl⟩)
    ⟨_, _, _, rfl⟩
  have er : opRev (.lst ((nT p t).map nP)) = some (.lst ((nT p t).reverse.map nP)) := by rw [List.map_reverse]; rfl
  have ed : diL (d1 opRev (dCall M_nodes_under (daC (dV 0) (daC (dV 1) daN)))) [some (.str (pS p)), some t.d, some (.int (b : Int)), some (.dct []), none, none] = .ok ((nT p t).reverse.map nP) := by
    have : d1 opRev (dCall M_nodes_under (daC (dV 0) (daC (dV 1) daN))) [some (.str (pS p)), some t.d, some (.int (b : Int)), some (.dct []), none, none] = .ok (.lst ((nT p t).reverse.map nP)) := by
      simp_arith [nodes_under' h, er]
    unfold diL
    rw [this]
    rfl
  simp_arith [M_roots_under, b_ru, x_sFor ed, e]
theorem roots_of {b : Nat} (hb : b ≤ 60) {t : T} (h : ht t ≤ 16) (hv : TV t) : M_roots_of [t.d, .int (b : Int)] = .ok (.dct ((nT [] t).reverse.map fun x => (kyT x, rD b x.2))) := by
  have e := roots_under hb (p := []) (t := t) (by simpa using h) hv
  have e0 : D.str "" = .str (pS []) := rfl
  simp_arith [M_roots_of, b_roots_of, e0, e]
theorem roots_lk {b : Nat} {t : T} {p : List Bool} {y : List Bool × T} (hy : y ∈ nT p t) : lk ((nT p t).reverse.map fun x => (kyT x, rD b x.2)) (kyT y) = some (rD b y.2) :=
  lk_map (key := kyT) (val := fun x => rD b x.2) (by rw [List.map_reverse]; exact (List.reverse_perm _).nodup_iff.mpr (kyT_nodup t p)) (List.mem_reverse.mpr hy)
theorem top_mem (t : T) (p : List Bool) : (p, t) ∈ nT p t := by
  have h := nT_kT (p, t)
  simp only at h
  rw [h]
  exact List.mem_cons_self
theorem root_of {b : Nat} (hb : b ≤ 60) {t : T} (h : ht t ≤ 16) (hv : TV t) : M_root_of [t.d, .int (b : Int)] = .ok (rD b t) := by
  have e1 := roots_lk (b := b) (top_mem t [])
  have e2 : opIx (.dct ((nT [] t).reverse.map fun x => (kyT x, rD b x.2))) (.str "") = some (rD b t) := by
    show (match lk ((nT [] t).reverse.map fun x => (kyT x, rD b x.2)) (.inr (pS [])) with | some d => some d | none => none) = _
    rw [e1]
  simp_arith [M_root_of, b_root_of, roots_of hb h hv, e2]
theorem is_int (i : Int) : M_is_integer [.int i] = .ok (.bl true) := rfl
theorem is_between {i a b : Int} (h1 : a ≤ i) (h2 : i ≤ b) : M_is_between [.int i, .int a, .int b] = .ok (.bl true) := by
  have h1 : decide (a ≤ i) = true := decide_eq_true h1
  have h2 : decide (i ≤ b) = true := decide_eq_true h2
  simp_arith [M_is_between, b_is_between, is_int, h1, h2]
theorem need_bits {b : Nat} (h1 : 4 ≤ b) (h2 : b ≤ 60) : M_need_bits [.int (b : Int)] = .ok .non := by
  have e := is_between (i := (b : Int)) (a := 4) (b := 60) (by omega) (by omega)
  simp_arith [M_need_bits, b_need_bits, e]
/-- what texts_of gives -/
theorem texts_lc {b : Nat} (hb : b ≤ 60) {s : DSt} {R : D} {t : T} {p0 : List Bool} {kv : List (Key × D)} (hkv : kv = (nT p0 t).reverse.map fun x => (kyT x, rD b x.2)) {a0 : Option D} (hs : s = [a0, some (.int (b : Int)), some (.dct kv), none, none]) :
    ∀ (l : List (List Bool × T)) (acc : List (Key × D)), (∀ x ∈ l, x ∈ nT p0 t ∧ fits x ∧ TV x.2 ∧ isCut x.2 = false) → (∀ x ∈ l, ∀ y ∈ kT x, y ∈ nT p0 t) → (acc.map (·.1) ++ l.map kyT).Nodup →
      dcL (gT [3, 4]) (dB (d2 opNe (d2 opIx (dV 4) (dC (.int 0))) (dC (.str "cut")))) (dV 3) (dCall M_node_text (daC (dV 4) (daC (dGet1 (dV 2) (d2 opAdd (dV 3) (dC (.str "0")))) (daC (dGet1 (dV 2) (d2 opAdd (dV 3) (dC (.str "1")))) (daC (dV 1) daN))))) s (l.map nP) acc = .ok (acc ++ l.map fun x => (kyT x, .str (tx b x.2)))
  | [], acc, _, _, _ => by rw [List.map_nil, List.map_nil, List.append_nil]; rfl
  | x :: l, acc, h, hk, hn => by
    subst hs
    obtain ⟨h1, h2, h3, h4⟩ := h x List.mem_cons_self
    obtain ⟨p, u⟩ := x
    simp only at h3 h4
    have hp16 : p.length ≤ 16 := by unfold fits at h2; simp only at h2; omega
    obtain ⟨a1', a2⟩ := addS (p := p) hp16
    have hnew : ∀ z ∈ acc, z.1 ≠ kyT (p, u) := by
      intro z hz e
      rw [List.nodup_append] at hn
      exact hn.2.2 z.1 (List.mem_map.mpr ⟨z, hz, rfl⟩) (kyT (p, u)) (by simp) e
    have ih := texts_lc hb (s := [a0, some (.int (b : Int)), some (.dct kv), none, none]) (R := R) hkv rfl l (acc ++ [(kyT (p, u), .str (tx b u))]) (fun y hy => h y (List.mem_cons_of_mem _ hy)) (fun y hy => hk y (List.mem_cons_of_mem _ hy)) (by
      rw [List.map_append]
      simpa [List.append_assoc] using hn)
    have hg1 : dGet1 (dV 2) (d2 opAdd (dV 3) (dC (.str "0"))) [a0, some (.int (b : Int)), some (.dct kv), some (.str (pS p)), some u.d] = .ok ((lk kv (.inr (pS (p ++ [false])))).getD .non) :=
      x_dGet1 (k := .str (pS (p ++ [false]))) rfl (by simp_arith [a1']) rfl
    have hg2 : dGet1 (dV 2) (d2 opAdd (dV 3) (dC (.str "1"))) [a0, some (.int (b : Int)), some (.dct kv), some (.str (pS p)), some u.d] = .ok ((lk kv (.inr (pS (p ++ [true])))).getD .non) :=
      x_dGet1 (k := .str (pS (p ++ [true]))) rfl (by simp_arith [a2]) rfl
    have hnt : M_node_text [u.d, (lk kv (.inr (pS (p ++ [false])))).getD .non, (lk kv (.inr (pS (p ++ [true])))).getD .non, .int (b : Int)] = .ok (.str (tx b u)) := node_text hb h3 h4 (fun m l' r' e => by
      subst e
      have k1 := roots_lk (b := b) (hk _ List.mem_cons_self (p ++ [false], l') (by simp [kT]))
      have k2 := roots_lk (b := b) (hk _ List.mem_cons_self (p ++ [true], r') (by simp [kT]))
      rw [← hkv] at k1 k2
      rw [show lk kv (.inr (pS (p ++ [false]))) = some (rD b l') from k1, show lk kv (.inr (pS (p ++ [true]))) = some (rD b r') from k2]
      exact ⟨rfl, rfl⟩)
    have ec : opNe (tag u) (.str "cut") = some (.bl true) := by
      cases u <;> first | rfl | cases h4
    have hset : gT [3, 4] (nP (p, u)) [a0, some (.int (b : Int)), some (.dct kv), none, none] = .ok [a0, some (.int (b : Int)), some (.dct kv), some (.str (pS p)), some u.d] := rfl
    have hky : keyOf (.str (pS p)) = some (.inr (pS p)) := rfl
    rw [List.map_cons]
    unfold dcL
    rw [hset, rb_ok]
    simp_arith [ix_tag, ec, hg1, hg2, hnt, hky]
    rw [pt_new hnew, ih]
    simp
theorem texts_of {b : Nat} (h4 : 4 ≤ b) (hb : b ≤ 60) {t : T} (h : ht t ≤ 16) (hv : TV t) (hw : ∀ x ∈ nT [] t, isCut x.2 = false) (ht : M_need_tree [t.d] = .ok .non) :
    M_texts_of [t.d, .int (b : Int)] = .ok (.dct ((nT [] t).map fun x => (kyT x, .str (tx b x.2)))) := by
  have hn := nT_small h []
  have e := texts_lc (R := .non) hb (t := t) (p0 := []) rfl (a0 := some t.d) rfl (nT [] t) [] (fun x hx => ⟨hx, nT_fits t [] (by simpa using h) x hx, TV_all t [] hv x hx, hw x hx⟩) (fun x hx y hy => by
    obtain ⟨pre, post, e⟩ := List.append_of_mem hx
    rw [e]
    exact List.mem_append_right _ (List.mem_cons_of_mem _ (nT_kids t [] pre x post e y hy))) (by simpa using kyT_nodup t [])
  rw [List.nil_append] at e
  have e2 : diL (dCall M_nodes_of (daC (dV 0) daN)) [some t.d, some (.int (b : Int)), some (.dct ((nT [] t).reverse.map fun x => (kyT x, rD b x.2))), none, none] = .ok ((nT [] t).map nP) := by
    unfold diL
    simp_arith [nodes_of' h]
  have e3 : dDc (diL (dCall M_nodes_of (daC (dV 0) daN))) [3, 4] (gT [3, 4]) (dB (d2 opNe (d2 opIx (dV 4) (dC (.int 0))) (dC (.str "cut")))) (dV 3) (dCall M_node_text (daC (dV 4) (daC (dGet1 (dV 2) (d2 opAdd (dV 3) (dC (.str "0")))) (daC (dGet1 (dV 2) (d2 opAdd (dV 3) (dC (.str "1")))) (daC (dV 1) daN)))))
      [some t.d, some (.int (b : Int)), some (.dct ((nT [] t).reverse.map fun x => (kyT x, rD b x.2))), none, none] = .ok (.dct ((nT [] t).map fun x => (kyT x, .str (tx b x.2)))) := by
    unfold dDc
    rw [e2, rb_ok, if_pos (by rw [List.length_map]; show _ ≤ 16777216; omega)]
    show (nE (dcL _ _ _ _ _ _ _)).bind _ = _
    rw [show dwipe [some t.d, some (.int (b : Int)), some (.dct ((nT [] t).reverse.map fun x => (kyT x, rD b x.2))), none, none] [3, 4] = [some t.d, some (.int (b : Int)), some (.dct ((nT [] t).reverse.map fun x => (kyT x, rD b x.2))), none, none] from rfl, e]
    rfl
  simp_arith [M_texts_of, b_texts_of, ht, need_bits h4 hb, roots_of hb h hv, e3]
end K49
/-! QF: the law's roots and texts. -/
namespace K49
open DL
open PySem (Str)
open Lean in
local macro_rules
  | `(tactic| simp_arith [$ls,*]) => `(tactic| simp only [x_def1, x_def2, x_def3, x_def4, x_def5, List.cons_append, List.nil_append, List.replicate, Nat.reduceSub, List.map_cons, List.map_nil, x_sSq, x_sIf, x_sRet, x_sE, x_sAsN, x_dV0, x_dVs, x_dC, x_d1, x_d2, x_dCall, x_dCallF, x_daC, x_daN, rb_ok, x_ofO_some, x_dB, x_boolR, x_dTr, x_dtAnd, x_dtOr, x_dtNot, x_dAnd, x_dNot, x_dIfE, x_dChain, x_sNx, x_sApp, x_ownL0, x_ownLs, x_ownD0, x_ownDs, x_sPut, x_sRai, List.set_cons_zero, List.set_cons_succ, Bool.not_true, Bool.not_false, Bool.false_eq_true, if_true, if_false, x_dTup, x_dLst, sl0, sl1, sl2, sl3, sl4, o_add, o_sub, o_eq, o_ne, o_lt, o_le, o_gt, o_ge, o_lenL, o_lenT, o_trB, o_trL, o_trT, o_int, $ls,*])
abbrev pq (x : Pt) : List Bool × PL := (x.p, x.qs)
theorem bq_perm : ∀ (m : Nat) (q : List Pt), (q.flatMap Pt.ns).length ≤ m → ((bq m q).map pq).Perm (q.flatMap Pt.ns)
  | 0, q, h => by
    have : q = [] := by
      have := stk_len q
      exact List.eq_nil_of_length_eq_zero (by omega)
    subst this
    exact List.Perm.refl _
  | m + 1, [], _ => by simp [bq]
  | m + 1, x :: r, h => by
    rw [show bq (m + 1) (x :: r) = x :: bq m (r ++ kids x) from rfl, List.map_cons, List.flatMap_cons, ns_kids, List.cons_append]
    refine List.Perm.cons _ ((bq_perm m _ (bq_step h)).trans ?_)
    rw [List.flatMap_append]
    exact List.perm_append_comm
theorem nT_cn : ∀ (n : Nat) (p : List Bool) (qs : PL), p.length + n = 16 → nT p (cn n qs) = (nds n p qs).map fun x => (x.1, nt x)
  | 0, p, qs, h => by
    have e : isFork (cn 0 qs) = false := by
      match qs with
      | [] => rfl
      | [q] => rfl
      | q :: q' :: r => rfl
    rw [nT_leaf e]
    unfold nds
    rw [List.map_cons, List.map_nil]
    show [(p, cn 0 qs)] = [(p, cn (16 - p.length) qs)]
    rw [show 16 - p.length = 0 by omega]
  | n + 1, p, qs, h => by
    unfold nds
    by_cases hb : 2 ≤ qs.length
    · rw [if_pos hb, List.map_cons, List.map_append, ← nT_cn n (p ++ [false]) _ (by simp only [List.length_append, List.length_singleton]; omega), ← nT_cn n (p ++ [true]) _ (by simp only [List.length_append, List.length_singleton]; omega)]
      have e : nt (p, qs) = cn (n + 1) qs := by
        show cn (16 - p.length) qs = _
        rw [show 16 - p.length = n + 1 by omega]
      rw [e, cn_big hb, nT_fork]
    · rw [if_neg hb]
      have e : isFork (cn (n + 1) qs) = false := by
        match qs, hb with
        | [], _ => rfl
        | [q], _ => rfl
        | q :: q' :: r, hb => simp at hb
      rw [nT_leaf e, List.map_cons, List.map_nil]
      show [(p, cn (n + 1) qs)] = [(p, cn (16 - p.length) qs)]
      rw [show 16 - p.length = n + 1 by omega]
abbrev kyP (x : Pt) : Key := .inr (pS x.p)
/-- the entries of a map's split -/
def bqA (ps : PL) : List Pt := bq (Pt.ns ⟨16, [], ps⟩).length [⟨16, [], ps⟩]
theorem rootle (ps : PL) : (([⟨16, [], ps⟩] : List Pt).flatMap Pt.ns).length ≤ (Pt.ns ⟨16, [], ps⟩).length := by rw [List.flatMap_cons, List.flatMap_nil, List.append_nil]; exact Nat.le_refl _
theorem bqA_perm (ps : PL) : ((bqA ps).map pq).Perm (nds 16 [] ps) := by
  have := bq_perm (Pt.ns ⟨16, [], ps⟩).length [⟨16, [], ps⟩] (rootle ps)
  rw [List.flatMap_cons, List.flatMap_nil, List.append_nil] at this
  exact this
theorem bqA_nodup (ps : PL) : ((bqA ps).map kyP).Nodup := by
  have h1 : ((nds 16 [] ps).map (·.1)).Nodup := by
    have := nT_nodup (cn 16 ps) []
    rw [nT_cn 16 [] ps rfl, List.map_map] at this
    exact this
  have h2 := ((bqA_perm ps).map (fun x : List Bool × PL => x.1)).nodup_iff.mpr h1
  rw [List.map_map] at h2
  have := nodup_map (f := fun q : List Bool => (Sum.inr (pS q) : Key)) h2 fun a b e => pS_inj (Sum.inr.inj e)
  rw [List.map_map] at this
  exact this
theorem bqA_len {ps : PL} (hl : ps.length ≤ 1000) : (bqA ps).length < 1000000 := by
  have hm : (Pt.ns ⟨16, [], ps⟩).length ≤ 2 * 16 * ps.length + 1 := nds_len 16 [] ps
  have b1 := bq_len (Pt.ns ⟨16, [], ps⟩).length [⟨16, [], ps⟩]
  show (bq _ _).length < _
  omega
theorem bqA_split {ps : PL} (h : Gd 16 ps) (hl : ps.length ≤ 1000) : M__law_split [.lst (ps.map pd)] = .ok (.lst ((bqA ps).map En)) := by
  have hm : (Pt.ns ⟨16, [], ps⟩).length ≤ 2 * 16 * ps.length + 1 := nds_len 16 [] ps
  exact law_split h hl (by omega)
theorem bqA_ok {ps : PL} (h : Gd 16 ps) (hl : ps.length ≤ 1000) : ∀ x ∈ bqA ps, x.ok ∧ x.qs.length ≤ 1000 :=
  bq_ok _ _ fun x hx => by rw [List.mem_singleton.mp hx]; exact ⟨⟨rfl, h⟩, hl⟩
theorem bqA_kids (ps : PL) : ∀ pre x post, (bqA ps).reverse = pre ++ x :: post → ∀ y ∈ kids x, y ∈ pre := by
  intro pre x post e y hy
  have e2 : bqA ps = post.reverse ++ x :: pre.reverse := by
    rw [← List.reverse_reverse (bqA ps), e]
    simp
  exact List.mem_reverse.mp (bq_kids _ _ (rootle ps) _ x _ e2 y hy)
theorem bqA_top (ps : PL) : ⟨16, [], ps⟩ ∈ bqA ps := bq_sub _ _ (rootle ps) ⟨16, [], ps⟩ List.mem_cons_self
theorem mem_ofW : ∀ (n : Nat) (ps : PL) (p : List Bool), ∀ q ∈ ofW n ps p, q ∈ ps
  | _, ps, [], q, h => by simpa [ofW] using h
  | n + 1, ps, b :: p, q, h => by
    rw [ofW] at h
    exact (mem_fb.mp (mem_ofW n _ p q h)).1
  | 0, ps, _ :: _, q, h => by simp [ofW] at h
theorem bqA_mem {ps : PL} : ∀ x ∈ bqA ps, ∀ q ∈ x.qs, q ∈ ps := by
  intro x hx q hq
  have hf : Fits ps x := bq_fit (ps := ps) _ [⟨16, [], ps⟩] (fun y hy => by rw [List.mem_singleton.mp hy]; exact ⟨rfl, by simp [ofW]⟩) x hx
  rw [hf.2] at hq
  exact mem_ofW 16 ps x.p q hq
/-- values that are told -/
def PPV (ps : PL) : Prop := ∀ q ∈ ps, Nm q.1 ∧ PV q.2
theorem Nm.len {n : Nat} (h : n ≤ 1000) : Nm (n : Int) := ⟨by omega, by omega⟩
theorem cn_TV : ∀ (n : Nat) (qs : PL), PPV qs → qs.length ≤ 1000 → TV (cn n qs)
  | n, [], _, _ => by rw [cn_nil]; trivial
  | n, [q], h, _ => by rw [cn_one]; exact h q (by simp)
  | 0, _ :: _ :: _, _, _ => trivial
  | n + 1, p :: q :: r, h, hl => by
    rw [cn_big (by simp)]
    have l0 := (fb_sub n 0 (p :: q :: r)).length_le
    have l1 := (fb_sub n 1 (p :: q :: r)).length_le
    exact ⟨Nm.len hl, cn_TV n _ (fun x hx => h x (mem_fb.mp hx).1) (by omega), cn_TV n _ (fun x hx => h x (mem_fb.mp hx).1) (by omega)⟩
theorem cn_cut (n : Nat) (qs : PL) : isCut (cn n qs) = false := by
  rcases cn_cases n qs with e | ⟨q, _, e⟩ | ⟨m, l, r, e⟩ <;> rw [e] <;> rfl
theorem Mp.ppv {ps : PL} (h : Mp ps) : PPV ps := fun q hq => ⟨⟨(h.sp.spot q hq).1, by have := (h.sp.spot q hq).2; omega⟩, (h.lv q hq).pv⟩
/-- the law's text of a node -/
theorem law_node_text {b : Nat} (hb : b ≤ 60) {x : Pt} (hx : x.ok) (hv : PPV x.qs) (hl : x.qs.length ≤ 1000) {kv : List (Key × D)} (hk : ∀ y ∈ kids x, lk kv (kyP y) = some (rD b (cn y.n y.qs))) :
    M__law_node_text [.str (pS x.p), .lst (x.qs.map pd), .dct kv, .int (b : Int)] = .ok (.str (tx b (cn x.n x.qs))) := by
  obtain ⟨n, p, qs⟩ := x
  obtain ⟨h1, h2⟩ := hx
  simp only at h1 h2 hv hl ⊢
  match qs, h2, hv, hl, hk with
  | [], _, _, _, _ =>
    rw [cn_nil]
    rfl
  | [q], _, hv, _, _ =>
    rw [cn_one]
    obtain ⟨hq1, hq2⟩ := hv q (by simp)
    have t : truth (.lst [pd q]) = some true := rfl
    have e1 : opEq (.int (([pd q] : List D).length : Int)) (.int 1) = some (.bl true) := rfl
    have e2 : opIx (.lst [pd q]) (.int 0) = some (pd q) := rfl
    have e3 : opIx (pd q) (.int 0) = some (.int q.1) := rfl
    have e4 : opIx (pd q) (.int 1) = some q.2 := rfl
    have e5 : M__law_sum [.str (pk q.2), .int (b : Int)] = .ok (.int (tS b (pk q.2))) := law_sum (by omega)
    obtain ⟨a1, a2, a3⟩ := leaf_text hq1 (tS_nm hb (pk q.2))
    have e6 : (!([pd q] : List D).isEmpty) = true := rfl
    have e7 : ((([pd q] : List D).length : Int) == 1) = true := rfl
    simp_arith [M__law_node_text, b__law_node_text, e6, e7, e2, e3, e4, law_packed hq2, e5, fStr_n hq1, fStr_n (tS_nm hb (pk q.2)), a1, a2, a3]
    rfl
  | q :: q' :: r, h2, hv, hl, hk =>
    have hb2 : 2 ≤ (q :: q' :: r).length := by simp only [List.length_cons]; omega
    cases n with
    | zero => have := h2.zero; omega
    | succ n =>
      have hT := cn_TV (n + 1) _ hv hl
      rw [cn_big hb2] at hT ⊢
      rw [kids_big hb2] at hk
      have t : truth (.lst ((q :: q' :: r).map pd)) = some true := rfl
      have e1 : ((((q :: q' :: r).map pd).length : Int) == 1) = false := by rw [beq_eq_false_iff_ne, List.length_map]; omega
      obtain ⟨a1, a2⟩ := addS (p := p) (by omega)
      have l0 := hk _ List.mem_cons_self
      have l1 := hk _ (List.mem_cons_of_mem _ List.mem_cons_self)
      have i0 : opIx (.dct kv) (.str (pS (p ++ [false]))) = some (rD b (cn n (fb n 0 (q :: q' :: r)))) := by
        show (match lk kv (.inr (pS (p ++ [false]))) with | some d => some d | none => none) = _
        rw [l0]
      have i1 : opIx (.dct kv) (.str (pS (p ++ [true]))) = some (rD b (cn n (fb n 1 (q :: q' :: r)))) := by
        show (match lk kv (.inr (pS (p ++ [true]))) with | some d => some d | none => none) = _
        rw [l1]
      generalize hqs : q :: q' :: r = qs at *
      have e3 : d2 opAdd (d2 opIx (dV 2) (d2 opAdd (dV 0) (dC (.str "0")))) (d2 opIx (dV 2) (d2 opAdd (dV 0) (dC (.str "1")))) [some (.str (pS p)), some (.lst (qs.map pd)), some (.dct kv), some (.int (b : Int)), none] = .ok (.tup [.int (rs b (cn n (fb n 0 qs))), .int (cn n (fb n 0 qs)).many, .int (rs b (cn n (fb n 1 qs))), .int (cn n (fb n 1 qs)).many]) := by
        have e9 : opAdd (rD b (cn n (fb n 0 qs))) (rD b (cn n (fb n 1 qs))) = some (.tup [.int (rs b (cn n (fb n 0 qs))), .int (cn n (fb n 0 qs)).many, .int (rs b (cn n (fb n 1 qs))), .int (cn n (fb n 1 qs)).many]) := rfl
        simp_arith [a1, a2, i0, i1, e9]
      have e4 := fork_join (rs_nm hb hT.2.1) (many_nm hT.2.1) (rs_nm hb hT.2.2) (many_nm hT.2.2) (i := 4) e3 (fun _ => rfl)
      have eb : b__law_node_text = sSq (sIf (dtNot (dTr (dV 1))) (sSq (sRet (dC (.str "none"))) sNx) sNx) (sSq (sIf (dB (d2 opEq (d1 fLen (dV 1)) (dC (.int 1)))) (sSq (sRet (d2 opAdd (d2 opAdd (d2 opAdd (dC (.str "leaf ")) (d1 fStr (d2 opIx (d2 opIx (dV 1) (dC (.int 0))) (dC (.int 0))))) (dC (.str " "))) (d1 fStr (dCall M__law_sum (daC (dCall M__law_packed (daC (d2 opIx (d2 opIx (dV 1) (dC (.int 0))) (dC (.int 1))) daN)) (daC (dV 3) daN)))))) sNx) sNx)
        (sSq (sRet (d2 opAdd (dC (.str "fork ")) (dSm mJoin (dC (.str " ")) (dLc (diL (d2 opAdd (d2 opIx (dV 2) (d2 opAdd (dV 0) (dC (.str "0")))) (d2 opIx (dV 2) (d2 opAdd (dV 0) (dC (.str "1")))))) [4] (gN 4) tT (d1 fStr (dV 4)))))) sNx)) := (rfl)
      generalize d2 opAdd (dC (.str "fork ")) _ = E at e4 eb
      have t2 : (!(qs.map pd).isEmpty) = true := by rw [← hqs]; rfl
      simp_arith [M__law_node_text, eb, t2, e1, e4]
      rfl
theorem pt_val {b : Nat} {x : Pt} (hx : x.ok) : D.tup [.int (rs b (cn x.n x.qs)), .int (x.qs.length : Int)] = rD b (cn x.n x.qs) := by
  unfold rD
  rw [many_cn hx.2]
theorem law_sumN {b : Nat} (hb : b ≤ 60) {n : Nat} {qs : PL} : M__law_sum [.str (tx b (cn n qs)), .int (b : Int)] = .ok (.int (rs b (cn n qs))) := by
  rw [rs_tx (cn_cut n qs)]
  exact law_sum (by omega)
def lrB : DS := sSq (sPut 2 (dV 3) (dTup (daC (dCall M__law_sum (daC (dCallF M__law_node_text (daC (dV 3) (daC (dV 4) (daC (dV 2) (daC (dV 1) daN))))) (daC (dV 1) daN))) (daC (d1 fLen (dV 4)) daN)))) sNx
theorem b_lr : b__law_roots = sSq (sAs (gN 2) (dC (.dct []))) (sSq (sFor (diL (d1 opRev (dCall M__law_split (daC (d1 fSortedIt (dV 0)) daN)))) (gT [3, 4]) lrB) (sSq (sRet (dV 2)) sNx)) := (rfl)
def rootsL (b : Nat) (ps : PL) : List (Key × D) := (bqA ps).reverse.map fun x => (kyP x, rD b (cn x.n x.qs))
theorem law_roots {b : Nat} (hb : b ≤ 60) {kd : List (Key × D)} {ps : PL} (hs : fSortedIt (.dct kd) = some (.lst (ps.map pd))) (h : Gd 16 ps) (hv : PPV ps) (hl : ps.length ≤ 1000) :
    M__law_roots [.dct kd, .int (b : Int)] = .ok (.dct (rootsL b ps)) := by
  obtain ⟨s', e, q, w, rfl⟩ := bup (S := fun kv s => ∃ q w, s = [some (.dct kd), some (.int (b : Int)), some (.dct kv), q, w]) (key := kyP) (val := fun x => rD b (cn x.n x.qs)) (kids := kids) (L := (bqA ps).reverse) (g := gT [3, 4]) (b := lrB) (el := En) (s0 := [some (.dct kd), some (.int (b : Int)), some (.dct []), none, none])
    (by rw [List.map_reverse]; exact (List.reverse_perm _).nodup_iff.mpr (bqA_nodup ps)) (bqA_kids ps) (by rw [List.length_reverse]; exact bqA_len hl)
    (by
      rintro x kv s hx ⟨q, w, rfl⟩ hlk hk
      have hx := List.mem_reverse.mp hx
      obtain ⟨ho, hl2⟩ := bqA_ok h hl x hx
      have hlt : kv.length < SL := by show _ < 16777216; omega
      have hn := law_node_text hb ho (fun q hq => hv q (bqA_mem x hx q hq)) hl2 hk
      have hky : keyOf (.str (pS x.p)) = some (.inr (pS x.p)) := rfl
      have hflat : ∀ z : Str, (D.str z).flat = true := fun _ => rfl
      refine ⟨[some (.dct kd), some (.int (b : Int)), some (.dct kv), some (.str (pS x.p)), some (.lst (x.qs.map pd))], [some (.dct kd), some (.int (b : Int)), some (.dct (pt kv (kyP x) (rD b (cn x.n x.qs)))), some (.str (pS x.p)), some (.lst (x.qs.map pd))], rfl, ?_, _, _, rfl⟩
      simp_arith [lrB, hn, hflat, law_sumN hb, List.length_map, hky, if_pos hlt, pt_val ho])
    ⟨_, _, rfl⟩
  have er : opRev (.lst ((bqA ps).map En)) = some (.lst ((bqA ps).reverse.map En)) := by rw [List.map_reverse]; rfl
  have ed : diL (d1 opRev (dCall M__law_split (daC (d1 fSortedIt (dV 0)) daN))) [some (.dct kd), some (.int (b : Int)), some (.dct []), none, none] = .ok ((bqA ps).reverse.map En) := by
    have : d1 opRev (dCall M__law_split (daC (d1 fSortedIt (dV 0)) daN)) [some (.dct kd), some (.int (b : Int)), some (.dct []), none, none] = .ok (.lst ((bqA ps).reverse.map En)) := by
      simp_arith [hs, bqA_split h hl, er]
    unfold diL
    rw [this]
    rfl
  simp_arith [M__law_roots, b_lr, x_sFor ed, e]
  rfl
theorem rootsL_lk {b : Nat} {ps : PL} {x : Pt} (hx : x ∈ bqA ps) : lk (rootsL b ps) (kyP x) = some (rD b (cn x.n x.qs)) :=
  lk_map (key := kyP) (val := fun x => rD b (cn x.n x.qs)) (by rw [List.map_reverse]; exact (List.reverse_perm _).nodup_iff.mpr (bqA_nodup ps)) (List.mem_reverse.mpr hx)
theorem rootsL_top {b : Nat} {ps : PL} : opIx (.dct (rootsL b ps)) (.str "") = some (rD b (cn 16 ps)) := by
  have e := rootsL_lk (b := b) (bqA_top ps)
  show (match lk (rootsL b ps) (.inr (pS [])) with | some d => some d | none => none) = _
  rw [e]
end K49
/-! QG: maps as dicts and as sorted pairs. -/
namespace DL
abbrev Asc (ps : PL) : Prop := ps.Pairwise fun p q => p.1 < q.1
theorem insP_pm {α : Type} (p : Int × α) : ∀ l : List (Int × α), (insP p l).Perm (p :: l)
  | [] => List.Perm.refl _
  | q :: r => by
    unfold insP
    split
    · exact List.Perm.refl _
    · exact (List.Perm.cons q (insP_pm p r)).trans (List.Perm.swap p q r)
theorem sortP_pm {α : Type} : ∀ l : List (Int × α), (sortP l).Perm l
  | [] => List.Perm.refl _
  | p :: r => (insP_pm p (sortP r)).trans (List.Perm.cons p (sortP_pm r))
theorem insP_as {p : Int × D} : ∀ {l : PL}, Asc l → (∀ q ∈ l, q.1 ≠ p.1) → Asc (insP p l)
  | [], _, _ => by simp [insP]
  | q :: r, h, hn => by
    have hh := List.pairwise_cons.mp h
    have h1 := hn q List.mem_cons_self
    unfold insP
    split
    · rename_i c
      refine List.pairwise_cons.mpr ⟨fun x hx => ?_, h⟩
      rcases List.mem_cons.mp hx with rfl | hx
      · omega
      · have := hh.1 x hx; omega
    · rename_i c
      refine List.pairwise_cons.mpr ⟨fun x hx => ?_, insP_as hh.2 fun x hx => hn x (List.mem_cons_of_mem _ hx)⟩
      rcases List.mem_cons.mp ((insP_pm p r).mem_iff.mp hx) with rfl | hx
      · omega
      · exact hh.1 x hx
theorem sortP_as : ∀ {l : PL}, (l.map (·.1)).Nodup → Asc (sortP l)
  | [], _ => List.Pairwise.nil
  | p :: r, h => by
    rw [List.map_cons, List.nodup_cons] at h
    refine insP_as (sortP_as h.2) fun q hq e => h.1 ?_
    rw [← e]
    exact List.mem_map.mpr ⟨q, (sortP_pm r).mem_iff.mp hq, rfl⟩
theorem insI_map {p : Int × D} : ∀ l : PL, insI p.1 (l.map (·.1)) = (insP p l).map (·.1)
  | [] => rfl
  | q :: r => by
    unfold insP
    rw [List.map_cons]
    unfold insI
    split
    · rfl
    · rw [insI_map r]; rfl
theorem sortI_map : ∀ l : PL, sortI (l.map (·.1)) = (sortP l).map (·.1)
  | [] => rfl
  | p :: r => by
    rw [List.map_cons]
    show insI p.1 (sortI (r.map (·.1))) = _
    rw [sortI_map r]
    exact insI_map _
theorem nodup_of_map {α β : Type} {f : α → β} : ∀ {l : List α}, (l.map f).Nodup → l.Nodup
  | [], _ => List.nodup_nil
  | a :: l, h => by
    rw [List.map_cons, List.nodup_cons] at h
    exact List.nodup_cons.mpr ⟨fun hm => h.1 (List.mem_map.mpr ⟨a, hm, rfl⟩), nodup_of_map h.2⟩
end DL
namespace K49
open DL
open PySem (Str)
theorem lkP_lt {k : Int} {ps : PL} (h : ∀ p ∈ ps, k < p.1) : lkP k ps = none := lkP_none fun p hp => by have := h p hp; omega
theorem lkP_cons {k : Int} {p : Int × D} {r : PL} : lkP k (p :: r) = if p.1 = k then some p.2 else lkP k r := rfl
theorem asc_ext : ∀ {ps qs : PL}, Asc ps → Asc qs → (∀ k, lkP k ps = lkP k qs) → ps = qs
  | [], [], _, _, _ => rfl
  | [], q :: s, _, _, h => by
    have := h q.1
    rw [lkP_cons, if_pos rfl] at this
    cases this
  | p :: r, [], _, _, h => by
    have := h p.1
    rw [lkP_cons, if_pos rfl] at this
    cases this
  | p :: r, q :: s, h1, h2, h => by
    have a1 := List.pairwise_cons.mp h1
    have a2 := List.pairwise_cons.mp h2
    have e1 := h p.1
    rw [lkP_cons, if_pos rfl] at e1
    have m1 := lkP_mem e1.symm
    have e2 := h q.1
    rw [lkP_cons (p := q), if_pos rfl] at e2
    have m2 := lkP_mem e2
    have ek : p.1 = q.1 := by
      rcases List.mem_cons.mp m1 with e | m1
      · exact congrArg (·.1) e
      · rcases List.mem_cons.mp m2 with e | m2
        · exact (congrArg (·.1) e).symm
        · have u1 := a2.1 _ m1
          have u2 := a1.1 _ m2
          simp only at u1 u2
          omega
    have ev : p.2 = q.2 := by
      rw [lkP_cons, if_pos ek.symm] at e1
      exact Option.some.inj e1
    have ep : p = q := Prod.ext ek ev
    subst ep
    rw [asc_ext a1.2 a2.2 fun k => ?_]
    by_cases c : p.1 = k
    · subst c
      rw [lkP_lt a1.1, lkP_lt a2.1]
    · have := h k
      rw [lkP_cons, lkP_cons, if_neg c, if_neg c] at this
      exact this
theorem lkP_upd {k j : Int} {v : D} : ∀ {ps : PL}, Asc ps → lkP k (updP j v ps) = if k = j then (if isZ v = true then none else some v) else lkP k ps
  | [], _ => by
    rw [updP_nil]
    by_cases z : isZ v = true
    · rw [if_pos z, if_pos z]
      show none = _
      split <;> rfl
    · rw [if_neg z, if_neg z, lkP_cons]
      by_cases c : k = j
      · rw [if_pos c, if_pos c.symm]
      · rw [if_neg c, if_neg (fun e => c e.symm)]
  | p :: r, h => by
    have a := List.pairwise_cons.mp h
    rw [updP_cons]
    by_cases c1 : j < p.1
    · rw [if_pos c1]
      by_cases z : isZ v = true
      · rw [if_pos z, if_pos z]
        by_cases c : k = j
        · rw [if_pos c]
          refine lkP_lt fun x hx => ?_
          rcases List.mem_cons.mp hx with rfl | hx
          · omega
          · have := a.1 x hx; omega
        · rw [if_neg c]
      · rw [if_neg z, if_neg z, lkP_cons]
        by_cases c : k = j
        · rw [if_pos c, if_pos c.symm]
        · rw [if_neg c, if_neg (fun e => c e.symm)]
    · rw [if_neg c1]
      by_cases c2 : j = p.1
      · rw [if_pos c2]
        by_cases z : isZ v = true
        · rw [if_pos z, if_pos z]
          by_cases c : k = j
          · rw [if_pos c]
            exact lkP_lt fun x hx => by have := a.1 x hx; omega
          · rw [if_neg c, lkP_cons, if_neg (fun e => c (by omega))]
        · rw [if_neg z, if_neg z, lkP_cons]
          by_cases c : k = j
          · rw [if_pos c, if_pos c.symm]
          · rw [if_neg c, if_neg (fun e => c e.symm), lkP_cons, if_neg (fun e => c (by omega))]
      · rw [if_neg c2, lkP_cons, lkP_upd a.2, lkP_cons]
        by_cases c : p.1 = k
        · rw [if_pos c, if_pos c, if_neg (fun e => c2 (by omega))]
        · rw [if_neg c, if_neg c]
/-! ### dicts of a script -/
structure KM (kd : List (Key × D)) (n : Nat) : Prop where
  kn : KN kd
  ok : ∀ x ∈ kd, ∃ k, x.1 = .inl k ∧ Spot k ∧ LV x.2
  len : kd.length ≤ n
def prs (kd : List (Key × D)) : PL := kd.filterMap fun x => match x.1 with
  | .inl k => some (k, x.2)
  | .inr _ => none
def srt (kd : List (Key × D)) : PL := sortP (prs kd)
theorem mem_prs {kd : List (Key × D)} {k : Int} {v : D} : (k, v) ∈ prs kd ↔ (.inl k, v) ∈ kd := by
  unfold prs
  rw [List.mem_filterMap]
  constructor
  · rintro ⟨⟨k', w⟩, h1, h2⟩
    cases k' with
    | inl k' =>
      simp only [Option.some.injEq, Prod.mk.injEq] at h2
      rw [← h2.1, ← h2.2]
      exact h1
    | inr _ => cases h2
  · intro h
    exact ⟨_, h, rfl⟩
theorem mem_srt {kd : List (Key × D)} {k : Int} {v : D} : (k, v) ∈ srt kd ↔ (.inl k, v) ∈ kd := (sortP_pm _).mem_iff.trans mem_prs
theorem LV.flat {v : D} (h : LV v) : v.flat = true := by
  rcases h with ⟨i, rfl, _⟩ | ⟨s, rfl, _⟩ <;> rfl
theorem KM.prs_map {kd : List (Key × D)} {n : Nat} (h : KM kd n) : (prs kd).map (fun p => (Sum.inl p.1 : Key)) = kd.map (·.1) ∧ intPairs kd = some (prs kd) ∧ intKeys kd = some ((prs kd).map (·.1)) ∧ (prs kd).length = kd.length := by
  have h2 := h.ok
  clear h
  induction kd with
  | nil => exact ⟨rfl, rfl, rfl, rfl⟩
  | cons x kd ih =>
    obtain ⟨e1, e2, e3, e4⟩ := ih fun y hy => h2 y (List.mem_cons_of_mem _ hy)
    obtain ⟨k, hk, _, hv⟩ := h2 x List.mem_cons_self
    obtain ⟨k', v⟩ := x
    simp only at hk hv
    subst hk
    have ep : prs ((.inl k, v) :: kd) = (k, v) :: prs kd := rfl
    refine ⟨by rw [ep, List.map_cons, List.map_cons, e1], ?_, ?_, by rw [ep, List.length_cons, List.length_cons, e4]⟩
    · unfold intPairs
      rw [if_pos hv.flat, e2]
      rfl
    · unfold intKeys
      rw [e3]
      rfl
theorem KM.nodup {kd : List (Key × D)} {n : Nat} (h : KM kd n) : ((prs kd).map (·.1)).Nodup := by
  have h1 := h.kn
  unfold KN at h1
  rw [← h.prs_map.1] at h1
  have : (prs kd).map (fun p => (Sum.inl p.1 : Key)) = ((prs kd).map (·.1)).map Sum.inl := by rw [List.map_map]; rfl
  rw [this] at h1
  exact nodup_of_map h1
theorem KM.asc {kd : List (Key × D)} {n : Nat} (h : KM kd n) : Asc (srt kd) := sortP_as h.nodup
theorem srt_len {kd : List (Key × D)} {n : Nat} (h : KM kd n) : (srt kd).length = kd.length := by
  rw [← h.prs_map.2.2.2]
  exact (sortP_pm _).length_eq
theorem KM.mp {kd : List (Key × D)} {n : Nat} (h : KM kd n) (hn : n ≤ 1000) : Mp (srt kd) := by
  have hm : ∀ p ∈ srt kd, Spot p.1 ∧ LV p.2 := fun p hp => by
    obtain ⟨k, e, h1, h2⟩ := h.ok _ (mem_srt.mp hp)
    cases e
    exact ⟨h1, h2⟩
  exact ⟨⟨h.asc, fun p hp => (hm p hp).1⟩, fun p hp => (hm p hp).2, by have := srt_len h; have := h.len; omega⟩
theorem KM.sit {kd : List (Key × D)} {n : Nat} (h : KM kd n) (hn : n < 64) : fSortedIt (.dct kd) = some (.lst ((srt kd).map pd)) := by
  have hl := h.len
  obtain ⟨_, e, _, el⟩ := h.prs_map
  unfold fSortedIt
  simp only [e]
  rw [if_pos (by omega)]
  rfl
theorem KM.so {kd : List (Key × D)} {n : Nat} (h : KM kd n) (hn : n < 64) : fSorted (.dct kd) = some (.lst ((srt kd).map fun p => .int p.1)) := by
  have hl := h.len
  obtain ⟨_, _, e, el⟩ := h.prs_map
  unfold fSorted
  simp only [e]
  rw [if_pos (by rw [List.length_map]; omega), sortI_map, List.map_map]
  rfl
theorem KM.lk {kd : List (Key × D)} {n : Nat} (h : KM kd n) (k : Int) : lkP k (srt kd) = lk kd (.inl k) := by
  cases e : DL.lk kd (.inl k) with
  | some v => exact lkP_of h.asc (mem_srt.mpr (lk_mem e))
  | none =>
    cases e2 : lkP k (srt kd) with
    | none => rfl
    | some v =>
      have := lk_of h.kn (mem_srt.mp (lkP_mem e2))
      rw [e] at this
      cases this
theorem pt_keys {α : Type} (kvs : List (Key × α)) (k : Key) (v : α) : (pt kvs k v).map (·.1) = if (kvs.any fun kv => decide (kv.1 = k)) = true then kvs.map (·.1) else kvs.map (·.1) ++ [k] := by
  unfold pt
  split
  · rw [List.map_map]
    refine List.map_congr_left fun x _ => ?_
    show (if x.1 = k then (x.1, v) else x).1 = x.1
    split <;> rfl
  · rw [List.map_append]
    rfl
theorem kn_pt {α : Type} {kvs : List (Key × α)} (h : KN kvs) (k : Key) (v : α) : KN (pt kvs k v) := by
  unfold KN at *
  rw [pt_keys]
  split
  · exact h
  · rename_i c
    rw [List.nodup_append]
    refine ⟨h, by simp, fun a ha b hb e => c ?_⟩
    obtain ⟨x, hx, e1⟩ := List.mem_map.mp ha
    rw [List.mem_singleton] at hb
    exact List.any_eq_true.mpr ⟨x, hx, by rw [decide_eq_true_eq, e1, e, hb]⟩
theorem mem_pt {α : Type} {kvs : List (Key × α)} {k : Key} {v : α} {x : Key × α} (h : x ∈ pt kvs k v) : x = (k, v) ∨ x ∈ kvs := by
  unfold pt at h
  split at h
  · obtain ⟨y, hy, e⟩ := List.mem_map.mp h
    split at e
    · rename_i c
      left
      rw [← e, c]
    · right
      rw [← e]
      exact hy
  · rcases List.mem_append.mp h with h | h
    · exact .inr h
    · exact .inl (List.mem_singleton.mp h)
theorem KM.pt {kd : List (Key × D)} {n : Nat} (h : KM kd n) {k : Int} {v : D} (hk : Spot k) (hv : LV v) : KM (DL.pt kd (.inl k) v) (n + 1) where
  kn := kn_pt h.kn _ _
  ok := fun x hx => by
    rcases mem_pt hx with rfl | hx
    · exact ⟨k, rfl, hk, hv⟩
    · exact h.ok x hx
  len := by have := pt_len kd (.inl k) v; have := h.len; omega
theorem KM.dl {kd : List (Key × D)} {n : Nat} (h : KM kd n) (k : Key) : KM (DL.dl kd k) n where
  kn := by
    have h1 := h.kn
    unfold KN at *
    exact h1.sublist ((List.filter_sublist).map _)
  ok := fun x hx => h.ok x (List.mem_filter.mp hx).1
  len := Nat.le_trans (List.length_filter_le _ _) h.len
theorem lk_dl {α : Type} {kvs : List (Key × α)} {k j : Key} : lk (dl kvs k) j = if k = j then none else lk kvs j := by
  induction kvs with
  | nil => unfold dl lk; split <;> rfl
  | cons x kvs ih =>
    obtain ⟨k', v⟩ := x
    unfold dl at ih ⊢
    by_cases c : k' = k
    · rw [List.filter_cons_of_neg (by simp [c]), ih, lk_cons]
      by_cases c2 : k = j
      · rw [if_pos c2, if_pos c2]
      · rw [if_neg c2, if_neg c2, if_neg (fun e => c2 (c.symm.trans e))]
    · rw [List.filter_cons_of_pos (by simp [c]), lk_cons, ih, lk_cons]
      by_cases c2 : k' = j
      · rw [if_pos c2, if_pos c2, if_neg (fun e => c (c2.trans e.symm))]
      · rw [if_neg c2, if_neg c2]
theorem LV.nz {v : D} (h : LV v) : isZ v = false := by
  rcases h with ⟨i, rfl, h1, _⟩ | ⟨s, rfl, _⟩
  · show (i == 0) = false
    rw [beq_eq_false_iff_ne]; omega
  · rfl
theorem KM.srt_pt {kd : List (Key × D)} {n : Nat} (h : KM kd n) {k : Int} {v : D} (hk : Spot k) (hv : LV v) : srt (DL.pt kd (.inl k) v) = updP k v (srt kd) := by
  refine asc_ext (h.pt hk hv).asc (asc_updP h.asc) fun j => ?_
  rw [(h.pt hk hv).lk, lkP_upd h.asc, lk_pt, h.lk, hv.nz]
  by_cases c : k = j
  · rw [if_pos (by rw [c]), if_pos c.symm]; rfl
  · rw [if_neg (fun e => c (Sum.inl.inj e)), if_neg (fun e => c e.symm)]
theorem KM.srt_dl {kd : List (Key × D)} {n : Nat} (h : KM kd n) {k : Int} : srt (DL.dl kd (.inl k)) = updP k (.int 0) (srt kd) := by
  refine asc_ext (h.dl _).asc (asc_updP h.asc) fun j => ?_
  rw [(h.dl _).lk, lkP_upd h.asc, lk_dl, h.lk]
  by_cases c : k = j
  · rw [if_pos (by rw [c]), if_pos c.symm]; rfl
  · rw [if_neg (fun e => c (Sum.inl.inj e)), if_neg (fun e => c e.symm)]
/-! ### histories -/
theorem putsP_app (acc a b : PL) : putsP acc (a ++ b) = putsP (putsP acc a) b := List.foldl_append
theorem puts_asc : ∀ (prs acc : PL), Asc acc → Asc (putsP acc prs)
  | [], _, h => h
  | p :: prs, acc, h => puts_asc prs (updP p.1 p.2 acc) (asc_updP h)
/-- not written -/
theorem puts_no {k : Int} : ∀ (prs acc : PL), Asc acc → (∀ p ∈ prs, p.1 ≠ k) → lkP k (putsP acc prs) = lkP k acc
  | [], _, _, _ => rfl
  | p :: prs, acc, h, hp => by
    show lkP k (putsP (updP p.1 p.2 acc) prs) = _
    rw [puts_no prs _ (asc_updP h) fun q hq => hp q (List.mem_cons_of_mem _ hq), lkP_upd h, if_neg (fun e => hp p List.mem_cons_self e.symm)]
/-- each time the same written -/
theorem puts_yes {k : Int} {v : D} : ∀ (prs acc : PL), Asc acc → (∀ p ∈ prs, p.1 = k → p.2 = v) → (∃ p ∈ prs, p.1 = k) → lkP k (putsP acc prs) = if isZ v = true then none else some v
  | [], _, _, _, h => by obtain ⟨p, hp, _⟩ := h; cases hp
  | p :: prs, acc, h, hp, hx => by
    show lkP k (putsP (updP p.1 p.2 acc) prs) = _
    by_cases c : ∃ q ∈ prs, q.1 = k
    · exact puts_yes prs _ (asc_updP h) (fun q hq => hp q (List.mem_cons_of_mem _ hq)) c
    · obtain ⟨q, hq, e⟩ := hx
      rcases List.mem_cons.mp hq with rfl | hq
      · rw [puts_no prs _ (asc_updP h) fun x hx e => c ⟨x, hx, e⟩, lkP_upd h, if_pos e.symm, hp q List.mem_cons_self e]
      · exact absurd ⟨q, hq, e⟩ c
/-- a map from the last writes -/
theorem puts_eq {prs ps : PL} (h : Asc ps) (hz : ∀ p ∈ ps, isZ p.2 = false) (hp : ∀ p ∈ prs, p ∈ ps) (hq : ∀ p ∈ ps, p ∈ prs) : putsP [] prs = ps := by
  refine asc_ext (puts_asc _ _ List.Pairwise.nil) h fun k => ?_
  cases e : lkP k ps with
  | some v =>
    have m := lkP_mem e
    rw [puts_yes prs [] List.Pairwise.nil (v := v) (fun p hp' ek => by
      have := lkP_of h (hp p hp')
      rw [ek, e] at this
      exact (Option.some.inj this).symm) ⟨_, hq _ m, rfl⟩, hz _ m]
    rfl
  | none =>
    rw [puts_no prs [] List.Pairwise.nil fun p hp' ek => by
      have := lkP_of h (hp p hp')
      rw [ek, e] at this
      cases this]
    rfl
/-- the history of law k48 -/
theorem puts_hist {ps os a b c : PL} (h : Asc ps) (ho : Asc os) (hz : ∀ p ∈ ps, isZ p.2 = false) (ha : ∀ p, p ∈ a ↔ p ∈ ps) (hb : ∀ p, p ∈ b ↔ (∃ q ∈ os, q.1 = p.1) ∧ lkP p.1 ps = none ∧ p.2 = .int 0) (hc : ∀ p ∈ c, p ∈ ps) :
    putsP [] (os ++ a ++ b ++ c) = ps := by
  have z0 : Asc (putsP [] os) := puts_asc _ _ List.Pairwise.nil
  have z1 : Asc (putsP [] (os ++ a)) := puts_asc _ _ List.Pairwise.nil
  have z2 : Asc (putsP [] (os ++ a ++ b)) := puts_asc _ _ List.Pairwise.nil
  refine asc_ext (puts_asc _ _ List.Pairwise.nil) h fun k => ?_
  rw [putsP_app]
  have hin : ∀ p ∈ ps, lkP p.1 ps = some p.2 := fun p hp => lkP_of h hp
  cases e : lkP k ps with
  | some v =>
    have m := lkP_mem e
    have s1 : lkP k (putsP [] (os ++ a ++ b)) = some v := by
      rw [putsP_app, puts_no b _ z1 fun p hp ek => by
        have := ((hb p).mp hp).2.1
        rw [ek, e] at this
        cases this]
      rw [putsP_app, puts_yes a _ z0 (v := v) (fun p hp ek => by
        have := hin p ((ha p).mp hp)
        rw [ek, e] at this
        exact (Option.some.inj this).symm) ⟨_, (ha _).mpr m, rfl⟩, hz _ m]
      rfl
    by_cases q : ∃ p ∈ c, p.1 = k
    · rw [puts_yes c _ z2 (v := v) (fun p hp ek => by
        have := hin p (hc p hp)
        rw [ek, e] at this
        exact (Option.some.inj this).symm) q, hz _ m]
      rfl
    · rw [puts_no c _ z2 fun p hp ek => q ⟨p, hp, ek⟩, s1]
  | none =>
    rw [puts_no c _ z2 fun p hp ek => by
      have := hin p (hc p hp)
      rw [ek, e] at this
      cases this]
    rw [putsP_app]
    by_cases q : ∃ p ∈ b, p.1 = k
    · rw [puts_yes b _ z1 (v := .int 0) (fun p hp _ => ((hb p).mp hp).2.2) q]
      rfl
    · rw [puts_no b _ z1 fun p hp ek => q ⟨p, hp, ek⟩, putsP_app, puts_no a _ z0 fun p hp ek => by
        have := hin p ((ha p).mp hp)
        rw [ek, e] at this
        cases this]
      rw [puts_no os [] List.Pairwise.nil fun p hp ek => q ⟨(k, .int 0), (hb _).mpr ⟨⟨p, hp, ek⟩, e, rfl⟩, rfl⟩]
      rfl
end K49
/-! QH: what the law reads off its script. -/
namespace K49
open DL
open PySem (Str)
open Lean in
local macro_rules
  | `(tactic| simp_arith [$ls,*]) => `(tactic| simp only [x_def1, x_def2, x_def3, x_def4, x_def5, List.cons_append, List.nil_append, List.replicate, Nat.reduceSub, List.map_cons, List.map_nil, x_sSq, x_sIf, x_sRet, x_sE, x_sAsN, x_dV0, x_dVs, x_dC, x_d1, x_d2, x_dCall, x_dCallF, x_daC, x_daN, rb_ok, x_ofO_some, x_dB, x_boolR, x_dTr, x_dtAnd, x_dtOr, x_dtNot, x_dAnd, x_dNot, x_dIfE, x_dChain, x_sNx, x_sApp, x_ownL0, x_ownLs, x_ownD0, x_ownDs, x_sPut, x_sRai, List.set_cons_zero, List.set_cons_succ, Bool.not_true, Bool.not_false, Bool.false_eq_true, if_true, if_false, x_dTup, x_dLst, sl0, sl1, sl2, sl3, sl4, o_add, o_sub, o_eq, o_ne, o_lt, o_le, o_gt, o_ge, o_lenL, o_lenT, o_trB, o_trL, o_trT, o_int, $ls,*])
theorem d2_any {F : D → D → Option D} {a b : DE} {s : DSt} {x y z : D} (ha : a s = .ok x) (hb : b s = .ok y) (h : F x y = some z) : d2 F a b s = .ok z := by
  rw [x_d2, ha, rb_ok, hb, rb_ok, h, x_ofO_some]
theorem def3_rt {n : Nat} {b : DS} {a a' a'' d : D} {s : DSt} (hs : [some a, some a', some a''] ++ List.replicate (n - 3) none = s) (h : b s = .rt d) : defM n 3 b [a, a', a''] = .ok d := by
  rw [x_def3, hs, h]
theorem mulR {i j : Int} (h1 : -1000000000 < j) (h2 : j < 1000000000) : opMulI (.int i) (.int j) = some (.int (i * j)) := o_mul (by
  unfold mulOk
  rw [Bool.or_eq_true]
  right
  rw [decide_eq_true_eq]
  exact ⟨Int.lt_trans (by decide) h1, Int.lt_trans h2 (by decide)⟩)
theorem mulL {i j : Int} (h1 : -1000000000 < i) (h2 : i < 1000000000) : opMulI (.int i) (.int j) = some (.int (i * j)) := o_mul (by
  unfold mulOk
  rw [Bool.or_eq_true]
  left
  rw [decide_eq_true_eq]
  exact ⟨Int.lt_trans (by decide) h1, Int.lt_trans h2 (by decide)⟩)
theorem o_abs (i : Int) : fAbs (.int i) = some (.int (if i < 0 then -i else i)) := rfl
theorem m1 (i : Int) : opMulI (.int i) (.int 48271) = some (.int (i * 48271)) := mulR (by decide) (by decide)
theorem m2 (i : Int) : opMulI (.int i) (.int 69621) = some (.int (i * 69621)) := mulR (by decide) (by decide)
theorem m3 (i : Int) : opMulI (.int i) (.int 16807) = some (.int (i * 16807)) := mulR (by decide) (by decide)
theorem m4 (i : Int) : opMulI (.int i) (.int 31) = some (.int (i * 31)) := mulR (by decide) (by decide)
theorem d1m (i : Int) : opMod (.int i) (.int 2147483647) = some (.int (i % 2147483647)) := o_mod (by decide)
theorem d2m (i : Int) : opMod (.int i) (.int 2147483629) = some (.int (i % 2147483629)) := o_mod (by decide)
theorem law_mixed (c k : Int) : ∃ m, M__law_mixed [.int c, .int k] = .ok (.int m) := by
  refine ⟨((((if c < 0 then -c else c) + 1) * 48271 + k * 69621) % 2147483647 * 16807 + k * 31) % 2147483629, ?_⟩
  simp_arith [M__law_mixed, b__law_mixed, o_abs, m1, m2, m3, m4, d1m, d2m]
def rwB : DS := sSq (sIf (dTr (dV 5)) (sSq (sApp 3 (d2 opMod (d1 fInt (dV 4)) (dV 2))) (sSq (sAs (gN 4) (d2 opFdiv (dV 4) (dV 2))) sNx)) (sSq (sApp 3 (d2 opMod (d2 opFdiv (dCall M__law_mixed (daC (dV 0) (daC (dV 6) daN))) (dC (.int 7))) (dV 2))) sNx)) sNx
theorem b_rw : b__law_row = sSq (sAs (gN 3) (dLst daN)) (sSq (sAs (gN 4) (d1 fInt (dV 0))) (sSq (sAs (gN 5) (d2 opGe (dV 4) (dC (.int 1000000000000000000)))) (sSq (sFor (diR1 (dV 1)) (gN 6) rwB) (sSq (sRet (dV 3)) sNx)))) := (rfl)
/-- numbers from 0 below top -/
def Dg (top : Int) (xs : List Int) : Prop := ∀ x ∈ xs, 0 ≤ x ∧ x < top
theorem row_step {c left k : Int} {b : Option D} {g : Bool} {top : Int} (h0 : 0 < top) (h1 : top < 1073741824) {fs : List Int} (hl : fs.length < 1000000) :
    ∃ x left', (0 ≤ x ∧ x < top) ∧ rwB [some (.int c), b, some (.int top), some (.lst (fs.map D.int)), some (.int left), some (.bl g), some (.int k)] = .nx [some (.int c), b, some (.int top), some (.lst ((fs ++ [x]).map D.int)), some (.int left'), some (.bl g), some (.int k)] := by
  have hsl : (fs.map D.int).length < SL := by rw [List.length_map]; show _ < 16777216; omega
  cases g with
  | true =>
    refine ⟨left % top, left / top, ⟨Int.emod_nonneg _ (by omega), Int.emod_lt_of_pos _ h0⟩, ?_⟩
    simp_arith [rwB, o_mod h0, o_fdiv h0 h1, if_pos hsl, List.map_append]
  | false =>
    obtain ⟨m, em⟩ := law_mixed c k
    refine ⟨m / 7 % top, left, ⟨Int.emod_nonneg _ (by omega), Int.emod_lt_of_pos _ h0⟩, ?_⟩
    simp_arith [rwB, em, o_fdiv (show (0 : Int) < 7 by decide) (show (7 : Int) < 1073741824 by decide), o_mod h0, if_pos hsl, List.map_append]
theorem row_loop {c : Int} {b : Option D} {g : Bool} {top : Int} (h0 : 0 < top) (h1 : top < 1073741824) : ∀ (j : Nat) (lo left : Int) (fs : List Int) (k : Option D), fs.length + j < 1000000 → Dg top fs →
    ∃ gs left' k', forL (gN 6) rwB (rg lo j 1) [some (.int c), b, some (.int top), some (.lst (fs.map D.int)), some (.int left), some (.bl g), k] = .nx [some (.int c), b, some (.int top), some (.lst (gs.map D.int)), some (.int left'), some (.bl g), k'] ∧ gs.length = fs.length + j ∧ Dg top gs := by
  intro j
  induction j with
  | zero => intro lo left fs k _ hd; exact ⟨fs, left, k, rfl, rfl, hd⟩
  | succ j ih =>
    intro lo left fs k hl hd
    obtain ⟨x, left', hx, e⟩ := row_step (c := c) (left := left) (k := lo) (b := b) (g := g) h0 h1 (fs := fs) (by omega)
    obtain ⟨gs, l2, k2, e2, e3, e4⟩ := ih (lo + 1) left' (fs ++ [x]) (some (.int lo)) (by rw [List.length_append, List.length_singleton]; omega) (fun y hy => by
      rcases List.mem_append.mp hy with hy | hy
      · exact hd y hy
      · rw [List.mem_singleton.mp hy]; exact hx)
    refine ⟨gs, l2, k2, ?_, by rw [e3, List.length_append, List.length_singleton]; omega, e4⟩
    rw [rg_succ, x_forN]
    simp only [List.set_cons_zero, List.set_cons_succ]
    rw [e]
    exact e2
theorem row_all {c : Int} {n : Nat} (hn : n < 1000) {top : Int} (h0 : 0 < top) (h1 : top < 1073741824) {E : DE} {g : Bool} (hE : E [some (.int c), some (.int (n : Int)), some (.int top), some (.lst []), some (.int c), none, none] = .ok (.bl g)) :
    ∃ xs : List Int, sSq (sAs (gN 3) (dLst daN)) (sSq (sAs (gN 4) (d1 fInt (dV 0))) (sSq (sAs (gN 5) E) (sSq (sFor (diR1 (dV 1)) (gN 6) rwB) (sSq (sRet (dV 3)) sNx)))) [some (.int c), some (.int (n : Int)), some (.int top), none, none, none, none] = .rt (.lst (xs.map D.int)) ∧ xs.length = n ∧ Dg top xs := by
  obtain ⟨gs, l2, k2, e, e3, e4⟩ := row_loop (c := c) (b := some (.int (n : Int))) (g := g) h0 h1 n 0 c [] none (by rw [List.length_nil]; omega) (fun x hx => by cases hx)
  have hd : diR1 (dV 1) [some (.int c), some (.int (n : Int)), some (.int top), some (.lst []), some (.int c), some (.bl g), none] = .ok (rg 0 n 1) := x_diR1 rfl hn
  have e : forL (gN 6) rwB (rg 0 n 1) [some (.int c), some (.int (n : Int)), some (.int top), some (.lst []), some (.int c), some (.bl g), none] = _ := e
  refine ⟨gs, ?_, by rw [e3, List.length_nil, Nat.zero_add], e4⟩
  simp_arith [hE, x_sFor hd, e]
theorem law_row (c : Int) {n : Nat} (hn : n < 1000) {top : Int} (h0 : 0 < top) (h1 : top < 1073741824) : ∃ xs : List Int, M__law_row [.int c, .int (n : Int), .int top] = .ok (.lst (xs.map D.int)) ∧ xs.length = n ∧ Dg top xs := by
  have hE : ∃ g, d2 opGe (dV 4) (dC (.int 1000000000000000000)) [some (.int c), some (.int (n : Int)), some (.int top), some (.lst []), some (.int c), none, none] = .ok (.bl g) := ⟨decide ((1000000000000000000 : Int) ≤ c), d2_any rfl rfl o_ge⟩
  obtain ⟨g, hE⟩ := hE
  obtain ⟨xs, e, h⟩ := row_all hn h0 h1 hE
  refine ⟨xs, ?_, h⟩
  unfold M__law_row
  refine def3_rt rfl ?_
  rw [b_rw]
  exact e
theorem o_lenR (ns : List Int) : fLen (.scr ns) = some (D.int (ns.length : Int)) := rfl
theorem o_ixR {ns : List Int} {n : Nat} {y : Int} (h : ns[n]? = some y) : opIx (.scr ns) (.int (n : Int)) = some (D.int y) := by
  show (match L2.atI ns (n : Int) with | some d => some (D.int d) | none => none) = _
  rw [atI_nat h]
theorem m5 (i : Int) : opMulI (.int 3) (.int i) = some (.int (3 * i)) := mulL (by decide) (by decide)
theorem law_at (ns : List Int) (k : Nat) : ∃ i, M__law_at [.scr ns, .int (k : Int)] = .ok (.int i) := by
  cases h : ns[k]? with
  | some y =>
    have hk := (List.getElem?_eq_some_iff.mp h).1
    have hd : decide ((k : Int) < (ns.length : Int)) = true := decide_eq_true (by omega)
    refine ⟨y, ?_⟩
    simp_arith [M__law_at, b__law_at, o_lenR, hd, o_ixR h]
  | none =>
    have hk := List.getElem?_eq_none_iff.mp h
    have hd : decide ((k : Int) < (ns.length : Int)) = false := decide_eq_false (by omega)
    refine ⟨5 + 3 * (k : Int), ?_⟩
    simp_arith [M__law_at, b__law_at, o_lenR, hd, m5]
theorem map_get {xs : List Int} {n : Nat} {x : Int} (h : xs[n]? = some x) : (xs.map D.int)[n]? = some (.int x) := by rw [List.getElem?_map, h]; rfl
/-- the bits of a sum -/
theorem law_bits (c : Int) : ∃ b : Nat, 4 ≤ b ∧ b ≤ 60 ∧ M__law_bits [.int c] = .ok (.int (b : Int)) := by
  obtain ⟨xs, e, hl, hd⟩ := law_row c (n := 1) (by omega) (top := 7) (by decide) (by decide)
  match xs, hl with
  | [x], _ =>
    obtain ⟨h1, h2⟩ := hd x (by simp)
    have e : M__law_row [.int c, .int 1, .int 7] = .ok (.lst [.int x]) := e
    have e0 : opIx (.lst [.int x]) (.int 0) = some (.int x) := rfl
    have hx : x = 0 ∨ x = 1 ∨ x = 2 ∨ x = 3 ∨ x = 4 ∨ x = 5 ∨ x = 6 := by omega
    have hsl : (([D.int 4, .int 5, .int 6, .int 8, .int 12, .int 30, .int 60] : List D).length ≤ SL) = True := eq_true (by show 7 ≤ 16777216; omega)
    have main : ∀ (b : Nat), opIx (.lst [D.int 4, .int 5, .int 6, .int 8, .int 12, .int 30, .int 60]) (.int x) = some (.int (b : Int)) → M__law_bits [.int c] = .ok (.int (b : Int)) := fun b hb => by
      simp_arith [M__law_bits, b__law_bits, hsl, e, e0, hb]
    rcases hx with rfl | rfl | rfl | rfl | rfl | rfl | rfl
    · exact ⟨4, by decide, by decide, main 4 rfl⟩
    · exact ⟨5, by decide, by decide, main 5 rfl⟩
    · exact ⟨6, by decide, by decide, main 6 rfl⟩
    · exact ⟨8, by decide, by decide, main 8 rfl⟩
    · exact ⟨12, by decide, by decide, main 12 rfl⟩
    · exact ⟨30, by decide, by decide, main 30 rfl⟩
    · exact ⟨60, by decide, by decide, main 60 rfl⟩
/-! ### the map -/
def mpB : DS := (sSq (sAs (gN 8) (d2 opIx (dV 4) (d2 opMulI (dC (.int 2)) (dV 7))))
  (sSq (sIf (dB (d2 opEq (dV 5) (dC (.int 0)))) (sSq (sAs (gN 8) (d2 opMod (d1 fInt (dV 8)) (dC (.int 24))))
  sNx) sNx)
  (sSq (sIf (dB (d2 opEq (dV 5) (dC (.int 1)))) (sSq (sAs (gN 8) (d2 opAdd (d2 opMulI (d2 opMod (d1 fInt (dV 8)) (dC (.int 64))) (dC (.int 1024))) (d2 opMod (d2 opIx (dV 4) (d2 opAdd (d2 opMulI (dC (.int 2)) (dV 7)) (dC (.int 1)))) (dC (.int 3)))))
  sNx) sNx)
  (sSq (sAs (gN 9) (d2 opAdd (dC (.int 1)) (d2 opIx (dV 4) (d2 opAdd (d2 opMulI (dC (.int 2)) (dV 7)) (dC (.int 1))))))
  (sSq (sIf (dB (d2 opEq (d2 opMod (d2 opIx (dV 4) (d2 opAdd (d2 opMulI (dC (.int 2)) (dV 7)) (dC (.int 1)))) (dC (.int 7))) (dC (.int 0)))) (sSq (sAs (gN 9) (d2 opAdd (dC (.str "v")) (d1 fStr (d2 opIx (dV 4) (d2 opAdd (d2 opMulI (dC (.int 2)) (dV 7)) (dC (.int 1)))))))
  sNx) sNx)
  (sSq (sPut 6 (dV 8) (dV 9))
  sNx))))))
theorem b_mp : b__law_map = sSq (sAs (gN 3) (dCall M__law_row (daC (dV 0) (daC (dC (.int 2)) (daC (dC (.int 1000)) daN))))) (sSq (sAs (gN 4) (dCall M__law_row (daC (dV 1) (daC (d2 opMulI (dC (.int 2)) (dV 2)) (daC (dC (.int 65536)) daN)))))
  (sSq (sAs (gN 5) (d2 opMod (d2 opIx (dV 3) (dC (.int 1))) (dC (.int 3)))) (sSq (sAs (gN 6) (dC (.dct []))) (sSq (sFor (diR1 (d2 opMod (d2 opIx (dV 3) (dC (.int 0))) (d2 opAdd (dV 2) (dC (.int 1))))) (gN 7) mpB) (sSq (sRet (dV 6)) sNx))))) := (rfl)
theorem m6 (i : Int) : opMulI (.int 2) (.int i) = some (.int (2 * i)) := mulL (by decide) (by decide)
theorem m7 (i : Int) : opMulI (.int i) (.int 1024) = some (.int (i * 1024)) := mulR (by decide) (by decide)
theorem d24 (i : Int) : opMod (.int i) (.int 24) = some (.int (i % 24)) := o_mod (by decide)
theorem d64 (i : Int) : opMod (.int i) (.int 64) = some (.int (i % 64)) := o_mod (by decide)
theorem d3 (i : Int) : opMod (.int i) (.int 3) = some (.int (i % 3)) := o_mod (by decide)
theorem d5 (i : Int) : opMod (.int i) (.int 5) = some (.int (i % 5)) := o_mod (by decide)
theorem d7 (i : Int) : opMod (.int i) (.int 7) = some (.int (i % 7)) := o_mod (by decide)
theorem vS_lv {x : Int} (h : Nm x) : LV (.str ("v" ++ nS x)) := by
  have h1 := nS_len h
  have l1 : ("v" : Str).length = 1 := by decide +kernel
  refine .inr ⟨_, rfl, by rw [len_app, l1]; omega, by rw [len_app, l1]; omega, by rw [sOk_app, nS, sOk_of, sOk_of]; rfl⟩
theorem map_step {a0 a1 a2 a3 u v : Option D} {ms : List Int} {cl : Int} {kd : List (Key × D)} {n k : Nat} {x y : Int} (hx : ms[2 * k]? = some x) (hy : ms[2 * k + 1]? = some y) (bx : 0 ≤ x ∧ x < 65536) (by' : 0 ≤ y ∧ y < 65536) (h : KM kd n) (hn : n < 1000) :
    ∃ kd' u' v', mpB [a0, a1, a2, a3, some (.lst (ms.map D.int)), some (.int cl), some (.dct kd), some (.int (k : Int)), u, v] = .nx [a0, a1, a2, a3, some (.lst (ms.map D.int)), some (.int cl), some (.dct kd'), some (.int (k : Int)), u', v'] ∧ KM kd' (n + 1) := by
  have i1 : opIx (.lst (ms.map D.int)) (.int (2 * (k : Int))) = some (.int x) := by
    rw [show (2 * (k : Int)) = ((2 * k : Nat) : Int) by omega]
    exact o_ixL (map_get hx)
  have i2 : opIx (.lst (ms.map D.int)) (.int (2 * (k : Int) + 1)) = some (.int y) := by
    rw [show (2 * (k : Int) + 1) = ((2 * k + 1 : Nat) : Int) by omega]
    exact o_ixL (map_get hy)
  have hlen := h.len
  have hsl : kd.length < SL := by show _ < 16777216; omega
  have ky : ∀ i, keyOf (.int i) = some (.inl i) := fun _ => rfl
  have hv1 : Nm y := ⟨by'.1, by omega⟩
  have l1 : ("v" : Str).length = 1 := by decide +kernel
  have hvl := nS_len hv1
  have ev : opAdd (.str "v") (.str (nS y)) = some (.str ("v" ++ nS y)) := o_addS (by rw [l1]; show _ ≤ 16777216; omega)
  have hval : ∃ w, LV w ∧ ∀ (s : Int) (kk : Int), (sSq (sAs (gN 9) (d2 opAdd (dC (.int 1)) (d2 opIx (dV 4) (d2 opAdd (d2 opMulI (dC (.int 2)) (dV 7)) (dC (.int 1))))))
    (sSq (sIf (dB (d2 opEq (d2 opMod (d2 opIx (dV 4) (d2 opAdd (d2 opMulI (dC (.int 2)) (dV 7)) (dC (.int 1)))) (dC (.int 7))) (dC (.int 0)))) (sSq (sAs (gN 9) (d2 opAdd (dC (.str "v")) (d1 fStr (d2 opIx (dV 4) (d2 opAdd (d2 opMulI (dC (.int 2)) (dV 7)) (dC (.int 1)))))))
    sNx) sNx)
    (sSq (sPut 6 (dV 8) (dV 9)) sNx))) [a0, a1, a2, a3, some (.lst (ms.map D.int)), some (.int cl), some (.dct kd), some (.int (k : Int)), some (.int s), v] = .nx [a0, a1, a2, a3, some (.lst (ms.map D.int)), some (.int cl), some (.dct (pt kd (.inl s) w)), some (.int (k : Int)), some (.int s), some w] := by
    cases z : (y % 7 == 0) with
    | true =>
      refine ⟨_, vS_lv hv1, fun s kk => ?_⟩
      simp_arith [m6, i2, d7, z, fStr_n hv1, ev, ky, if_pos hsl]
    | false =>
      refine ⟨.int (1 + y), .inl ⟨_, rfl, by omega, by omega⟩, fun s kk => ?_⟩
      simp_arith [m6, i2, d7, z, ky, if_pos hsl]
  obtain ⟨w, hw, ew⟩ := hval
  have e1 : sAs (gN 8) (d2 opIx (dV 4) (d2 opMulI (dC (.int 2)) (dV 7))) [a0, a1, a2, a3, some (.lst (ms.map D.int)), some (.int cl), some (.dct kd), some (.int (k : Int)), u, v] = .nx [a0, a1, a2, a3, some (.lst (ms.map D.int)), some (.int cl), some (.dct kd), some (.int (k : Int)), some (.int x), v] := by
    simp_arith [m6, i1]
  unfold mpB
  rw [sq_nx e1]
  cases z0 : (cl == 0) with
  | true =>
    have hcl := eq_of_beq z0
    subst hcl
    have z1 : ((0 : Int) == 1) = false := rfl
    have sp : Spot (x % 24) := ⟨Int.emod_nonneg _ (by decide), by have := Int.emod_lt_of_pos x (show (0 : Int) < 24 by decide); omega⟩
    have e2 : sIf (dB (d2 opEq (dV 5) (dC (.int 0)))) (sSq (sAs (gN 8) (d2 opMod (d1 fInt (dV 8)) (dC (.int 24)))) sNx) sNx [a0, a1, a2, a3, some (.lst (ms.map D.int)), some (.int 0), some (.dct kd), some (.int (k : Int)), some (.int x), v] = .nx [a0, a1, a2, a3, some (.lst (ms.map D.int)), some (.int 0), some (.dct kd), some (.int (k : Int)), some (.int (x % 24)), v] := by
      simp_arith [z0, d24]
    have e3 : sIf (dB (d2 opEq (dV 5) (dC (.int 1)))) (sSq (sAs (gN 8) (d2 opAdd (d2 opMulI (d2 opMod (d1 fInt (dV 8)) (dC (.int 64))) (dC (.int 1024))) (d2 opMod (d2 opIx (dV 4) (d2 opAdd (d2 opMulI (dC (.int 2)) (dV 7)) (dC (.int 1)))) (dC (.int 3))))) sNx) sNx [a0, a1, a2, a3, some (.lst (ms.map D.int)), some (.int 0), some (.dct kd), some (.int (k : Int)), some (.int (x % 24)), v] = .nx [a0, a1, a2, a3, some (.lst (ms.map D.int)), some (.int 0), some (.dct kd), some (.int (k : Int)), some (.int (x % 24)), v] := by
      simp_arith [z1]
    rw [sq_nx e2, sq_nx e3, ew _ 0]
    exact ⟨_, _, _, rfl, h.pt sp hw⟩
  | false =>
    have e2 : sIf (dB (d2 opEq (dV 5) (dC (.int 0)))) (sSq (sAs (gN 8) (d2 opMod (d1 fInt (dV 8)) (dC (.int 24)))) sNx) sNx [a0, a1, a2, a3, some (.lst (ms.map D.int)), some (.int cl), some (.dct kd), some (.int (k : Int)), some (.int x), v] = .nx [a0, a1, a2, a3, some (.lst (ms.map D.int)), some (.int cl), some (.dct kd), some (.int (k : Int)), some (.int x), v] := by
      simp_arith [z0]
    rw [sq_nx e2]
    cases z1 : (cl == 1) with
    | true =>
      have sp : Spot (x % 64 * 1024 + y % 3) := by
        have a1 := Int.emod_nonneg x (show (64 : Int) ≠ 0 by decide)
        have a2 := Int.emod_lt_of_pos x (show (0 : Int) < 64 by decide)
        have a3 := Int.emod_nonneg y (show (3 : Int) ≠ 0 by decide)
        have a4 := Int.emod_lt_of_pos y (show (0 : Int) < 3 by decide)
        exact ⟨by omega, by omega⟩
      have e3 : sIf (dB (d2 opEq (dV 5) (dC (.int 1)))) (sSq (sAs (gN 8) (d2 opAdd (d2 opMulI (d2 opMod (d1 fInt (dV 8)) (dC (.int 64))) (dC (.int 1024))) (d2 opMod (d2 opIx (dV 4) (d2 opAdd (d2 opMulI (dC (.int 2)) (dV 7)) (dC (.int 1)))) (dC (.int 3))))) sNx) sNx [a0, a1, a2, a3, some (.lst (ms.map D.int)), some (.int cl), some (.dct kd), some (.int (k : Int)), some (.int x), v] = .nx [a0, a1, a2, a3, some (.lst (ms.map D.int)), some (.int cl), some (.dct kd), some (.int (k : Int)), some (.int (x % 64 * 1024 + y % 3)), v] := by
        simp_arith [z1, d64, m7, m6, i2, d3]
      rw [sq_nx e3, ew _ 0]
      exact ⟨_, _, _, rfl, h.pt sp hw⟩
    | false =>
      have e3 : sIf (dB (d2 opEq (dV 5) (dC (.int 1)))) (sSq (sAs (gN 8) (d2 opAdd (d2 opMulI (d2 opMod (d1 fInt (dV 8)) (dC (.int 64))) (dC (.int 1024))) (d2 opMod (d2 opIx (dV 4) (d2 opAdd (d2 opMulI (dC (.int 2)) (dV 7)) (dC (.int 1)))) (dC (.int 3))))) sNx) sNx [a0, a1, a2, a3, some (.lst (ms.map D.int)), some (.int cl), some (.dct kd), some (.int (k : Int)), some (.int x), v] = .nx [a0, a1, a2, a3, some (.lst (ms.map D.int)), some (.int cl), some (.dct kd), some (.int (k : Int)), some (.int x), v] := by
        simp_arith [z1]
      rw [sq_nx e3, ew _ 0]
      exact ⟨_, _, _, rfl, h.pt bx hw⟩
theorem get_of {xs : List Int} {top : Int} (hd : Dg top xs) {n : Nat} (h : n < xs.length) : ∃ x, xs[n]? = some x ∧ 0 ≤ x ∧ x < top := by
  refine ⟨xs[n], List.getElem?_eq_getElem h, ?_⟩
  exact hd _ (List.getElem_mem h)
theorem map_loop {a0 a1 a2 a3 : Option D} {ms : List Int} (hd : Dg 65536 ms) {cl : Int} : ∀ (j k : Nat) (kd : List (Key × D)) (q u v : Option D), 2 * (k + j) ≤ ms.length → KM kd k → k + j < 1000 →
    ∃ kd' q' u' v', forL (gN 7) mpB (rg (k : Int) j 1) [a0, a1, a2, a3, some (.lst (ms.map D.int)), some (.int cl), some (.dct kd), q, u, v] = .nx [a0, a1, a2, a3, some (.lst (ms.map D.int)), some (.int cl), some (.dct kd'), q', u', v'] ∧ KM kd' (k + j) := by
  intro j
  induction j with
  | zero => intro k kd q u v _ h _; exact ⟨kd, q, u, v, rfl, h⟩
  | succ j ih =>
    intro k kd q u v hl h hb
    obtain ⟨x, hx, bx⟩ := get_of hd (n := 2 * k) (by omega)
    obtain ⟨y, hy, by'⟩ := get_of hd (n := 2 * k + 1) (by omega)
    obtain ⟨kd', u', v', e, h'⟩ := map_step (a0 := a0) (a1 := a1) (a2 := a2) (a3 := a3) (u := u) (v := v) (cl := cl) hx hy bx by' h (by omega)
    obtain ⟨kd2, q2, u2, v2, e2, h2⟩ := ih (k + 1) kd' (some (.int (k : Int))) u' v' (by omega) h' (by omega)
    refine ⟨kd2, q2, u2, v2, ?_, by rw [show k + (j + 1) = k + 1 + j by omega]; exact h2⟩
    rw [rg_succ, x_forN]
    simp only [List.set_cons_zero, List.set_cons_succ]
    rw [e]
    exact e2
theorem law_map (c c2 : Int) {most : Nat} (hm : most < 400) : ∃ kd, M__law_map [.int c, .int c2, .int (most : Int)] = .ok (.dct kd) ∧ KM kd most := by
  obtain ⟨xs, e1, hl, hd⟩ := law_row c (n := 2) (by omega) (top := 1000) (by decide) (by decide)
  match xs, hl with
  | [x, x'], _ =>
    obtain ⟨ms, e2, hl2, hd2⟩ := law_row c2 (n := 2 * most) (by omega) (top := 65536) (by decide) (by decide)
    obtain ⟨h1, h2⟩ := hd x (by simp)
    have e1 : M__law_row [.int c, .int 2, .int 1000] = .ok (.lst [.int x, .int x']) := e1
    have e2 : M__law_row [.int c2, .int (2 * (most : Int)), .int 65536] = .ok (.lst (ms.map D.int)) := by
      rw [show (2 * (most : Int)) = ((2 * most : Nat) : Int) by omega]; exact e2
    have e3 : opIx (.lst [.int x, .int x']) (.int 1) = some (.int x') := rfl
    have e4 : opIx (.lst [.int x, .int x']) (.int 0) = some (.int x) := rfl
    have hpos : (0 : Int) < (most : Int) + 1 := by omega
    obtain ⟨j, hj⟩ : ∃ j : Nat, x % ((most : Int) + 1) = (j : Int) := ⟨(x % ((most : Int) + 1)).toNat, by rw [Int.toNat_of_nonneg (Int.emod_nonneg _ (by omega))]⟩
    have hjl : j ≤ most := by have := Int.emod_lt_of_pos x hpos; omega
    obtain ⟨kd', q', u', v', e5, h5⟩ := map_loop (a0 := some (.int c)) (a1 := some (.int c2)) (a2 := some (.int (most : Int))) (a3 := some (.lst [.int x, .int x'])) hd2 (cl := x' % 3) j 0 [] none none none (by omega) ⟨List.nodup_nil, (fun x hx => by cases hx), Nat.le_refl _⟩ (by omega)
    have ed : diR1 (d2 opMod (d2 opIx (dV 3) (dC (.int 0))) (d2 opAdd (dV 2) (dC (.int 1)))) [some (.int c), some (.int c2), some (.int (most : Int)), some (.lst [.int x, .int x']), some (.lst (ms.map D.int)), some (.int (x' % 3)), some (.dct []), none, none, none] = .ok (rg 0 j 1) := x_diR1 (by simp_arith [e4, o_mod hpos, hj]) (by omega)
    have e5 : forL (gN 7) mpB (rg 0 j 1) [some (.int c), some (.int c2), some (.int (most : Int)), some (.lst [.int x, .int x']), some (.lst (ms.map D.int)), some (.int (x' % 3)), some (.dct []), none, none, none] = _ := e5
    refine ⟨kd', ?_, ⟨h5.kn, h5.ok, by have := h5.len; omega⟩⟩
    simp_arith [M__law_map, b_mp, e1, m6, e2, e3, d3, x_sFor ed, e5]
end K49
/-! QI: the law's spots and texts. -/
namespace K49
open DL
open PySem (Str)
open Lean in
local macro_rules
  | `(tactic| simp_arith [$ls,*]) => `(tactic| simp only [x_def1, x_def2, x_def3, x_def4, x_def5, List.cons_append, List.nil_append, List.replicate, Nat.reduceSub, List.map_cons, List.map_nil, x_sSq, x_sIf, x_sRet, x_sE, x_sAsN, x_dV0, x_dVs, x_dC, x_d1, x_d2, x_dCall, x_dCallF, x_daC, x_daN, rb_ok, x_ofO_some, x_dB, x_boolR, x_dTr, x_dtAnd, x_dtOr, x_dtNot, x_dAnd, x_dNot, x_dIfE, x_dChain, x_sNx, x_sApp, x_ownL0, x_ownLs, x_ownD0, x_ownDs, x_sPut, x_sRai, List.set_cons_zero, List.set_cons_succ, Bool.not_true, Bool.not_false, Bool.false_eq_true, if_true, if_false, x_dTup, x_dLst, sl0, sl1, sl2, sl3, sl4, o_add, o_sub, o_eq, o_ne, o_lt, o_le, o_gt, o_ge, o_lenL, o_lenT, o_trB, o_trL, o_trT, o_int, $ls,*])
def spI2 : DS := sIf (dtAnd (dTr (dV 4)) (dB (d2 opGt (d2 opMod (dV 7) (dC (.int 3))) (dC (.int 0))))) (sSq (sAs (gN 7) (d2 opIx (dV 4) (d2 opMod (dV 7) (d1 fLen (dV 4)))))
  sNx) (sSq (sIf (dtAnd (dTr (dV 4)) (dB (d2 opEq (d2 opMod (dV 7) (dC (.int 3))) (dC (.int 0))))) (sSq (sAs (gN 7) (d2 fMax2 (dC (.int 0)) (d2 fMin2 (dC (.int 65535)) (d2 opSub (d2 opAdd (d2 opIx (dV 4) (d2 opMod (dV 7) (d1 fLen (dV 4)))) (d2 opMod (dV 7) (dC (.int 5)))) (dC (.int 2))))))
  sNx) sNx)
  sNx)
def spB2 : DS := sSq (sAs (gN 7) (d2 opIx (dV 3) (d2 opAdd (dC (.int 1)) (dV 6)))) (sSq spI2 (sSq (sApp 5 (dV 7)) sNx))
theorem b_sp : b__law_spots = sSq (sAs (gN 3) (dCall M__law_row (daC (dV 0) (daC (d2 opAdd (dV 2) (dC (.int 1))) (daC (dC (.int 65536)) daN))))) (sSq (sAs (gN 4) (d1 fSorted (dV 1))) (sSq (sAs (gN 5) (dLst daN))
  (sSq (sFor (diR1 (d2 opMod (d2 opIx (dV 3) (dC (.int 0))) (d2 opAdd (dV 2) (dC (.int 1))))) (gN 6) spB2) (sSq (sRet (d1 fTup (dV 5))) sNx)))) := (rfl)
theorem o_max (j : Int) : fMax2 (.int 0) (.int j) = some (.int (if j > 0 then j else 0)) := rfl
theorem o_min (j : Int) : fMin2 (.int 65535) (.int j) = some (.int (if j < 65535 then j else 65535)) := rfl
theorem sp_if {a0 a1 a2 a3 a5 a6 : Option D} {hs : List Int} (hh : ∀ h ∈ hs, Spot h) (hl : hs.length < 1000) {x : Int} (bx : 0 ≤ x ∧ x < 65536) :
    ∃ y, Spot y ∧ spI2 [a0, a1, a2, a3, some (.lst (hs.map D.int)), a5, a6, some (.int x)] = .nx [a0, a1, a2, a3, some (.lst (hs.map D.int)), a5, a6, some (.int y)] := by
  cases hs with
  | nil =>
    refine ⟨x, bx, ?_⟩
    have e : (!([] : List D).isEmpty) = false := rfl
    simp_arith [spI2, e]
  | cons h0 hs =>
    have e : ∀ (d : D) (l : List D), (!(d :: l).isEmpty) = true := fun _ _ => rfl
    have hpos : (0 : Int) < ((D.int h0 :: hs.map D.int).length : Int) := by rw [List.length_cons]; omega
    obtain ⟨j, hj⟩ : ∃ j : Nat, x % ((D.int h0 :: hs.map D.int).length : Int) = (j : Int) := ⟨(x % ((D.int h0 :: hs.map D.int).length : Int)).toNat, by rw [Int.toNat_of_nonneg (Int.emod_nonneg _ (by omega))]⟩
    have hjl : j < (h0 :: hs).length := by
      have := Int.emod_lt_of_pos x hpos
      rw [hj, List.length_cons, List.length_map] at this
      rw [List.length_cons]
      omega
    have hg : (h0 :: hs)[j]? = some (h0 :: hs)[j] := List.getElem?_eq_getElem hjl
    have sp := hh _ (List.getElem_mem hjl)
    generalize (h0 :: hs)[j] = h at hg sp
    have i1 : opIx (.lst (D.int h0 :: hs.map D.int)) (.int (j : Int)) = some (.int h) := o_ixL (map_get hg)
    cases z : decide ((0 : Int) < x % 3) with
    | true =>
      refine ⟨h, sp, ?_⟩
      simp_arith [spI2, e, d3, z, o_mod hpos, hj, i1]
    | false =>
      have z1 := of_decide_eq_false z
      have z2 : (x % 3 == 0) = true := by rw [beq_iff_eq]; omega
      refine ⟨if (if h + x % 5 - 2 < 65535 then h + x % 5 - 2 else 65535) > 0 then (if h + x % 5 - 2 < 65535 then h + x % 5 - 2 else 65535) else 0, ?_, ?_⟩
      · have a1 := Int.emod_nonneg x (show (5 : Int) ≠ 0 by decide)
        have a2 := Int.emod_lt_of_pos x (show (0 : Int) < 5 by decide)
        unfold Spot at *
        omega
      · simp_arith [spI2, e, d3, z, z2, o_mod hpos, hj, i1, d5, o_max, o_min]
theorem sp_loop {a0 a1 a2 : Option D} {hs ds : List Int} (hh : ∀ h ∈ hs, Spot h) (hl : hs.length < 1000) (hd : Dg 65536 ds) : ∀ (j k : Nat) (fs : List Int) (q u : Option D), 1 + k + j ≤ ds.length → k + j < 1000 → fs.length = k → (∀ f ∈ fs, Spot f) →
    ∃ (gs : List Int) (q' u' : Option D), forL (gN 6) spB2 (rg (k : Int) j 1) [a0, a1, a2, some (.lst (ds.map D.int)), some (.lst (hs.map D.int)), some (.lst (fs.map D.int)), q, u] = .nx [a0, a1, a2, some (.lst (ds.map D.int)), some (.lst (hs.map D.int)), some (.lst (gs.map D.int)), q', u'] ∧ gs.length = k + j ∧ ∀ g ∈ gs, Spot g := by
  intro j
  induction j with
  | zero => intro k fs q u _ _ h1 h2; exact ⟨fs, q, u, rfl, h1, h2⟩
  | succ j ih =>
    intro k fs q u h1 h2 h3 h4
    obtain ⟨x, hx, bx⟩ := get_of hd (n := 1 + k) (by omega)
    have i1 : opIx (.lst (ds.map D.int)) (.int (1 + (k : Int))) = some (.int x) := by
      rw [show (1 + (k : Int)) = ((1 + k : Nat) : Int) by omega]
      exact o_ixL (map_get hx)
    obtain ⟨y, sy, ey⟩ := sp_if (a0 := a0) (a1 := a1) (a2 := a2) (a3 := some (.lst (ds.map D.int))) (a5 := some (.lst (fs.map D.int))) (a6 := some (.int (k : Int))) hh hl bx
    obtain ⟨gs, q', u', e, e2, e3⟩ := ih (k + 1) (fs ++ [y]) (some (.int (k : Int))) (some (.int y)) (by omega) (by omega) (by rw [List.length_append, List.length_singleton]; omega) (fun f hf => by
      rcases List.mem_append.mp hf with hf | hf
      · exact h4 f hf
      · rw [List.mem_singleton.mp hf]; exact sy)
    refine ⟨gs, q', u', ?_, by omega, e3⟩
    have hsl : (fs.map D.int).length < SL := by rw [List.length_map]; show _ < 16777216; omega
    have eb : spB2 [a0, a1, a2, some (.lst (ds.map D.int)), some (.lst (hs.map D.int)), some (.lst (fs.map D.int)), some (.int (k : Int)), u] = .nx [a0, a1, a2, some (.lst (ds.map D.int)), some (.lst (hs.map D.int)), some (.lst ((fs ++ [y]).map D.int)), some (.int (k : Int)), some (.int y)] := by
      simp_arith [spB2, i1, ey, if_pos hsl, List.map_append]
    rw [rg_succ, x_forN]
    simp only [List.set_cons_zero, List.set_cons_succ]
    rw [eb]
    exact e
theorem law_spots (c : Int) {kd : List (Key × D)} {n most : Nat} (h : KM kd n) (hn : n < 64) (hm : most < 900) :
    ∃ ss : List Int, M__law_spots [.int c, .dct kd, .int (most : Int)] = .ok (.tup (ss.map D.int)) ∧ (∀ s ∈ ss, Spot s) ∧ ss.length ≤ most := by
  obtain ⟨ds, e1, hl, hd⟩ := law_row c (n := most + 1) (by omega) (top := 65536) (by decide) (by decide)
  have e1 : M__law_row [.int c, .int ((most : Int) + 1), .int 65536] = .ok (.lst (ds.map D.int)) := by
    rw [show ((most : Int) + 1) = ((most + 1 : Nat) : Int) by omega]; exact e1
  have hs := h.so hn
  have hmm := (h.mp (by omega)).sp.spot
  have hlen := srt_len h
  have hlen2 := h.len
  have es : (srt kd).map (fun p => D.int p.1) = ((srt kd).map (·.1)).map D.int := by rw [List.map_map]; rfl
  rw [es] at hs
  obtain ⟨x, hx, bx⟩ := get_of hd (n := 0) (by omega)
  have i0 : opIx (.lst (ds.map D.int)) (.int 0) = some (.int x) := o_ixL (n := 0) (map_get hx)
  have hpos : (0 : Int) < (most : Int) + 1 := by omega
  obtain ⟨j, hj⟩ : ∃ j : Nat, x % ((most : Int) + 1) = (j : Int) := ⟨(x % ((most : Int) + 1)).toNat, by rw [Int.toNat_of_nonneg (Int.emod_nonneg _ (by omega))]⟩
  have hjl : j ≤ most := by have := Int.emod_lt_of_pos x hpos; omega
  obtain ⟨gs, q', u', e5, e6, e7⟩ := sp_loop (a0 := some (.int c)) (a1 := some (.dct kd)) (a2 := some (.int (most : Int))) (hs := (srt kd).map (·.1)) (fun k hk => by
    obtain ⟨p, hp, rfl⟩ := List.mem_map.mp hk
    exact hmm p hp) (by rw [List.length_map]; omega) hd j 0 [] none none (by omega) (by omega) rfl (fun f hf => by cases hf)
  have ed : diR1 (d2 opMod (d2 opIx (dV 3) (dC (.int 0))) (d2 opAdd (dV 2) (dC (.int 1)))) [some (.int c), some (.dct kd), some (.int (most : Int)), some (.lst (ds.map D.int)), some (.lst (((srt kd).map (·.1)).map D.int)), some (.lst []), none, none] = .ok (rg 0 j 1) := x_diR1 (by simp_arith [i0, o_mod hpos, hj]) (by omega)
  have e5 : forL (gN 6) spB2 (rg 0 j 1) [some (.int c), some (.dct kd), some (.int (most : Int)), some (.lst (ds.map D.int)), some (.lst (((srt kd).map (·.1)).map D.int)), some (.lst []), none, none] = _ := e5
  have et : fTup (.lst (gs.map D.int)) = some (.tup (gs.map D.int)) := rfl
  refine ⟨gs, ?_, e7, by omega⟩
  have s1 : sAs (gN 3) (dCall M__law_row (daC (dV 0) (daC (d2 opAdd (dV 2) (dC (.int 1))) (daC (dC (.int 65536)) daN)))) [some (.int c), some (.dct kd), some (.int (most : Int)), none, none, none, none, none] = .nx [some (.int c), some (.dct kd), some (.int (most : Int)), some (.lst (ds.map D.int)), none, none, none, none] := by
    simp_arith [e1]
  have s2 : sAs (gN 4) (d1 fSorted (dV 1)) [some (.int c), some (.dct kd), some (.int (most : Int)), some (.lst (ds.map D.int)), none, none, none, none] = .nx [some (.int c), some (.dct kd), some (.int (most : Int)), some (.lst (ds.map D.int)), some (.lst (((srt kd).map (·.1)).map D.int)), none, none, none] := by
    simp_arith [hs]
  have s3 : sAs (gN 5) (dLst daN) [some (.int c), some (.dct kd), some (.int (most : Int)), some (.lst (ds.map D.int)), some (.lst (((srt kd).map (·.1)).map D.int)), none, none, none] = .nx [some (.int c), some (.dct kd), some (.int (most : Int)), some (.lst (ds.map D.int)), some (.lst (((srt kd).map (·.1)).map D.int)), some (.lst []), none, none] := by
    simp_arith [hs]
  unfold M__law_spots
  refine def3_rt rfl ?_
  rw [b_sp]
  refine (sq_nx s1).trans ((sq_nx s2).trans ((sq_nx s3).trans ((sq_nx ((x_sFor ed).trans e5)).trans ?_)))
  simp_arith [et]
/-! ### texts of all nodes, by the law -/
def txL (b : Nat) (ps : PL) : List (Key × D) := (bqA ps).map fun x => (kyP x, .str (tx b (cn x.n x.qs)))
theorem txL_eq {b : Nat} {ps : PL} (h : Gd 16 ps) (hl : ps.length ≤ 1000) : opNe (.dct ((nT [] (cn 16 ps)).map fun x => (kyT x, .str (tx b x.2)))) (.dct (txL b ps)) = some (.bl false) := by
  have fl : ∀ (z : Str), sOk z = true → ((D.str z).flat && (D.str z).okE) = true := fun z hz => by
    unfold D.okE
    simp [D.flat, D.okS, D.dep, hz]
  refine ne_dct ?_ ?_ ?_ ?_
  · unfold dctFlat
    rw [List.all_eq_true]
    intro kv hkv
    obtain ⟨x, _, rfl⟩ := List.mem_map.mp hkv
    exact fl _ (tx_ok b x.2)
  · unfold dctFlat txL
    rw [List.all_eq_true]
    intro kv hkv
    obtain ⟨x, _, rfl⟩ := List.mem_map.mp hkv
    exact fl _ (tx_ok b _)
  · have e1 := (bqA_perm ps).length_eq
    unfold txL
    rw [nT_cn 16 [] ps rfl]
    simp only [List.length_map] at e1 ⊢
    exact e1.symm
  · intro kv hkv
    obtain ⟨x, hx, rfl⟩ := List.mem_map.mp hkv
    rw [nT_cn 16 [] ps rfl] at hx
    obtain ⟨y, hy, rfl⟩ := List.mem_map.mp hx
    obtain ⟨z, hz, rfl⟩ := List.mem_map.mp ((bqA_perm ps).mem_iff.mpr hy)
    have := lk_map (key := kyP) (val := fun x : Pt => D.str (tx b (cn x.n x.qs))) (bqA_nodup ps) hz
    have e : nt (pq z) = cn z.n z.qs := by
      have := (bqA_ok h hl z hz).1.1
      show cn (16 - z.p.length) z.qs = _
      rw [show 16 - z.p.length = z.n by omega]
    show lk (txL b ps) (kyP z) = some (.str (tx b (nt (pq z))))
    rw [e]
    exact this
/-! ### equal trees -/
theorem LV.okS {v : D} (h : LV v) : v.okS = true ∧ v.dep = 0 := by
  rcases h with ⟨i, rfl, _⟩ | ⟨s, rfl, _, _, h⟩
  · exact ⟨rfl, rfl⟩
  · exact ⟨h, rfl⟩
/-- values that can be compared -/
def OV : T → Prop
  | .leaf _ v => v.okS = true ∧ v.dep = 0
  | .fork _ l r => OV l ∧ OV r
  | _ => True
theorem sOk_lit (s : String) : D.okS (.str s) = true := sOk_of s
theorem OV.okS : ∀ {t : T}, OV t → t.d.okS = true
  | .non, _ => by simp [T.d, D.okS, D.okSs, sOk_of]
  | .leaf k v, h => by simp [T.d, D.okS, D.okSs, sOk_of, h.1]
  | .shut _ _, _ => by simp [T.d, D.okS, D.okSs, sOk_of]
  | .cut _ _, _ => by simp [T.d, D.okS, D.okSs, sOk_of]
  | .fork _ l r, h => by simp [T.d, D.okS, D.okSs, sOk_of, OV.okS h.1, OV.okS h.2]
theorem OV.dep : ∀ {t : T}, OV t → t.d.dep ≤ ht t + 1
  | .non, _ => by simp [T.d, D.dep, D.deps]
  | .leaf k v, h => by simp [T.d, D.dep, D.deps, h.2]
  | .shut _ _, _ => by simp [T.d, D.dep, D.deps]
  | .cut _ _, _ => by simp [T.d, D.dep, D.deps]
  | .fork _ l r, h => by
    have h1 := OV.dep h.1
    have h2 := OV.dep h.2
    simp only [T.d, D.dep, D.deps, ht]
    omega
theorem OV.okE {t : T} (h : OV t) (hh : ht t ≤ 16) : t.d.okE = true := by
  unfold D.okE
  rw [Bool.and_eq_true, decide_eq_true_eq]
  exact ⟨h.okS, by have := h.dep; omega⟩
theorem cn_OV : ∀ (n : Nat) (qs : PL), (∀ q ∈ qs, LV q.2) → OV (cn n qs)
  | n, [], _ => by rw [cn_nil]; trivial
  | n, [q], h => by rw [cn_one]; exact (h q (by simp)).okS
  | 0, _ :: _ :: _, _ => trivial
  | n + 1, p :: q :: r, h => by
    rw [cn_big (by simp)]
    exact ⟨cn_OV n _ fun x hx => h x (mem_fb.mp hx).1, cn_OV n _ fun x hx => h x (mem_fb.mp hx).1⟩
theorem Mp.okE {ps : PL} (h : Mp ps) : (cn 16 ps).d.okE = true := (cn_OV 16 ps h.lv).okE (ht_cn 16 ps)
theorem pds_ok {c : List D → D} (hc : c = .tup ∨ c = .lst) {ps : PL} (h : ∀ q ∈ ps, LV q.2) : (c (ps.map pd)).okE = true := by
  have e1 : D.okSs (ps.map pd) = true := by
    induction ps with
    | nil => rfl
    | cons p ps ih =>
      rw [List.map_cons]
      simp only [D.okSs, Bool.and_eq_true]
      refine ⟨?_, ih fun q hq => h q (List.mem_cons_of_mem _ hq)⟩
      show D.okS (.tup [.int p.1, p.2]) = true
      simp [D.okS, D.okSs, (h p List.mem_cons_self).okS.1]
  have e2 : D.deps (ps.map pd) ≤ 1 := by
    clear e1
    induction ps with
    | nil => exact Nat.zero_le _
    | cons p ps ih =>
      rw [List.map_cons]
      have := ih fun q hq => h q (List.mem_cons_of_mem _ hq)
      have e3 : D.dep (pd p) = 1 := by
        show D.dep (.tup [.int p.1, p.2]) = 1
        simp [D.dep, D.deps, (h p List.mem_cons_self).okS.2]
      simp only [D.deps, e3]
      omega
  unfold D.okE
  rw [Bool.and_eq_true, decide_eq_true_eq]
  rcases hc with rfl | rfl
  · exact ⟨e1, by simp only [D.dep]; omega⟩
  · exact ⟨e1, by simp only [D.dep]; omega⟩
theorem val_ok {v : D} (h : LV v) : v.okE = true := by
  unfold D.okE
  rw [Bool.and_eq_true, decide_eq_true_eq]
  exact ⟨h.okS.1, by have := h.okS.2; omega⟩
theorem rD_ok (b : Nat) (t : T) : (rD b t).okE = true := by
  unfold D.okE rD
  simp [D.okS, D.okSs, D.dep, D.deps]
end K49
/-! GT: trees by themselves: what is right, prunings, changes. -/
namespace K49
open DL
open PySem (Str)
/-- a right tree, n bits left, all keys beginning with c -/
def WfT : T → Nat → Int → Prop
  | .non, _, _ => True
  | .leaf k v, n, c => 0 ≤ k ∧ k / 2 ^ n = c ∧ LV v
  | .shut k s, n, c => 0 ≤ k ∧ k / 2 ^ n = c ∧ Nm s
  | .cut s m, n, _ => Nm s ∧ 2 ≤ m ∧ m ≤ 2 ^ n
  | .fork m l r, n, c => m = l.many + r.many ∧ 2 ≤ m ∧ WfT l (n - 1) (2 * c) ∧ WfT r (n - 1) (2 * c + 1) ∧ 1 ≤ n
def Wf (n : Nat) (c : Int) (t : T) : Prop := WfT t n c
theorem Wf.l {n : Nat} {c m : Int} {l r : T} (h : Wf (n + 1) c (.fork m l r)) : Wf n (2 * c) l := h.2.2.1
theorem Wf.r {n : Nat} {c m : Int} {l r : T} (h : Wf (n + 1) c (.fork m l r)) : Wf n (2 * c + 1) r := h.2.2.2.1
theorem Wf.ht : ∀ {n : Nat} {c : Int} {t : T}, Wf n c t → ht t ≤ n
  | n + 1, c, .fork m l r, h => by
    have h1 := Wf.ht (Wf.l h)
    have h2 := Wf.ht (Wf.r h)
    have e : DL.ht (.fork m l r) = max (DL.ht l) (DL.ht r) + 1 := rfl
    omega
  | 0, _, .fork _ _ _, h => absurd h.2.2.2.2 (by omega)
  | _, _, .non, _ => Nat.zero_le _
  | _, _, .leaf _ _, _ => Nat.zero_le _
  | _, _, .shut _ _, _ => Nat.zero_le _
  | _, _, .cut _ _, _ => Nat.zero_le _
theorem pfx {k c : Int} {n : Nat} {b : Int} (h : k / 2 ^ (n + 1) = c) (hb : bi k n = b) : k / 2 ^ n = 2 * c + b := by
  rw [div_succ, h, hb]
theorem pfx' {k c : Int} {n : Nat} {b : Int} (h : k / 2 ^ n = 2 * c + b) (h0 : b = 0 ∨ b = 1) : k / 2 ^ (n + 1) = c ∧ bi k n = b := by
  have h1 := div_succ k n
  have h2 := bi01 k n
  omega
theorem Wf.kyp {n : Nat} {c : Int} {t : T} (h : Wf n c t) {k : Int} (hk : kyL t = some k) : 0 ≤ k ∧ k / 2 ^ n = c := by
  cases t with
  | leaf k' v => cases hk; exact ⟨h.1, h.2.1⟩
  | shut k' s => cases hk; exact ⟨h.1, h.2.1⟩
  | _ => cases hk
theorem Wf.many0 : ∀ {n : Nat} {c : Int} {t : T}, Wf n c t → 0 ≤ t.many
  | n + 1, _, .fork m l r, h => by show 0 ≤ m; have := h.2.1; omega
  | 0, _, .fork _ _ _, h => absurd h.2.2.2.2 (by omega)
  | _, _, .non, _ => Int.le_refl _
  | _, _, .leaf _ _, _ => by show (0 : Int) ≤ 1; omega
  | _, _, .shut _ _, _ => by show (0 : Int) ≤ 1; omega
  | _, _, .cut _ m, h => by show 0 ≤ m; have := h.2.1; omega
theorem Wf.m0 {n : Nat} {c : Int} {t : T} (h : Wf n c t) (e : t.many = 0) : t = .non := by
  cases t with
  | non => rfl
  | leaf => cases e
  | shut => cases e
  | cut s m => have : m = 0 := e; have := h.2.1; omega
  | fork m l r =>
    cases n with
    | zero => exact absurd h.2.2.2.2 (by omega)
    | succ n => have : m = 0 := e; have := h.2.1; omega
theorem Wf.m1 {n : Nat} {c : Int} {t : T} (h : Wf n c t) (e : t.many = 1) : ∃ k, kyL t = some k := by
  cases t with
  | non => cases e
  | leaf k v => exact ⟨k, rfl⟩
  | shut k s => exact ⟨k, rfl⟩
  | cut s m => have : m = 1 := e; have := h.2.1; omega
  | fork m l r =>
    cases n with
    | zero => exact absurd h.2.2.2.2 (by omega)
    | succ n => have : m = 1 := e; have := h.2.1; omega
/-- one bit further up -/
theorem Wf.up {n : Nat} {c b : Int} {t : T} (h : Wf n (2 * c + b) t) (hb : b = 0 ∨ b = 1) (ht : t = .non ∨ ∃ k, kyL t = some k) : Wf (n + 1) c t := by
  rcases ht with rfl | ⟨k, hk⟩
  · trivial
  · cases t with
    | leaf k' v => exact ⟨h.1, (pfx' h.2.1 hb).1, h.2.2⟩
    | shut k' s => exact ⟨h.1, (pfx' h.2.1 hb).1, h.2.2⟩
    | _ => cases hk
theorem Wf.join {n : Nat} {c : Int} {l r : T} (hl : Wf n (2 * c) l) (hr : Wf n (2 * c + 1) r) : Wf (n + 1) c (joinT l r) := by
  have a := hl.many0
  have b := hr.many0
  unfold joinT
  split
  · trivial
  · split
    · split
      · rename_i e; exact Wf.up (b := 0) (by rw [Int.add_zero]; exact hl) (.inl rfl) (.inr (hl.m1 e))
      · exact Wf.up hr (.inr rfl) (.inr (hr.m1 (by omega)))
    · exact ⟨rfl, by omega, hl, hr, by omega⟩
theorem fork_join' {n : Nat} {c m : Int} {l r : T} (h : Wf (n + 1) c (.fork m l r)) : joinT l r = .fork m l r := by
  obtain ⟨h1, h2, _, _, _⟩ := h
  unfold joinT
  rw [if_neg (by omega), if_neg (by omega), ← h1]
/-- the change, from the top -/
def chR : Nat → T → Int → D → T
  | n + 1, .fork _ l r, k, v => if bi k n = 0 then joinT (chR n l k v) r else joinT l (chR n r k v)
  | n, e, k, v => newE n e k v
theorem end_ok : ∀ {n : Nat} {c : Int} {t : T} {k : Int}, Wf n c t → k / 2 ^ n = c → EndOk n t k
  | n + 1, c, .fork m l r, k, h, hk => by
    intro k' e
    show 0 ≤ k' ∧ k' / 2 ^ (n + 1 - ((wayT n (if bi k n = 0 then l else r) k).length + 1)) = k / 2 ^ (n + 1 - ((wayT n (if bi k n = 0 then l else r) k).length + 1))
    rw [Nat.add_sub_add_right]
    have e : kyL (endT n (if bi k n = 0 then l else r) k) = some k' := e
    rcases bi01 k n with b | b
    · rw [if_pos b] at e ⊢
      exact end_ok (Wf.l h) (by rw [pfx hk b]; omega) k' e
    · rw [if_neg (by omega)] at e ⊢
      exact end_ok (Wf.r h) (pfx hk b) k' e
  | 0, _, .fork _ _ _, _, h, _ => absurd h.2.2.2.2 (by omega)
  | n, c, .non, k, _, _ => by intro k' e; cases n <;> cases e
  | n, c, .cut _ _, k, _, _ => by intro k' e; cases n <;> cases e
  | n, c, .leaf k0 v, k, h, hk => by
    have e1 : endT n (.leaf k0 v) k = .leaf k0 v := by cases n <;> rfl
    have e2 : wayT n (.leaf k0 v) k = [] := by cases n <;> rfl
    intro k' e
    rw [e1] at e
    cases e
    rw [e2]
    exact ⟨h.1, by show k0 / 2 ^ n = k / 2 ^ n; rw [h.2.1, hk]⟩
  | n, c, .shut k0 v, k, h, hk => by
    have e1 : endT n (.shut k0 v) k = .shut k0 v := by cases n <;> rfl
    have e2 : wayT n (.shut k0 v) k = [] := by cases n <;> rfl
    intro k' e
    rw [e1] at e
    cases e
    rw [e2]
    exact ⟨h.1, by show k0 / 2 ^ n = k / 2 ^ n; rw [h.2.1, hk]⟩
theorem nofork_way {t : T} (h : isFork t = false) (n : Nat) (k : Int) : wayT n t k = [] ∧ endT n t k = t := by
  cases t with
  | fork => cases h
  | _ => cases n <;> exact ⟨rfl, rfl⟩
theorem chR_nofork {t : T} (h : isFork t = false) (n : Nat) (k : Int) (v : D) : chR n t k v = newE n t k v := by
  cases t with
  | fork => cases h
  | _ => cases n <;> rfl
theorem rebuild_chR : ∀ {n : Nat} {t : T} {k : Int} {v : D}, ht t ≤ n → rebuild (wayT n t k) (newE (n - (wayT n t k).length) (endT n t k) k v) = chR n t k v
  | n + 1, .fork m l r, k, v, h => by
    have e : ht (.fork m l r) = max (ht l) (ht r) + 1 := rfl
    show rebuild ((T.fork m l r, bi k n) :: wayT n (if bi k n = 0 then l else r) k) (newE (n + 1 - ((wayT n (if bi k n = 0 then l else r) k).length + 1)) (endT n (if bi k n = 0 then l else r) k) k v) = _
    rw [Nat.add_sub_add_right]
    rcases bi01 k n with b | b
    · rw [if_pos b]
      show (if bi k n = 0 then joinT (rebuild _ _) r else joinT l (rebuild _ _)) = (if bi k n = 0 then joinT (chR n l k v) r else joinT l (chR n r k v))
      rw [if_pos b, if_pos b, rebuild_chR (by omega)]
    · rw [if_neg (by omega)]
      show (if bi k n = 0 then joinT (rebuild _ _) r else joinT l (rebuild _ _)) = (if bi k n = 0 then joinT (chR n l k v) r else joinT l (chR n r k v))
      rw [if_neg (by omega), if_neg (by omega), rebuild_chR (by omega)]
  | 0, .fork m l r, k, v, h => by simp [ht] at h
  | n, .non, k, v, _ => by rw [(nofork_way rfl n k).1, (nofork_way rfl n k).2, chR_nofork rfl]; rfl
  | n, .leaf _ _, k, v, _ => by rw [(nofork_way rfl n k).1, (nofork_way rfl n k).2, chR_nofork rfl]; rfl
  | n, .shut _ _, k, v, _ => by rw [(nofork_way rfl n k).1, (nofork_way rfl n k).2, chR_nofork rfl]; rfl
  | n, .cut _ _, k, v, _ => by rw [(nofork_way rfl n k).1, (nofork_way rfl n k).2, chR_nofork rfl]; rfl
/-- nothing taken out that is not there -/
theorem chR_same : ∀ {n : Nat} {c : Int} {t : T} {k : Int} {v : D}, Wf n c t → isZ v = true → kyL (endT n t k) ≠ some k → isCut (endT n t k) = false → chR n t k v = t
  | n + 1, c, .fork m l r, k, v, h, hz, hk, hc => by
    show (if bi k n = 0 then joinT (chR n l k v) r else joinT l (chR n r k v)) = _
    have hk : kyL (endT n (if bi k n = 0 then l else r) k) ≠ some k := hk
    have hc : isCut (endT n (if bi k n = 0 then l else r) k) = false := hc
    rcases bi01 k n with b | b
    · rw [if_pos b] at hk hc ⊢
      rw [chR_same (Wf.l h) hz hk hc, fork_join' h]
    · rw [if_neg (by omega)] at hk hc ⊢
      rw [chR_same (Wf.r h) hz hk hc, fork_join' h]
  | 0, _, .fork _ _ _, _, _, h, _, _, _ => absurd h.2.2.2.2 (by omega)
  | n, _, .non, k, v, _, hz, _, _ => by rw [chR_nofork rfl]; show (if isZ v = true then T.non else _) = _; rw [if_pos hz]
  | n, _, .cut _ _, k, v, _, hz, _, hc => by rw [(nofork_way rfl n k).2] at hc; cases hc
  | n, _, .leaf k0 w, k, v, _, hz, hk, _ => by
    rw [(nofork_way rfl n k).2] at hk
    rw [chR_nofork rfl]
    show (if k0 = k then _ else if isZ v = true then T.leaf k0 w else _) = _
    rw [if_neg (fun e => hk (by rw [← e]; rfl)), if_pos hz]
  | n, _, .shut k0 w, k, v, _, hz, hk, _ => by
    rw [(nofork_way rfl n k).2] at hk
    rw [chR_nofork rfl]
    show (if k0 = k then _ else if isZ v = true then T.shut k0 w else _) = _
    rw [if_neg (fun e => hk (by rw [← e]; rfl)), if_pos hz]
theorem chT_chR {n : Nat} {c : Int} {t : T} {k : Int} {v : D} (h : Wf n c t) (hc : isCut (endT n t k) = false) : chT n t k v = chR n t k v := by
  unfold chT
  split
  · rename_i q
    rw [chR_same h q.1 q.2 hc]
  · exact rebuild_chR h.ht
theorem wlT_many : ∀ (m : Nat) (p : Int × D) (kq : Int) (q : T), p.1 ≠ kq → p.1 / 2 ^ m = kq / 2 ^ m → (wlT m p kq q).many = 2
  | 0, p, kq, q, hn, h => by simp at h; exact absurd h hn
  | m + 1, p, kq, q, hn, h => by
    unfold wlT
    have h1 := div_succ p.1 m
    have h2 := div_succ kq m
    split
    · rename_i e
      have ih := wlT_many m p kq q hn (by rw [h1, h2, h, e])
      split
      · show (wlT m p kq q).many + 0 = 2; omega
      · show 0 + (wlT m p kq q).many = 2; omega
    · split <;> rfl
theorem wlT_wf : ∀ {m : Nat} {c : Int} {p : Int × D} {kq : Int} {q : T}, Lf q kq → p.1 ≠ kq → 0 ≤ p.1 → p.1 / 2 ^ m = c → LV p.2 → Wf m c q → Wf m c (wlT m p kq q)
  | 0, c, p, kq, q, hq, hn, h0, h, hv, w => by
    have hk := w.kyp (k := kq) (by rcases hq with ⟨v, rfl⟩ | ⟨s, rfl⟩ <;> rfl)
    simp at h
    have := hk.2
    simp at this
    omega
  | m + 1, c, p, kq, q, hq, hn, h0, h, hv, w => by
    have hk := w.kyp (k := kq) (by rcases hq with ⟨v, rfl⟩ | ⟨s, rfl⟩ <;> rfl)
    have down : ∀ b, bi kq m = b → Wf m (2 * c + b) q := fun b e => by
      have := pfx hk.2 e
      rcases hq with ⟨v, rfl⟩ | ⟨s, rfl⟩
      · exact ⟨w.1, this, w.2.2⟩
      · exact ⟨w.1, this, w.2.2⟩
    unfold wlT
    by_cases e : bi kq m = bi p.1 m
    · rw [if_pos e]
      rcases bi01 p.1 m with b | b
      · have ih := wlT_wf hq hn h0 (pfx h b) hv (down 0 (e.trans b))
        have im := wlT_many m p kq q hn (by rw [pfx h b, pfx hk.2 (e.trans b)])
        rw [if_pos b, im]
        exact ⟨by rw [im]; rfl, by omega, by rw [Int.add_zero] at ih; exact ih, trivial, by omega⟩
      · have ih := wlT_wf hq hn h0 (pfx h b) hv (down 1 (e.trans b))
        have im := wlT_many m p kq q hn (by rw [pfx h b, pfx hk.2 (e.trans b)])
        rw [if_neg (by omega), im]
        exact ⟨by rw [im]; rfl, by omega, trivial, ih, by omega⟩
    · rw [if_neg e]
      have qm := hq.many
      rcases bi01 p.1 m with b | b
      · rw [if_pos b]
        have b2 : bi kq m = 1 := by rcases bi01 kq m with z | z <;> omega
        exact ⟨by rw [qm]; rfl, by omega, ⟨h0, by simpa using pfx h b, hv⟩, down 1 b2, by omega⟩
      · rw [if_neg (by omega)]
        have b2 : bi kq m = 0 := by rcases bi01 kq m with z | z <;> omega
        exact ⟨by rw [qm]; rfl, by omega, by have := down 0 b2; rw [Int.add_zero] at this; exact this, ⟨h0, pfx h b, hv⟩, by omega⟩
/-- a value that may be put, as a leaf's or 0 -/
def ZL (v : D) : Prop := isZ v = false → LV v
theorem newE_wf {n : Nat} {c : Int} {t : T} {k : Int} {v : D} (h : Wf n c t) (hk : k / 2 ^ n = c) (h0 : 0 ≤ k) (hv : ZL v) (hc : isCut t = false) (hf : isFork t = false) : Wf n c (newE n t k v) := by
  have lf : isZ v = false → Wf n c (.leaf k v) := fun z => ⟨h0, hk, hv z⟩
  have lf2 : Wf n c (if isZ v = true then T.non else .leaf k v) := by
    cases z : isZ v with
    | true => rw [if_pos rfl]; trivial
    | false => rw [if_neg (by decide)]; exact lf z
  unfold newE
  cases e : kyL t with
  | none => exact lf2
  | some k' =>
    simp only
    split
    · exact lf2
    · rename_i ne
      cases z : isZ v with
      | true => rw [if_pos rfl]; exact h
      | false =>
        rw [if_neg (by decide)]
        exact wlT_wf (kyL_lf e) (fun q => ne q.symm) h0 hk (hv z) h
theorem chR_wf : ∀ {n : Nat} {c : Int} {t : T} {k : Int} {v : D}, Wf n c t → k / 2 ^ n = c → 0 ≤ k → ZL v → isCut (endT n t k) = false → Wf n c (chR n t k v)
  | n + 1, c, .fork m l r, k, v, h, hk, h0, hv, hc => by
    show Wf (n + 1) c (if bi k n = 0 then joinT (chR n l k v) r else joinT l (chR n r k v))
    have hc : isCut (endT n (if bi k n = 0 then l else r) k) = false := hc
    rcases bi01 k n with b | b
    · rw [if_pos b] at hc ⊢
      exact Wf.join (chR_wf (Wf.l h) (by rw [pfx hk b]; omega) h0 hv hc) (Wf.r h)
    · rw [if_neg (by omega)] at hc ⊢
      exact Wf.join (Wf.l h) (chR_wf (Wf.r h) (pfx hk b) h0 hv hc)
  | 0, _, .fork _ _ _, _, _, h, _, _, _, _ => absurd h.2.2.2.2 (by omega)
  | n, c, .non, k, v, h, hk, h0, hv, hc => by rw [chR_nofork rfl]; exact newE_wf h hk h0 hv rfl rfl
  | n, c, .leaf _ _, k, v, h, hk, h0, hv, hc => by rw [chR_nofork rfl]; exact newE_wf h hk h0 hv rfl rfl
  | n, c, .shut _ _, k, v, h, hk, h0, hv, hc => by rw [chR_nofork rfl]; exact newE_wf h hk h0 hv rfl rfl
  | n, c, .cut _ _, k, v, h, hk, h0, hv, hc => by rw [(nofork_way rfl n k).2] at hc; cases hc
/-- a map's tree is right -/
theorem cn_wf : ∀ {n : Nat} {c : Int} {ps : PL}, Gd n ps → (∀ p ∈ ps, 0 ≤ p.1 ∧ p.1 / 2 ^ n = c ∧ LV p.2) → Wf n c (cn n ps)
  | n, c, [], _, _ => by rw [cn_nil]; cases n <;> trivial
  | n, c, [p], _, h => by
    rw [cn_one]
    have := h p (by simp)
    cases n <;> exact this
  | 0, c, p :: q :: r, g, _ => by have := g.zero; simp at this
  | n + 1, c, p :: q :: r, g, h => by
    have hb : 2 ≤ (p :: q :: r).length := by simp
    generalize hps : p :: q :: r = ps at *
    have hl := fb_len n ps
    rw [cn_big hb]
    refine ⟨?_, by omega, cn_wf (g.fb 0) fun x hx => ?_, cn_wf (g.fb 1) fun x hx => ?_, by omega⟩
    · rw [many_cn (g.fb 0), many_cn (g.fb 1)]; omega
    · obtain ⟨m1, m2⟩ := mem_fb.mp hx
      obtain ⟨a1, a2, a3⟩ := h x m1
      exact ⟨a1, by rw [pfx a2 m2]; omega, a3⟩
    · obtain ⟨m1, m2⟩ := mem_fb.mp hx
      obtain ⟨a1, a2, a3⟩ := h x m1
      exact ⟨a1, pfx a2 m2, a3⟩
end K49
/-! GP: prunings. -/
namespace K49
open DL
open PySem (Str)
/-- u is t with parts closed -/
def Pr (b : Nat) : T → T → Prop
  | t, .cut s m => (isFork t = true ∨ isCut t = true) ∧ s = rs b t ∧ m = t.many
  | t, .non => t = .non
  | t, .leaf k v => t = .leaf k v
  | t, .shut k s => (∃ v, t = .leaf k v ∧ s = vS b v) ∨ t = .shut k s
  | t, .fork n l r => ∃ l' r', t = .fork n l' r' ∧ Pr b l' l ∧ Pr b r' r
theorem pr_rs {b : Nat} : ∀ {u t : T}, Pr b t u → rs b u = rs b t ∧ u.many = t.many
  | .cut s m, t, h => ⟨h.2.1, h.2.2⟩
  | .non, t, h => by have h : t = .non := h; subst h; exact ⟨rfl, rfl⟩
  | .leaf k v, t, h => by have h : t = .leaf k v := h; subst h; exact ⟨rfl, rfl⟩
  | .shut k s, t, h => by
    rcases h with ⟨v, rfl, rfl⟩ | rfl
    · exact ⟨rfl, rfl⟩
    · exact ⟨rfl, rfl⟩
  | .fork n l r, t, h => by
    obtain ⟨l', r', rfl, h1, h2⟩ := h
    obtain ⟨a1, a2⟩ := pr_rs h1
    obtain ⟨b1, b2⟩ := pr_rs h2
    refine ⟨?_, rfl⟩
    show tS b (fkS (rs b l) l.many (rs b r) r.many) = tS b (fkS (rs b l') l'.many (rs b r') r'.many)
    rw [a1, a2, b1, b2]
theorem pr_refl (b : Nat) : ∀ t : T, Pr b t t
  | .cut s m => ⟨.inr rfl, rfl, rfl⟩
  | .non => rfl
  | .leaf k v => rfl
  | .shut k s => .inr rfl
  | .fork n l r => ⟨l, r, rfl, pr_refl b l, pr_refl b r⟩
theorem pr_join {b : Nat} {l' r' l r : T} (h1 : Pr b l' l) (h2 : Pr b r' r) : Pr b (joinT l' r') (joinT l r) := by
  have a := (pr_rs h1).2
  have c := (pr_rs h2).2
  unfold joinT
  rw [a, c]
  split
  · exact rfl
  · split
    · split
      · exact h1
      · exact h2
    · exact ⟨l', r', rfl, h1, h2⟩
theorem pr_ky {b : Nat} {t u : T} (h : Pr b t u) (hc : isCut u = false) (hf : isFork u = false) : kyL t = kyL u ∧ isFork t = false ∧ isCut t = false := by
  cases u with
  | non => have h : t = .non := h; subst h; exact ⟨rfl, rfl, rfl⟩
  | leaf k v => have h : t = .leaf k v := h; subst h; exact ⟨rfl, rfl, rfl⟩
  | shut k s => rcases h with ⟨v, rfl, rfl⟩ | rfl <;> exact ⟨rfl, rfl, rfl⟩
  | cut => cases hc
  | fork => cases hf
theorem pr_wlT {b : Nat} {q' q : T} (h : Pr b q' q) (p : Int × D) (kq : Int) : ∀ m : Nat, Pr b (wlT m p kq q') (wlT m p kq q)
  | 0 => rfl
  | m + 1 => by
    have ih := pr_wlT h p kq m
    have im := (pr_rs ih).2
    unfold wlT
    rw [im]
    split
    · split
      · exact ⟨_, _, rfl, ih, rfl⟩
      · exact ⟨_, _, rfl, rfl, ih⟩
    · split
      · exact ⟨_, _, rfl, rfl, h⟩
      · exact ⟨_, _, rfl, h, rfl⟩
theorem pr_new {b : Nat} {t u : T} (h : Pr b t u) (hk : kyL t = kyL u) (m : Nat) (k : Int) (v : D) : Pr b (newE m t k v) (newE m u k v) := by
  unfold newE
  rw [hk]
  cases kyL u with
  | none => exact pr_refl b _
  | some k' =>
    simp only
    split
    · exact pr_refl b _
    · split
      · exact h
      · exact pr_wlT h _ _ _
theorem pr_ch {b : Nat} {k : Int} {v : D} : ∀ {n : Nat} {u t : T}, Pr b t u → isCut (endT n u k) = false → Pr b (chR n t k v) (chR n u k v)
  | n + 1, .fork m l r, t, h, hc => by
    obtain ⟨l', r', rfl, h1, h2⟩ := h
    have hc : isCut (endT n (if bi k n = 0 then l else r) k) = false := hc
    show Pr b (if bi k n = 0 then joinT (chR n l' k v) r' else joinT l' (chR n r' k v)) (if bi k n = 0 then joinT (chR n l k v) r else joinT l (chR n r k v))
    by_cases z : bi k n = 0
    · rw [if_pos z] at hc ⊢
      rw [if_pos z]
      exact pr_join (pr_ch h1 hc) h2
    · rw [if_neg z] at hc ⊢
      rw [if_neg z]
      exact pr_join h1 (pr_ch h2 hc)
  | 0, .fork m l r, t, h, hc => by
    obtain ⟨l', r', rfl, h1, h2⟩ := h
    exact pr_refl b _
  | n, .non, t, h, hc => by
    obtain ⟨a1, a2, _⟩ := pr_ky h rfl rfl
    rw [chR_nofork a2, chR_nofork rfl]
    exact pr_new h a1 _ _ _
  | n, .leaf _ _, t, h, hc => by
    obtain ⟨a1, a2, _⟩ := pr_ky h rfl rfl
    rw [chR_nofork a2, chR_nofork rfl]
    exact pr_new h a1 _ _ _
  | n, .shut _ _, t, h, hc => by
    obtain ⟨a1, a2, _⟩ := pr_ky h rfl rfl
    rw [chR_nofork a2, chR_nofork rfl]
    exact pr_new h a1 _ _ _
  | n, .cut _ _, t, h, hc => by rw [(nofork_way rfl n k).2] at hc; cases hc
theorem pr_end {b : Nat} {k : Int} : ∀ {n : Nat} {u t : T}, Pr b t u → isCut (endT n u k) = false → Pr b (endT n t k) (endT n u k)
  | n + 1, .fork m l r, t, h, hc => by
    obtain ⟨l', r', rfl, h1, h2⟩ := h
    have hc : isCut (endT n (if bi k n = 0 then l else r) k) = false := hc
    show Pr b (endT n (if bi k n = 0 then l' else r') k) (endT n (if bi k n = 0 then l else r) k)
    by_cases z : bi k n = 0
    · rw [if_pos z] at hc ⊢
      rw [if_pos z]
      exact pr_end h1 hc
    · rw [if_neg z] at hc ⊢
      rw [if_neg z]
      exact pr_end h2 hc
  | 0, .fork m l r, t, h, hc => by
    obtain ⟨l', r', rfl, h1, h2⟩ := h
    exact ⟨l', r', rfl, h1, h2⟩
  | n, .non, t, h, hc => by rw [(nofork_way (pr_ky h rfl rfl).2.1 n k).2, (nofork_way rfl n k).2]; exact h
  | n, .leaf _ _, t, h, hc => by rw [(nofork_way (pr_ky h rfl rfl).2.1 n k).2, (nofork_way rfl n k).2]; exact h
  | n, .shut _ _, t, h, hc => by rw [(nofork_way (pr_ky h rfl rfl).2.1 n k).2, (nofork_way rfl n k).2]; exact h
  | n, .cut _ _, t, h, hc => by rw [(nofork_way rfl n k).2] at hc; cases hc
theorem hid_cut {e : T} {k : Int} (h : hid e k = false) : isCut e = false := by
  unfold hid at h
  cases q : isCut e with
  | false => rfl
  | true => rw [q] at h; cases h
theorem pr_vl {b : Nat} {e e' : T} {k : Int} (h : Pr b e' e) (hh : hid e k = false) (hf : isFork e = false) : vlT e' k = vlT e k := by
  cases e with
  | non => have h : e' = .non := h; rw [h]
  | leaf k' v => have h : e' = .leaf k' v := h; rw [h]
  | shut k' s =>
    have hn : k' ≠ k := fun q => by
      subst q
      simp [hid, isCut, isShut, kyL] at hh
    rcases h with ⟨v, rfl, _⟩ | rfl
    · show (if k' = k then v else .int 0) = .int 0
      rw [if_neg hn]
    · rfl
  | cut => cases hh
  | fork => cases hf
/-! ### what is open stays open -/
theorem end_ky {n : Nat} {t : T} {k k' : Int} (h : kyL t = some k') : endT n t k = t := by
  cases t with
  | leaf => exact (nofork_way rfl n k).2
  | shut => exact (nofork_way rfl n k).2
  | _ => cases h
theorem hid_ne {t : T} {k k' : Int} (h : kyL t = some k') (hn : k' ≠ k) : hid t k = false := by
  cases t with
  | leaf => rfl
  | shut k0 s =>
    cases h
    have : (some k' == some k) = false := by rw [beq_eq_false_iff_ne]; exact fun e => hn (Option.some.inj e)
    simp [hid, isCut, isShut, kyL, this]
  | _ => cases h
theorem join_open {n : Nat} {c s : Int} {l r : T} (hl : Wf n (2 * c) l) (hr : Wf n (2 * c + 1) r) (hs : s / 2 ^ (n + 1) = c) (h : hid (endT n (if bi s n = 0 then l else r) s) s = false) : hid (endT (n + 1) (joinT l r) s) s = false := by
  have hl0 := hl.many0
  have hr0 := hr.many0
  unfold joinT
  split
  · rfl
  · split
    · split
      · rename_i e
        obtain ⟨k', hk⟩ := hl.m1 e
        rw [end_ky hk]
        by_cases z : bi s n = 0
        · rw [if_pos z, end_ky hk] at h
          exact h
        · refine hid_ne hk fun q => ?_
          have := (hl.kyp hk).2
          rw [q, pfx hs (by rcases bi01 s n with y | y; exact absurd y z; exact y)] at this
          omega
      · rename_i e
        obtain ⟨k', hk⟩ := hr.m1 (by omega)
        rw [end_ky hk]
        by_cases z : bi s n = 0
        · refine hid_ne hk fun q => ?_
          have := (hr.kyp hk).2
          rw [q, pfx hs z] at this
          omega
        · rw [if_neg z, end_ky hk] at h
          exact h
    · exact h
theorem wlT_end {p : Int × D} {kq : Int} {q : T} (hq : Lf q kq) {s : Int} : ∀ (m : Nat), endT m (wlT m p kq q) s = .non ∨ endT m (wlT m p kq q) s = .leaf p.1 p.2 ∨ endT m (wlT m p kq q) s = q
  | 0 => .inl rfl
  | m + 1 => by
    have hqe : ∀ n, endT n q s = q := fun n => by rcases hq with ⟨v, rfl⟩ | ⟨z, rfl⟩ <;> exact (nofork_way rfl n s).2
    have hle : ∀ n, endT n (.leaf p.1 p.2) s = .leaf p.1 p.2 := fun n => (nofork_way rfl n s).2
    have hne : ∀ n, endT n .non s = .non := fun n => (nofork_way rfl n s).2
    have ih := wlT_end (p := p) hq (s := s) m
    unfold wlT
    split
    · split
      · show endT m (if bi s m = 0 then wlT m p kq q else .non) s = _ ∨ _
        split
        · rename_i z
          show endT m (wlT m p kq q) s = .non ∨ endT m (if bi s m = 0 then wlT m p kq q else .non) s = _ ∨ endT m (if bi s m = 0 then wlT m p kq q else .non) s = _
          rw [if_pos z]; exact ih
        · exact .inl (hne m)
      · show endT m (if bi s m = 0 then .non else wlT m p kq q) s = _ ∨ _
        split
        · exact .inl (hne m)
        · rename_i z
          show endT m (wlT m p kq q) s = .non ∨ endT m (if bi s m = 0 then .non else wlT m p kq q) s = _ ∨ endT m (if bi s m = 0 then .non else wlT m p kq q) s = _
          rw [if_neg z]; exact ih
    · split
      · show endT m (if bi s m = 0 then .leaf p.1 p.2 else q) s = _ ∨ endT m (if bi s m = 0 then .leaf p.1 p.2 else q) s = _ ∨ endT m (if bi s m = 0 then .leaf p.1 p.2 else q) s = _
        by_cases z : bi s m = 0
        · rw [if_pos z, hle]; exact .inr (.inl rfl)
        · rw [if_neg z, hqe]; exact .inr (.inr rfl)
      · show endT m (if bi s m = 0 then q else .leaf p.1 p.2) s = _ ∨ endT m (if bi s m = 0 then q else .leaf p.1 p.2) s = _ ∨ endT m (if bi s m = 0 then q else .leaf p.1 p.2) s = _
        by_cases z : bi s m = 0
        · rw [if_pos z, hqe]; exact .inr (.inr rfl)
        · rw [if_neg z, hle]; exact .inr (.inl rfl)
theorem new_open {n : Nat} {t : T} {k s : Int} {v : D} (hc : isCut t = false) (hf : isFork t = false) (h : hid t s = false) : hid (endT n (newE n t k v) s) s = false := by
  have zl : hid (endT n (if isZ v = true then T.non else .leaf k v) s) s = false := by
    split
    · rw [(nofork_way rfl n s).2]; rfl
    · rw [(nofork_way rfl n s).2]; rfl
  unfold newE
  cases e : kyL t with
  | none => exact zl
  | some k' =>
    simp only
    split
    · exact zl
    · split
      · rw [end_ky e]; exact h
      · rcases wlT_end (p := (k, v)) (kyL_lf e) (s := s) n with q | q | q
        · rw [q]; rfl
        · rw [q]; rfl
        · rw [q]; exact h
theorem ch_open {k s : Int} {v : D} : ∀ {n : Nat} {c : Int} {u : T}, Wf n c u → k / 2 ^ n = c → s / 2 ^ n = c → 0 ≤ k → ZL v → isCut (endT n u k) = false → hid (endT n u s) s = false → hid (endT n (chR n u k v) s) s = false
  | n + 1, c, .fork m l r, h, hk, hs, h0, hv, hc, ho => by
    have hc : isCut (endT n (if bi k n = 0 then l else r) k) = false := hc
    have ho : hid (endT n (if bi s n = 0 then l else r) s) s = false := ho
    show hid (endT (n + 1) (if bi k n = 0 then joinT (chR n l k v) r else joinT l (chR n r k v)) s) s = false
    rcases bi01 k n with b | b
    · rw [if_pos b] at hc ⊢
      have hk' : k / 2 ^ n = 2 * c := by rw [pfx hk b]; omega
      have hw := chR_wf h.l hk' h0 hv hc
      refine join_open hw h.r hs ?_
      by_cases z : bi s n = 0
      · rw [if_pos z] at ho ⊢
        exact ch_open h.l hk' (by rw [pfx hs z]; omega) h0 hv hc ho
      · rw [if_neg z] at ho ⊢
        exact ho
    · have b' : ¬ bi k n = 0 := by omega
      rw [if_neg b'] at hc ⊢
      have hw := chR_wf h.r (pfx hk b) h0 hv hc
      refine join_open h.l hw hs ?_
      by_cases z : bi s n = 0
      · rw [if_pos z] at ho ⊢
        exact ho
      · rw [if_neg z] at ho ⊢
        exact ch_open h.r (pfx hk b) (pfx hs (by rcases bi01 s n with y | y; exact absurd y z; exact y)) h0 hv hc ho
  | 0, _, .fork _ _ _, h, _, _, _, _, _, _ => absurd h.2.2.2.2 (by omega)
  | n, c, .non, h, hk, hs, h0, hv, hc, ho => by rw [chR_nofork rfl]; exact new_open rfl rfl rfl
  | n, c, .leaf _ _, h, hk, hs, h0, hv, hc, ho => by rw [chR_nofork rfl]; exact new_open rfl rfl rfl
  | n, c, .shut _ _, h, hk, hs, h0, hv, hc, ho => by
    rw [(nofork_way rfl n s).2] at ho
    rw [chR_nofork rfl]; exact new_open rfl rfl ho
  | n, c, .cut _ _, h, hk, hs, h0, hv, hc, ho => by rw [(nofork_way rfl n k).2] at hc; cases hc
end K49
/-! GI: a right tree is a tree. -/
namespace K49
open DL
open PySem (Str)
open Lean in
local macro_rules
  | `(tactic| simp_arith [$ls,*]) => `(tactic| simp only [x_def1, x_def2, x_def3, x_def4, x_def5, List.cons_append, List.nil_append, List.replicate, Nat.reduceSub, List.map_cons, List.map_nil, x_sSq, x_sIf, x_sRet, x_sE, x_sAsN, x_dV0, x_dVs, x_dC, x_d1, x_d2, x_dCall, x_dCallF, x_daC, x_daN, rb_ok, x_ofO_some, x_dB, x_boolR, x_dTr, x_dtAnd, x_dtOr, x_dtNot, x_dAnd, x_dNot, x_dIfE, x_dChain, x_sNx, x_sApp, x_ownL0, x_ownLs, x_ownD0, x_ownDs, x_sPut, x_sRai, List.set_cons_zero, List.set_cons_succ, Bool.not_true, Bool.not_false, Bool.false_eq_true, if_true, if_false, x_dTup, x_dLst, sl0, sl1, sl2, sl3, sl4, o_add, o_sub, o_eq, o_ne, o_lt, o_le, o_gt, o_ge, o_lenL, o_lenT, o_trB, o_trL, o_trT, o_int, $ls,*])
/-- the number of a place -/
def pv (p : List Bool) : Int := p.foldl (fun c b => 2 * c + bv b) 0
theorem pv_snoc (p : List Bool) (b : Bool) : pv (p ++ [b]) = 2 * pv p + bv b := by
  unfold pv
  rw [List.foldl_append]
  rfl
theorem bv01 (b : Bool) : bv b = 0 ∨ bv b = 1 := by cases b; exact .inl rfl; exact .inr rfl
theorem bel_of : ∀ (m : Nat) (p : List Bool) (n : Nat) (k : Int), p.length = m → p.length + n = 16 → 0 ≤ k → k / 2 ^ n = pv p → Bel p k ∧ Spot k
  | 0, p, n, k, hm, hn, h0, h => by
    have : p = [] := List.eq_nil_of_length_eq_zero hm
    subst this
    have : n = 16 := by simpa using hn
    subst this
    refine ⟨fun i b hb => by simp at hb, h0, ?_⟩
    have h : k / 65536 = 0 := h
    omega
  | m + 1, p, n, k, hm, hn, h0, h => by
    rcases List.eq_nil_or_concat p with e | ⟨q, b, e⟩
    · subst e; cases hm
    · subst e
      rw [List.concat_eq_append] at *
      rw [pv_snoc] at h
      rw [List.length_append, List.length_singleton] at hm hn
      obtain ⟨h1, h2⟩ := pfx' h (bv01 b)
      obtain ⟨b1, b2⟩ := bel_of m q (n + 1) k (by omega) (by omega) h0 h1
      exact ⟨b1.snoc (by omega) h2, b2⟩
/-- a right part at its place -/
def WfP (x : List Bool × T) : Prop := x.1.length ≤ 16 ∧ Wf (16 - x.1.length) (pv x.1) x.2
theorem WfP.fits {x : List Bool × T} (h : WfP x) : fits x := by
  have := h.2.ht
  unfold K49.fits
  have := h.1
  omega
theorem WfP.kids {x : List Bool × T} (h : WfP x) : ∀ y ∈ kT x, WfP y := by
  obtain ⟨p, t⟩ := x
  obtain ⟨h1, h2⟩ := h
  simp only at h1 h2
  intro y hy
  cases t with
  | fork m l r =>
    have h5 : 1 ≤ 16 - p.length := h2.2.2.2.2
    have e : 16 - p.length - 1 = 16 - (p.length + 1) := by omega
    simp only [kT, List.mem_cons, List.not_mem_nil, or_false] at hy
    rcases hy with rfl | rfl
    · refine ⟨by simp only [List.length_append, List.length_singleton]; omega, ?_⟩
      show WfT l (16 - (p ++ [false]).length) (pv (p ++ [false]))
      rw [pv_snoc, List.length_append, List.length_singleton, ← e]
      show WfT l _ (2 * pv p + 0)
      rw [Int.add_zero]
      exact h2.2.2.1
    · refine ⟨by simp only [List.length_append, List.length_singleton]; omega, ?_⟩
      show WfT r (16 - (p ++ [true]).length) (pv (p ++ [true]))
      rw [pv_snoc, List.length_append, List.length_singleton, ← e]
      exact h2.2.2.2.1
  | _ => simp [kT] at hy
theorem is_number {i : Int} (h : 0 ≤ i) : M_is_number [.int i] = .ok (.bl true) := by
  have z : decide (0 ≤ i) = true := decide_eq_true h
  simp_arith [M_is_number, b_is_number, is_int, z]
theorem is_node_shut {p : List Bool} {k s : Int} (hp : p.length ≤ 16) (hk : Spot k) (hs : 0 ≤ s) (h : Bel p k) : M_is_node [.str (pS p), (T.shut k s).d] = .ok (.bl true) := by
  have e0 : fIsTup (T.shut k s).d = some (.bl true) := rfl
  have e1 : fLen (T.shut k s).d = some (.int 3) := rfl
  have e2 : opIx (T.shut k s).d (.int 0) = some (.str "shut") := rfl
  have e3 : fIsStr (.str "shut") = some (.bl true) := rfl
  have e4 : opEq (.str "shut") (.str "none") = some (.bl false) := rfl
  have e5 : opEq (.str "shut") (.str "leaf") = some (.bl false) := rfl
  have e5b : opEq (.str "shut") (.str "shut") = some (.bl true) := rfl
  have e6 : opIx (T.shut k s).d (.int 1) = some (.int k) := rfl
  have e7 : opIx (T.shut k s).d (.int 2) = some (.int s) := rfl
  have e8 : ((3 : Int) == 0) = false := rfl
  have e9 : ((3 : Int) == 3) = true := rfl
  simp_arith [M_is_node, b_is_node, e0, e1, e2, e3, e4, e5, e5b, e6, e7, e8, e9, is_spot hk, is_number hs, is_below hk.1 hp h]
theorem is_node_cut {p : List Bool} {s m : Int} (hp : p.length ≤ 16) (hs : 0 ≤ s) (h1 : 2 ≤ m) (h2 : m ≤ 2 ^ (16 - p.length)) : M_is_node [.str (pS p), (T.cut s m).d] = .ok (.bl true) := by
  have e0 : fIsTup (T.cut s m).d = some (.bl true) := rfl
  have e1 : fLen (T.cut s m).d = some (.int 3) := rfl
  have e2 : opIx (T.cut s m).d (.int 0) = some (.str "cut") := rfl
  have e3 : fIsStr (.str "cut") = some (.bl true) := rfl
  have e4 : opEq (.str "cut") (.str "none") = some (.bl false) := rfl
  have e5 : opEq (.str "cut") (.str "leaf") = some (.bl false) := rfl
  have e5a : opEq (.str "cut") (.str "shut") = some (.bl false) := rfl
  have e5b : opEq (.str "cut") (.str "cut") = some (.bl true) := rfl
  have e6 : opIx (T.cut s m).d (.int 1) = some (.int s) := rfl
  have e7 : opIx (T.cut s m).d (.int 2) = some (.int m) := rfl
  have e8 : ((3 : Int) == 0) = false := rfl
  have e9 : ((3 : Int) == 3) = true := rfl
  have e11 : fLen (.str (pS p)) = some (.int (p.length : Int)) := by rw [o_lenS (by rw [pS_len]; show _ ≤ 16777216; omega), pS_len]
  have sh : opShl (.int 1) (.int (16 - (p.length : Int))) = some (.int (2 ^ (16 - p.length))) := by
    have e : (16 - (p.length : Int)) = ((16 - p.length : Nat) : Int) := by omega
    rw [e]
    show (if 0 ≤ ((16 - p.length : Nat) : Int) ∧ ((16 - p.length : Nat) : Int) ≤ 1000000 ∧ (1 : Int).natAbs < 2 ^ 64 then some (D.int (1 * 2 ^ ((16 - p.length : Nat) : Int).toNat)) else none) = _
    rw [if_pos ⟨by omega, by omega, by decide⟩, Int.toNat_natCast, Int.one_mul]
  have lst : ∃ (L : Int), (L = 1 ∨ L = 2) ∧ dIfE (dB (d2 opEq (dV 0) (dC (.str "")))) (dC (.int 1)) (dC (.int 2)) [some (.str (pS p)), some (T.cut s m).d, none] = .ok (.int L) := by
    have : ∃ q : Bool, opEq (.str (pS p)) (.str "") = some (.bl q) := ⟨_, by
      unfold opEq
      have ok1 : (D.str (pS p)).okE = true := by
        have : sOk (pS p) = true := by
          unfold sOk pS
          rw [List.all_eq_true]
          intro x hx
          rw [List.toList_toArray, List.mem_map] at hx
          obtain ⟨b, _, rfl⟩ := hx
          cases b <;> rfl
        unfold D.okE
        simp [D.okS, D.dep, this]
      rw [eqB_def rfl, ok1]
      rfl⟩
    obtain ⟨q, hq⟩ := this
    cases q with
    | true => exact ⟨1, .inl rfl, by simp_arith [hq]⟩
    | false => exact ⟨2, .inr rfl, by simp_arith [hq]⟩
  obtain ⟨L, hL, eL⟩ := lst
  have ebt := is_between (i := m) (a := L) (b := 2 ^ (16 - p.length)) (by omega) h2
  generalize hE : dIfE (dB (d2 opEq (dV 0) (dC (.str "")))) (dC (.int 1)) (dC (.int 2)) = E at eL
  have eb : b_is_node = sSq (sIf (dtOr (dtNot (dTr (d1 fIsTup (dV 1)))) (dtOr (dB (d2 opEq (d1 fLen (dV 1)) (dC (.int 0)))) (dtNot (dTr (d1 fIsStr (d2 opIx (dV 1) (dC (.int 0)))))))) (sSq (sRet (dC (.bl false))) sNx) sNx)
    (sSq (sIf (dB (d2 opEq (d2 opIx (dV 1) (dC (.int 0))) (dC (.str "none")))) (sSq (sRet (d2 opEq (d1 fLen (dV 1)) (dC (.int 1)))) sNx) sNx)
    (sSq (sIf (dB (d2 opEq (d2 opIx (dV 1) (dC (.int 0))) (dC (.str "leaf")))) (sSq (sRet (dAnd (d2 opEq (d1 fLen (dV 1)) (dC (.int 3))) (dAnd (dCall M_is_spot (daC (d2 opIx (dV 1) (dC (.int 1))) daN)) (dAnd (dCall M_is_value (daC (d2 opIx (dV 1) (dC (.int 2))) daN)) (dCall M_is_below (daC (dV 0) (daC (d2 opIx (dV 1) (dC (.int 1))) daN))))))) sNx) sNx)
    (sSq (sIf (dB (d2 opEq (d2 opIx (dV 1) (dC (.int 0))) (dC (.str "shut")))) (sSq (sRet (dAnd (d2 opEq (d1 fLen (dV 1)) (dC (.int 3))) (dAnd (dCall M_is_spot (daC (d2 opIx (dV 1) (dC (.int 1))) daN)) (dAnd (dCall M_is_number (daC (d2 opIx (dV 1) (dC (.int 2))) daN)) (dCall M_is_below (daC (dV 0) (daC (d2 opIx (dV 1) (dC (.int 1))) daN))))))) sNx) sNx)
    (sSq (sIf (dB (d2 opEq (d2 opIx (dV 1) (dC (.int 0))) (dC (.str "cut")))) (sSq (sAs (gN 2) E) (sSq (sRet (dAnd (d2 opEq (d1 fLen (dV 1)) (dC (.int 3))) (dAnd (dCall M_is_number (daC (d2 opIx (dV 1) (dC (.int 1))) daN)) (dCall M_is_between (daC (d2 opIx (dV 1) (dC (.int 2))) (daC (dV 2) (daC (d2 opShl (dC (.int 1)) (d2 opSub (dC (.int 16)) (d1 fLen (dV 0)))) daN))))))) sNx)) sNx)
    (sSq (sRet (dAnd (d2 opEq (d2 opIx (dV 1) (dC (.int 0))) (dC (.str "fork"))) (dAnd (d2 opEq (d1 fLen (dV 1)) (dC (.int 4))) (dAnd (dCall M_is_number (daC (d2 opIx (dV 1) (dC (.int 1))) daN)) (d2 opLt (d1 fLen (dV 0)) (dC (.int 16))))))) sNx))))) := by rw [← hE]; rfl
  simp_arith [M_is_node, eb, e0, e1, e2, e3, e4, e5, e5a, e5b, e6, e7, e8, e9, eL, is_number hs, e11, sh, ebt]
theorem is_node_wf {x : List Bool × T} (h : WfP x) : M_is_node [.str (pS x.1), x.2.d] = .ok (.bl true) := by
  obtain ⟨p, t⟩ := x
  obtain ⟨h1, h2⟩ := h
  simp only at h1 h2 ⊢
  cases t with
  | non => exact is_node_non
  | leaf k v =>
    obtain ⟨a1, a2⟩ := bel_of p.length p (16 - p.length) k rfl (by omega) h2.1 h2.2.1
    exact is_node_leaf h1 a2 h2.2.2 a1
  | shut k s =>
    obtain ⟨a1, a2⟩ := bel_of p.length p (16 - p.length) k rfl (by omega) h2.1 h2.2.1
    exact is_node_shut h1 a2 h2.2.2.1 a1
  | cut s m => exact is_node_cut h1 h2.1.1 h2.2.1 h2.2.2
  | fork m l r => exact is_node_fork (by have : 1 ≤ 16 - p.length := h2.2.2.2.2; omega) (by have : 2 ≤ m := h2.2.1; omega)
theorem fork_right {m : Int} {l r : T} (h1 : m = l.many + r.many) (h2 : 2 ≤ m) : M_is_fork_right [(T.fork m l r).d] = .ok (.bl true) := by
  have e6 : opIx (T.fork m l r).d (.int 1) = some (.int m) := rfl
  have e7 : opIx (T.fork m l r).d (.int 2) = some l.d := rfl
  have e8 : opIx (T.fork m l r).d (.int 3) = some r.d := rfl
  have z : decide (2 ≤ m) = true := decide_eq_true h2
  have z2 : (m == l.many + r.many) = true := by rw [beq_iff_eq]; exact h1
  simp_arith [M_is_fork_right, b_is_fork_right, e6, e7, e8, z, many_in, z2]
theorem paW_loop {b : Option D} : ∀ (m fuel : Nat) (stk : List (List Bool × T)) (acc : List D) (a e : Option D), (∀ x ∈ stk, WfP x) → (stk.flatMap fun y => nT y.1 y.2).length = m → m < fuel → acc.length + m ≤ 1000000 → (∀ d ∈ acc, M_is_fork_right [d] = .ok (.bl true)) →
    ∃ a' e' fk, whileN paC paB fuel [a, b, some (.lst (stk.map nP).reverse), some (.lst acc), e] = .nx [a', b, some (.lst []), some (.lst fk), e'] ∧ (∀ d ∈ fk, M_is_fork_right [d] = .ok (.bl true)) ∧ fk.length ≤ 1000000 := by
  intro m
  induction m with
  | zero =>
    intro fuel stk acc a e h1 h2 h3 h4 h5
    obtain ⟨f, rfl⟩ : ∃ f, fuel = f + 1 := ⟨fuel - 1, by omega⟩
    have es : stk = [] := by
      have := stkT_len stk
      exact List.eq_nil_of_length_eq_zero (by omega)
    subst es
    refine ⟨a, e, acc, ?_, h5, by omega⟩
    rw [wh_end (by simp [paC])]
    simp
  | succ m ih =>
    intro fuel stk acc a e h1 h2 h3 h4 h5
    obtain ⟨f, rfl⟩ : ∃ f, fuel = f + 1 := ⟨fuel - 1, by omega⟩
    cases stk with
    | nil => simp at h2
    | cons x r =>
      have hx := h1 x List.mem_cons_self
      have hr := fun y hy => h1 y (List.mem_cons_of_mem _ hy)
      have hs := stkT_len r
      have et : paC [a, b, some (.lst ((x :: r).map nP).reverse), some (.lst acc), e] = .ok true := by simp [paC]
      have ep : sPop (gT [0, 4]) 2 [a, b, some (.lst ((x :: r).map nP).reverse), some (.lst acc), e] = .nx [some (.str (pS x.1)), b, some (.lst (r.map nP).reverse), some (.lst acc), some x.2.d] := by
        rw [x_sPop (xs := (r.map nP).reverse) (d := nP x) (by rw [List.map_cons, List.reverse_cons]; rfl)]
        rfl
      have hacc : acc.length < SL := by show _ < 16777216; omega
      have en := is_node_wf hx
      have hp16 := hx.1
      rw [List.flatMap_cons, nT_kT, List.length_append, List.length_cons] at h2
      have hk : ∀ y ∈ kT x ++ r, WfP y := fun y hy => by
        rcases List.mem_append.mp hy with hy | hy
        · exact hx.kids y hy
        · exact hr y hy
      have hm : ((kT x ++ r).flatMap fun y => nT y.1 y.2).length = m := by rw [List.flatMap_append, List.length_append]; omega
      by_cases hf : isFork x.2 = true
      · obtain ⟨p, t⟩ := x
        cases t with
        | fork m' l r' =>
          obtain ⟨a1, a2⟩ := addS (p := p) hp16
          have fr : M_is_fork_right [(T.fork m' l r').d] = .ok (.bl true) := fork_right hx.2.1 hx.2.2.1
          obtain ⟨a', e', fk, ei, e5, e6⟩ := ih f (kT (p, .fork m' l r') ++ r) (acc ++ [(T.fork m' l r').d]) (some (.str (pS p))) (some (T.fork m' l r').d) hk hm (by omega) (by rw [List.length_append, List.length_singleton]; omega) (fun d hd => by
            rcases List.mem_append.mp hd with hd | hd
            · exact h5 d hd
            · rw [List.mem_singleton.mp hd]; exact fr)
          refine ⟨a', e', fk, ?_, e5, e6⟩
          have e2 : opIx (T.fork m' l r').d (.int 2) = some l.d := rfl
          have e3 : opIx (T.fork m' l r').d (.int 3) = some r'.d := rfl
          have hxl : sExt 2 (dLst (daC (dTup (daC (d2 opAdd (dV 0) (dC (.str "1"))) (daC (d2 opIx (dV 4) (dC (.int 3))) daN))) (daC (dTup (daC (d2 opAdd (dV 0) (dC (.str "0"))) (daC (d2 opIx (dV 4) (dC (.int 2))) daN))) daN)))
              [some (.str (pS p)), b, some (.lst (r.map nP).reverse), some (.lst (acc ++ [(T.fork m' l r').d])), some (T.fork m' l r').d] = .nx [some (.str (pS p)), b, some (.lst ((kT (p, .fork m' l r') ++ r).map nP).reverse), some (.lst (acc ++ [(T.fork m' l r').d])), some (T.fork m' l r').d] := by
            rw [x_sExt (xs := (r.map nP).reverse) (ds := [nP (p ++ [true], r'), nP (p ++ [false], l)]) rfl (by simp_arith [a1, a2, e2, e3, nP]) (by
              show _ ≤ 16777216
              simp only [List.length_reverse, List.length_map, List.length_cons, List.length_nil]
              omega)]
            simp [kT]
          have eb : paB [a, b, some (.lst (((p, T.fork m' l r') :: r).map nP).reverse), some (.lst acc), e] = .nx [some (.str (pS p)), b, some (.lst ((kT (p, .fork m' l r') ++ r).map nP).reverse), some (.lst (acc ++ [(T.fork m' l r').d])), some (T.fork m' l r').d] := by
            unfold paB
            rw [sq_nx ep]
            simp_arith [en, ix_tag, eq_fork, isFork, if_pos hacc, hxl]
          rw [wh_step et eb, ei]
        | _ => cases hf
      · have hf : isFork x.2 = false := by cases q : isFork x.2 with | true => exact absurd q hf | false => rfl
        have hkx : kT x = [] := by
          obtain ⟨p, t⟩ := x
          cases t with
          | fork => cases hf
          | _ => rfl
        obtain ⟨a', e', fk, ei, e5, e6⟩ := ih f r acc (some (.str (pS x.1))) (some x.2.d) hr (by rw [hkx, List.nil_append] at hm; exact hm) (by omega) (by omega) h5
        refine ⟨a', e', fk, ?_, e5, e6⟩
        have eb : paB [a, b, some (.lst ((x :: r).map nP).reverse), some (.lst acc), e] = .nx [some (.str (pS x.1)), b, some (.lst (r.map nP).reverse), some (.lst acc), some x.2.d] := by
          unfold paB
          rw [sq_nx ep]
          simp_arith [en, ix_tag, eq_fork, hf]
        rw [wh_step et eb, ei]
/-- a right whole thing -/
abbrev W16 (t : T) : Prop := Wf 16 0 t
theorem is_tree_wf {t : T} (h : W16 t) : M_is_tree [t.d] = .ok (.bl true) := by
  have hn := nT_small h.ht []
  have hx : WfP ([], t) := ⟨Nat.zero_le _, h⟩
  obtain ⟨a', e', fk, e, e5, e6⟩ := paW_loop (b := some t.d) (nT [] t).length FU [([], t)] [] (some (.str "")) none (fun y hy => by rw [List.mem_singleton.mp hy]; exact hx) (by simp) (by show _ < 1048576; omega) (by rw [List.length_nil]; omega) (fun d hd => by cases hd)
  have e : sWh paC paB [some (.str ""), some t.d, some (.lst [.tup [.str "", t.d]]), some (.lst []), none] = .nx [a', some t.d, some (.lst []), some (.lst fk), e'] := e
  have hi : diL (dV 3) [a', some t.d, some (.lst []), some (.lst fk), e'] = .ok fk := rfl
  have lc : dLc (diL (dV 3)) [4] (gN 4) tT (dCall M_is_fork_right (daC (dV 4) daN)) [a', some t.d, some (.lst []), some (.lst fk), e'] = .ok (.lst (fk.map fun _ => .bl true)) := by
    refine x_dLc hi (by show _ ≤ 16777216; omega) (lcL_map fun d hd => ⟨_, rfl, rfl, ?_⟩)
    exact e5 d hd
  have ea : fAll (.lst (fk.map fun _ => .bl true)) = some (.bl true) := x_all fun d hd => by
    obtain ⟨_, _, rfl⟩ := List.mem_map.mp hd
    rfl
  have eb : b_is_part = sSq (sAs (gN 2) (dLst (daC (dTup (daC (dV 0) (daC (dV 1) daN))) daN))) (sSq (sAs (gN 3) (dLst daN)) (sSq (sWh paC paB) (sSq (sRet (d1 fAll (dLc (diL (dV 3)) [4] (gN 4) tT (dCall M_is_fork_right (daC (dV 4) daN))))) sNx))) := rfl
  have ep : M_is_part [.str "", t.d] = .ok (.bl true) := by
    simp_arith [M_is_part, eb, e, lc, ea]
  simp_arith [M_is_tree, b_is_tree, ep]
theorem need_tree_wf {t : T} (h : W16 t) : M_need_tree [t.d] = .ok .non := by
  simp_arith [M_need_tree, b_need_tree, is_tree_wf h]
end K49
/-! GJ: keys, opens, get, put, root of right trees. -/
namespace K49
open DL
open PySem (Str)
open Lean in
local macro_rules
  | `(tactic| simp_arith [$ls,*]) => `(tactic| simp only [x_def1, x_def2, x_def3, x_def4, x_def5, List.cons_append, List.nil_append, List.replicate, Nat.reduceSub, List.map_cons, List.map_nil, x_sSq, x_sIf, x_sRet, x_sE, x_sAsN, x_dV0, x_dVs, x_dC, x_d1, x_d2, x_dCall, x_dCallF, x_daC, x_daN, rb_ok, x_ofO_some, x_dB, x_boolR, x_dTr, x_dtAnd, x_dtOr, x_dtNot, x_dAnd, x_dNot, x_dIfE, x_dChain, x_sNx, x_sApp, x_ownL0, x_ownLs, x_ownD0, x_ownDs, x_sPut, x_sRai, List.set_cons_zero, List.set_cons_succ, Bool.not_true, Bool.not_false, Bool.false_eq_true, if_true, if_false, x_dTup, x_dLst, sl0, sl1, sl2, sl3, sl4, o_add, o_sub, o_eq, o_ne, o_lt, o_le, o_gt, o_ge, o_lenL, o_lenT, o_trB, o_trL, o_trT, o_int, $ls,*])

theorem pow_many : ∀ {n : Nat} {c : Int} {t : T}, Wf n c t → t.many ≤ 2 ^ n
  | n + 1, c, .fork m l r, h => by
    show m ≤ 2 ^ (n + 1)
    have h1 := pow_many h.l
    have h2 := pow_many h.r
    rw [h.1, Int.pow_succ]
    omega
  | 0, _, .fork _ _ _, h => absurd h.2.2.2.2 (by omega)
  | n, _, .non, _ => by show (0 : Int) ≤ 2 ^ n; exact Int.le_of_lt (Int.pow_pos (by omega))
  | n, _, .leaf _ _, _ => by show (1 : Int) ≤ 2 ^ n; have : (0 : Int) < 2 ^ n := Int.pow_pos (by omega); omega
  | n, _, .shut _ _, _ => by show (1 : Int) ≤ 2 ^ n; have : (0 : Int) < 2 ^ n := Int.pow_pos (by omega); omega
  | n, _, .cut _ m, h => h.2.2
theorem pow16 {n : Nat} (h : n ≤ 16) : (2 : Int) ^ n ≤ 65536 := by
  have h6 := Nat.pow_le_pow_right (show 0 < 2 by omega) h
  have h7 := Int.ofNat_le.mpr h6
  rw [Int.natCast_pow, Int.natCast_pow] at h7
  exact h7
theorem Wf.manyNm {n : Nat} {c : Int} {t : T} (h : Wf n c t) (hn : n ≤ 16) : Nm t.many := by
  have h1 := pow_many h
  have h2 := pow16 hn
  have h3 := h.many0
  exact ⟨h3, by omega⟩
theorem Wf.tv : ∀ {n : Nat} {c : Int} {t : T}, n ≤ 16 → (∀ k : Int, 0 ≤ k → k / 2 ^ n = c → k < 65536) → Wf n c t → TV t
  | n + 1, c, .fork m l r, hn, hb, h => ⟨h.manyNm hn, Wf.tv (by omega) (fun k h0 e => hb k h0 (pfx' (b := 0) (by rw [Int.add_zero]; exact e) (.inl rfl)).1) h.l, Wf.tv (by omega) (fun k h0 e => hb k h0 (pfx' e (.inr rfl)).1) h.r⟩
  | 0, _, .fork _ _ _, _, _, h => absurd h.2.2.2.2 (by omega)
  | n, _, .non, _, _, _ => trivial
  | n, _, .leaf k _, _, hb, h => ⟨⟨h.1, by have := hb k h.1 h.2.1; omega⟩, h.2.2.pv⟩
  | n, _, .shut k _, _, hb, h => ⟨⟨h.1, by have := hb k h.1 h.2.1; omega⟩, h.2.2⟩
  | n, _, .cut _ _, hn, _, h => ⟨h.1, Wf.manyNm (t := .cut _ _) h hn⟩
theorem lt16 (k : Int) (h0 : 0 ≤ k) (e : k / 2 ^ 16 = 0) : k < 65536 := by
  have e : k / 65536 = 0 := e
  omega
theorem w16_tv {t : T} (h : W16 t) : TV t := Wf.tv (Nat.le_refl _) lt16 h
theorem Wf.ov : ∀ {n : Nat} {c : Int} {t : T}, Wf n c t → OV t
  | n + 1, c, .fork m l r, h => ⟨Wf.ov h.l, Wf.ov h.r⟩
  | 0, _, .fork _ _ _, h => absurd h.2.2.2.2 (by omega)
  | n, _, .non, _ => trivial
  | n, _, .leaf k _, h => h.2.2.okS
  | n, _, .shut k _, h => trivial
  | n, _, .cut _ _, h => trivial
theorem w16_okE {t : T} (h : W16 t) : t.d.okE = true := h.ov.okE h.ht
theorem mp_w16 {ps : PL} (h : Mp ps) : W16 (cn 16 ps) := cn_wf h.sp.gd fun p hp => ⟨(h.sp.spot p hp).1, spot0 (h.sp.spot p hp), h.lv p hp⟩
theorem root_w {b : Nat} (h1 : 4 ≤ b) (h2 : b ≤ 60) {t : T} (h : W16 t) : M_root [t.d, .int (b : Int)] = .ok (rD b t) := by
  simp_arith [M_root, b_root, need_tree_wf h, need_bits h1 h2, root_of h2 h.ht (w16_tv h)]
theorem opens_w {t : T} {k : Int} (h : W16 t) (hk : Spot k) : M_opens [t.d, .int k] = .ok (.bl (!hid (endT 16 t k) k)) := by
  simp_arith [M_opens, b_opens, need_tree_wf h, is_spot hk, is_open h.ht hk.1]
theorem get_w {t : T} {k : Int} (h : W16 t) (hk : Spot k) (hc : hid (endT 16 t k) k = false) : M_get [t.d, .int k] = .ok (vlT (endT 16 t k) k) := by
  simp_arith [M_get, b_get, need_tree_wf h, need_key hk, value h.ht hk.1 hc]
theorem put_w {t : T} {k : Int} {v : D} (h : W16 t) (hk : Spot k) (hv : VV v) (hc : isCut (endT 16 t k) = false) : M_put [t.d, .int k, v] = .ok (chR 16 t k v).d := by
  have e := changed (v := v) h.ht hk.1 hc (end_ok h (spot0 hk)) hv.vz
  rw [chT_chR h hc] at e
  simp_arith [M_put, b_put, need_tree_wf h, need_key hk, need_value hv, e]
theorem x_sRet_err {a : DE} {s : DSt} {e : Err} (h : a s = .err e) : sRet a s = .er e s := by
  rw [x_sRet, h]
theorem get_miss {t : T} {k : Int} (h : W16 t) (hk : Spot k) (hc : hid (endT 16 t k) k = true) : M_get [t.d, .int k] = .err (eMi k) := by
  have e : dCall M_value_at (daC (dV 0) (daC (dV 1) daN)) [some t.d, some (.int k)] = .err (eMi k) := by
    simp_arith [value_miss h.ht hk.1 hc]
  unfold M_get
  refine def2_er (s := [some t.d, some (.int k)]) rfl ⟨[some t.d, some (.int k)], ?_⟩
  unfold b_get
  refine (sq_nx (s1 := [some t.d, some (.int k)]) (by simp_arith [need_tree_wf h])).trans ((sq_nx (s1 := [some t.d, some (.int k)]) (by simp_arith [need_key hk])).trans (sq_er (x_sRet_err e)))
theorem put_miss {t : T} {k : Int} {v : D} (h : W16 t) (hk : Spot k) (hv : VV v) (hc : isCut (endT 16 t k) = true) : M_put [t.d, .int k, v] = .err (eMi k) := by
  have e : dCall M_changed_at (daC (dV 0) (daC (dV 1) (daC (dV 2) daN))) [some t.d, some (.int k), some v] = .err (eMi k) := by
    simp_arith [changed_miss h.ht hk.1 hc]
  unfold M_put
  refine def3_er (s := [some t.d, some (.int k), some v]) rfl ⟨[some t.d, some (.int k), some v], ?_⟩
  unfold b_put
  refine (sq_nx (s1 := [some t.d, some (.int k), some v]) (by simp_arith [need_tree_wf h])).trans ((sq_nx (s1 := [some t.d, some (.int k), some v]) (by simp_arith [need_key hk])).trans ((sq_nx (s1 := [some t.d, some (.int k), some v]) (by simp_arith [need_value hv])).trans (sq_er (x_sRet_err e))))
theorem need_keys {ks : List Int} (h : ∀ k ∈ ks, Spot k) (hl : ks.length ≤ 1000) : M_need_keys [.tup (ks.map .int)] = .ok .non := by
  have hi : diL (dV 0) [some (.tup (ks.map .int)), none] = .ok (ks.map .int) := rfl
  have lc : dLc (diL (dV 0)) [1] (gN 1) tT (dCall M_is_spot (daC (dV 1) daN)) [some (.tup (ks.map .int)), none] = .ok (.lst ((ks.map D.int).map fun _ => .bl true)) := by
    refine x_dLc hi (by rw [List.length_map]; show _ ≤ 16777216; omega) (lcL_map fun d hd => ⟨_, rfl, rfl, ?_⟩)
    obtain ⟨k, hk, rfl⟩ := List.mem_map.mp hd
    exact is_spot (h k hk)
  have ea : fAll (.lst ((ks.map D.int).map fun _ => .bl true)) = some (.bl true) := x_all fun d hd => by
    obtain ⟨_, _, rfl⟩ := List.mem_map.mp hd
    rfl
  have et : fIsTup (.tup (ks.map .int)) = some (.bl true) := rfl
  simp_arith [M_need_keys, b_need_keys, lc, ea, et]
end K49
/-! GK: cut_away, rebuilt: a tree with parts closed. -/
namespace K49
open DL
open PySem (Str)
open Lean in
local macro_rules
  | `(tactic| simp_arith [$ls,*]) => `(tactic| simp only [x_def1, x_def2, x_def3, x_def4, x_def5, List.cons_append, List.nil_append, List.replicate, Nat.reduceSub, List.map_cons, List.map_nil, x_sSq, x_sIf, x_sRet, x_sE, x_sAsN, x_dV0, x_dVs, x_dC, x_d1, x_d2, x_dCall, x_dCallF, x_daC, x_daN, rb_ok, x_ofO_some, x_dB, x_boolR, x_dTr, x_dtAnd, x_dtOr, x_dtNot, x_dAnd, x_dNot, x_dIfE, x_dChain, x_sNx, x_sApp, x_ownL0, x_ownLs, x_ownD0, x_ownDs, x_sPut, x_sRai, List.set_cons_zero, List.set_cons_succ, Bool.not_true, Bool.not_false, Bool.false_eq_true, if_true, if_false, x_dTup, x_dLst, sl0, sl1, sl2, sl3, sl4, o_add, o_sub, o_eq, o_ne, o_lt, o_le, o_gt, o_ge, o_lenL, o_lenT, o_trB, o_trL, o_trT, o_int, $ls,*])

theorem bupF {ι : Type} {key : ι → Key} {val : ι → D} {c : ι → Bool} {L : List ι} {S : List (Key × D) → DSt → Prop} {g : DG} {b : DS} {el : ι → D}
    (hn : (L.map key).Nodup) (hl : L.length < 1000000)
    (step : ∀ x kv s, x ∈ L → S kv s → kv.length < 1000000 → ∃ s1 s2, g (el x) s = .ok s1 ∧ b s1 = .nx s2 ∧ S (if c x = true then pt kv (key x) (val x) else kv) s2)
    {s0 : DSt} (h0 : S [] s0) : ∃ s', forL g b (L.map el) s0 = .nx s' ∧ S ((L.filter c).map fun x => (key x, val x)) s' := by
  have go : ∀ (post pre : List ι) (s : DSt), L = pre ++ post → S ((pre.filter c).map fun x => (key x, val x)) s → ∃ s', forL g b (post.map el) s = .nx s' ∧ S ((L.filter c).map fun x => (key x, val x)) s' := by
    intro post
    induction post with
    | nil =>
      intro pre s e h
      rw [List.append_nil] at e
      exact ⟨s, rfl, by rw [e]; exact h⟩
    | cons x post ih =>
      intro pre s e h
      have hx : x ∈ L := by rw [e]; simp
      have hd : ∀ z ∈ (pre.filter c).map fun x => (key x, val x), z.1 ≠ key x := by
        intro z hz ez
        obtain ⟨y, hy, rfl⟩ := List.mem_map.mp hz
        rw [e, List.map_append, List.nodup_append] at hn
        exact hn.2.2 (key y) (List.mem_map.mpr ⟨y, (List.mem_filter.mp hy).1, rfl⟩) (key x) (by simp) ez
      have hlen : ((pre.filter c).map fun x => (key x, val x)).length < 1000000 := by
        rw [e, List.length_append] at hl
        have := List.length_filter_le c pre
        rw [List.length_map]
        omega
      obtain ⟨s1, s2, e1, e2, e3⟩ := step x _ s hx h hlen
      have e3 : S (((pre ++ [x]).filter c).map fun x => (key x, val x)) s2 := by
        rw [List.filter_append, List.map_append]
        cases q : c x with
        | true =>
          rw [q, if_pos rfl, pt_new hd] at e3
          rw [List.filter_cons_of_pos q, List.filter_nil]
          exact e3
        | false =>
          rw [q, if_neg (by decide)] at e3
          rw [List.filter_cons_of_neg (by rw [q]; decide), List.filter_nil, List.map_nil, List.append_nil]
          exact e3
      obtain ⟨s', e4, e5⟩ := ih (pre ++ [x]) s2 (by rw [e]; simp) e3
      refine ⟨s', ?_, e5⟩
      rw [List.map_cons, forL_cons, e1]
      simp only [e2]
      exact e4
  exact go L [] s0 rfl h0
theorem lkF {ι : Type} {key : ι → Key} {val : ι → D} {c : ι → Bool} {L : List ι} (hn : (L.map key).Nodup) {y : ι} (hy : y ∈ L) : lk ((L.filter c).map fun x => (key x, val x)) (key y) = if c y = true then some (val y) else none := by
  cases q : c y with
  | true =>
    rw [if_pos rfl]
    exact lk_map (hn.sublist ((List.filter_sublist).map _)) (List.mem_filter.mpr ⟨hy, q⟩)
  | false =>
    rw [if_neg (by decide)]
    refine lk_none fun x hx e => ?_
    obtain ⟨z, hz, rfl⟩ := List.mem_map.mp hx
    obtain ⟨hz, cz⟩ := List.mem_filter.mp hz
    have h1 := lk_map (val := c) hn hy
    have h2 := lk_map (val := c) hn hz
    have e : key z = key y := e
    rw [e, h1, q, cz] at h2
    cases h2
/-- a node closed -/
def clo (b : Nat) : T → T
  | .leaf k v => .shut k (vS b v)
  | .shut k s => .shut k s
  | t => .cut (rs b t) t.many
def cutP (b : Nat) (sel : List Bool → Bool) : List Bool → T → T
  | p, .fork m l r => if sel p = true then .fork m (cutP b sel (p ++ [false]) l) (cutP b sel (p ++ [true]) r) else .cut (rs b (.fork m l r)) m
  | p, .leaf k v => if sel p = true then .leaf k v else .shut k (vS b v)
  | _, .non => .non
  | _, .shut k s => .shut k s
  | _, .cut s m => .cut s m
def isNon : T → Bool
  | .non => true
  | _ => false
theorem clo_cut {b : Nat} {sel : List Bool → Bool} {p : List Bool} {t : T} (h : sel p = false) (hn : isNon t = false) : cutP b sel p t = clo b t := by
  cases t with
  | non => cases hn
  | leaf k v => show (if sel p = true then _ else _) = _; rw [h]; rfl
  | shut k s => rfl
  | cut s m => rfl
  | fork m l r => show (if sel p = true then _ else _) = _; rw [h]; rfl
theorem cut_self {b : Nat} {sel : List Bool → Bool} {p : List Bool} {t : T} (h : sel p = true ∨ isNon t = true) (hf : isFork t = false) : cutP b sel p t = t := by
  cases t with
  | leaf k v =>
    show (if sel p = true then _ else _) = _
    rcases h with h | h
    · rw [h]; rfl
    · cases h
  | fork => cases hf
  | _ => rfl
theorem pr_cut {b : Nat} {sel : List Bool → Bool} : ∀ (t : T) (p : List Bool), Pr b t (cutP b sel p t)
  | .fork m l r, p => by
    show Pr b _ (if sel p = true then _ else _)
    split
    · exact ⟨l, r, rfl, pr_cut l _, pr_cut r _⟩
    · exact ⟨.inl rfl, rfl, rfl⟩
  | .leaf k v, p => by
    show Pr b _ (if sel p = true then _ else _)
    split
    · exact rfl
    · exact .inl ⟨v, rfl, rfl⟩
  | .non, p => rfl
  | .shut k s, p => .inr rfl
  | .cut s m, p => ⟨.inr rfl, rfl, rfl⟩
theorem wf_cut {b : Nat} (hb : b ≤ 60) {sel : List Bool → Bool} : ∀ {n : Nat} {c : Int} {t : T} (p : List Bool), Wf n c t → Wf n c (cutP b sel p t)
  | n + 1, c, .fork m l r, p, h => by
    show Wf (n + 1) c (if sel p = true then _ else _)
    split
    · refine ⟨?_, h.2.1, wf_cut hb _ h.l, wf_cut hb _ h.r, by omega⟩
      rw [(pr_rs (pr_cut (b := b) (sel := sel) l (p ++ [false]))).2, (pr_rs (pr_cut (b := b) (sel := sel) r (p ++ [true]))).2]
      exact h.1
    · exact ⟨tS_nm hb _, h.2.1, pow_many h⟩
  | 0, _, .fork _ _ _, _, h => absurd h.2.2.2.2 (by omega)
  | n, c, .leaf k v, p, h => by
    show Wf n c (if sel p = true then _ else _)
    split
    · exact h
    · exact ⟨h.1, h.2.1, tS_nm hb _⟩
  | n, c, .non, p, h => h
  | n, c, .shut k s, p, h => h
  | n, c, .cut s m, p, h => h
theorem in_ls (t : T) : opIn (tag t) (.tup [.str "leaf", .str "shut"]) = some (.bl (match t with | .leaf _ _ => true | .shut _ _ => true | _ => false)) := by cases t <;> rfl
theorem closed {b : Nat} (hb : b ≤ 60) {t : T} (hv : TV t) : M_closed [t.d, rD b t, .int (b : Int)] = .ok (clo b t).d := by
  have e1 : opAdd (.tup [.str "cut"]) (rD b t) = some (T.cut (rs b t) t.many).d := rfl
  cases t with
  | leaf k v =>
    have e2 : opIx (T.leaf k v).d (.int 1) = some (.int k) := rfl
    simp_arith [M_closed, b_closed, ix_tag, in_ls, e2, value_sum hb hv.2]
    rfl
  | shut k s =>
    have e2 : opIx (T.shut k s).d (.int 1) = some (.int k) := rfl
    simp_arith [M_closed, b_closed, ix_tag, in_ls, e2, value_sumS]
    rfl
  | _ =>
    simp_arith [M_closed, b_closed, ix_tag, in_ls, e1]
    rfl
theorem o_inS (kv : List (Key × D)) (p : List Bool) : opIn (.str (pS p)) (.dct kv) = some (.bl (lk kv (.inr (pS p))).isSome) := (rfl)
theorem o_ninS (kv : List (Key × D)) (p : List Bool) : opNotIn (.str (pS p)) (.dct kv) = some (.bl (!(lk kv (.inr (pS p))).isSome)) := (rfl)
theorem o_ixD {kv : List (Key × D)} {p : List Bool} {d : D} (h : lk kv (.inr (pS p)) = some d) : opIx (.dct kv) (.str (pS p)) = some d := by
  show (match lk kv (.inr (pS p)) with | some d => some d | none => none) = _
  rw [h]
theorem neNone (t : T) : opNe (tag t) (.str "none") = some (.bl (!isNon t)) := by cases t <;> rfl
def rbB : DS := (sSq (sIf (dB (d2 opIn (dV 3) (dV 1))) (sSq (sPut 2 (dV 3) (d2 opIx (dV 1) (dV 3)))
  sNx) (sSq (sIf (dB (d2 opEq (d2 opIx (dV 4) (dC (.int 0))) (dC (.str "fork")))) (sSq (sPut 2 (dV 3) (dTup (daC (dC (.str "fork")) (daC (d2 opIx (dV 4) (dC (.int 1))) (daC (d2 opIx (dV 2) (d2 opAdd (dV 3) (dC (.str "0")))) (daC (d2 opIx (dV 2) (d2 opAdd (dV 3) (dC (.str "1")))) daN))))))
  sNx) (sSq (sPut 2 (dV 3) (dV 4))
  sNx))
  sNx))
  sNx)
theorem b_rb : b_rebuilt = sSq (sAs (gN 2) (dC (.dct []))) (sSq (sFor (diL (d1 opRev (dCall M_nodes_of (daC (dV 0) daN)))) (gT [3, 4]) rbB) (sSq (sRet (d2 opIx (dV 2) (dC (.str "")))) sNx)) := (rfl)
theorem rb_step {b : Nat} {sel : List Bool → Bool} {cd kv : List (Key × D)} {a0 : Option D} {x : List Bool × T} (hf : fits x) (hl : kv.length < 1000000)
    (hc : lk cd (kyT x) = if (!sel x.1 && !isNon x.2) = true then some (clo b x.2).d else none)
    (hk : ∀ y ∈ kT x, lk kv (kyT y) = some (cutP b sel y.1 y.2).d) :
    rbB [a0, some (.dct cd), some (.dct kv), some (.str (pS x.1)), some x.2.d] = .nx [a0, some (.dct cd), some (.dct (pt kv (kyT x) (cutP b sel x.1 x.2).d)), some (.str (pS x.1)), some x.2.d] := by
  obtain ⟨p, t⟩ := x
  simp only at hc ⊢
  have hlt : kv.length < SL := by show _ < 16777216; omega
  have hp16 : p.length ≤ 16 := by unfold fits at hf; simp only at hf; omega
  have hky : keyOf (.str (pS p)) = some (.inr (pS p)) := rfl
  have hc : lk cd (.inr (pS p)) = if (!sel p && !isNon t) = true then some (clo b t).d else none := hc
  cases q : (!sel p && !isNon t) with
  | true =>
    rw [q, if_pos rfl] at hc
    rw [Bool.and_eq_true, Bool.not_eq_true', Bool.not_eq_true'] at q
    rw [clo_cut q.1 q.2]
    have hc' : (lk cd (.inr (pS p))).isSome = true := by rw [hc]; rfl
    simp_arith [rbB, o_inS, hc', o_ixD hc, hky, if_pos hlt]
  | false =>
    rw [q, if_neg (by decide)] at hc
    have hc' : (lk cd (.inr (pS p))).isSome = false := by rw [hc]; rfl
    have hs : sel p = true ∨ isNon t = true := by
      cases z : sel p with
      | true => exact .inl rfl
      | false =>
        cases z2 : isNon t with
        | true => exact .inr rfl
        | false => rw [z, z2] at q; cases q
    cases hfk : isFork t with
    | true =>
      cases t with
      | fork m l r =>
        obtain ⟨a1, a2⟩ := addS (p := p) hp16
        have i0 := o_ixD (hk (p ++ [false], l) (by simp [kT]))
        have i1 := o_ixD (hk (p ++ [true], r) (by simp [kT]))
        have e1 : opIx (T.fork m l r).d (.int 1) = some (.int m) := rfl
        have hs : sel p = true := by rcases hs with h | h; exact h; cases h
        have e2 : cutP b sel p (.fork m l r) = .fork m (cutP b sel (p ++ [false]) l) (cutP b sel (p ++ [true]) r) := by
          show (if sel p = true then _ else _) = _
          rw [hs]; rfl
        rw [e2]
        simp_arith [rbB, o_inS, hc', ix_tag, eq_fork, hfk, a1, a2, i0, i1, e1, hky, if_pos hlt]
        rfl
      | _ => cases hfk
    | false =>
      rw [cut_self hs hfk]
      simp_arith [rbB, o_inS, hc', ix_tag, eq_fork, hfk, hky, if_pos hlt]
theorem rebuilt {b : Nat} {sel : List Bool → Bool} {cd : List (Key × D)} {t : T} (h : ht t ≤ 16) (hc : ∀ x ∈ nT [] t, lk cd (kyT x) = if (!sel x.1 && !isNon x.2) = true then some (clo b x.2).d else none) : M_rebuilt [t.d, .dct cd] = .ok (cutP b sel [] t).d := by
  have hn := nT_small (t := t) h []
  have nd : (((nT [] t).reverse).map kyT).Nodup := by rw [List.map_reverse]; exact (List.reverse_perm _).nodup_iff.mpr (kyT_nodup t [])
  obtain ⟨s', e, q, w, rfl⟩ := bup (S := fun kv s => ∃ q w, s = [some t.d, some (.dct cd), some (.dct kv), q, w]) (key := kyT) (val := fun x => (cutP b sel x.1 x.2).d) (kids := kT) (L := (nT [] t).reverse) (g := gT [3, 4]) (b := rbB) (el := nP) (s0 := [some t.d, some (.dct cd), some (.dct []), none, none])
    nd rev_kids (by rw [List.length_reverse]; omega)
    (by
      rintro x kv s hx ⟨q, w, rfl⟩ hl hk
      have hx := List.mem_reverse.mp hx
      exact ⟨_, _, rfl, rb_step (a0 := some t.d) (nT_fits t [] (by simpa using h) x hx) hl (hc x hx) hk, _, _, rfl⟩)
    ⟨_, _, rfl⟩
  have er : opRev (.lst ((nT [] t).map nP)) = some (.lst ((nT [] t).reverse.map nP)) := by rw [List.map_reverse]; rfl
  have ed : diL (d1 opRev (dCall M_nodes_of (daC (dV 0) daN))) [some t.d, some (.dct cd), some (.dct []), none, none] = .ok ((nT [] t).reverse.map nP) := by
    have : d1 opRev (dCall M_nodes_of (daC (dV 0) daN)) [some t.d, some (.dct cd), some (.dct []), none, none] = .ok (.lst ((nT [] t).reverse.map nP)) := by
      simp_arith [nodes_of' h, er]
    unfold diL
    rw [this]
    rfl
  have e2 : opIx (.dct ((nT [] t).reverse.map fun x => (kyT x, (cutP b sel x.1 x.2).d))) (.str "") = some (cutP b sel [] t).d := by
    have := lk_map (key := kyT) (val := fun x => (cutP b sel x.1 x.2).d) nd (List.mem_reverse.mpr (top_mem t []))
    exact o_ixD (p := []) this
  simp_arith [M_rebuilt, b_rb, x_sFor ed, e, e2]
def caB : DS := (sSq (sIf (dtAnd (dB (d2 opNotIn (dV 5) (dV 1))) (dB (d2 opNe (d2 opIx (dV 6) (dC (.int 0))) (dC (.str "none"))))) (sSq (sPut 4 (dV 5) (dCall M_closed (daC (dV 6) (daC (d2 opIx (dV 3) (dV 5)) (daC (dV 2) daN)))))
  sNx) sNx)
  sNx)
theorem b_ca : b_cut_away = sSq (sAs (gN 3) (dCall M_roots_of (daC (dV 0) (daC (dV 2) daN)))) (sSq (sAs (gN 4) (dC (.dct []))) (sSq (sFor (diL (dCall M_nodes_of (daC (dV 0) daN))) (gT [5, 6]) caB) (sSq (sRet (dCall M_rebuilt (daC (dV 0) (daC (dV 4) daN)))) sNx))) := (rfl)
def seD (sd : List (Key × D)) (p : List Bool) : Bool := (lk sd (.inr (pS p))).isSome
theorem cut_away {b : Nat} (hb : b ≤ 60) {sd : List (Key × D)} {t : T} (h : ht t ≤ 16) (hv : TV t) : M_cut_away [t.d, .dct sd, .int (b : Int)] = .ok (cutP b (seD sd) [] t).d := by
  have hn := nT_small (t := t) h []
  have nd := kyT_nodup t []
  generalize hR : ((nT [] t).reverse.map fun x => (kyT x, rD b x.2)) = R
  have hRl : ∀ x ∈ nT [] t, lk R (kyT x) = some (rD b x.2) := fun x hx => by rw [← hR]; exact roots_lk hx
  obtain ⟨s', e, q, w, rfl⟩ := bupF (S := fun kv s => ∃ q w, s = [some t.d, some (.dct sd), some (.int (b : Int)), some (.dct R), some (.dct kv), q, w]) (key := kyT) (val := fun x => (clo b x.2).d) (c := fun x => !seD sd x.1 && !isNon x.2) (L := nT [] t) (g := gT [5, 6]) (b := caB) (el := nP) (s0 := [some t.d, some (.dct sd), some (.int (b : Int)), some (.dct R), some (.dct []), none, none])
    nd (by omega)
    (by
      rintro x kv s hx ⟨q, w, rfl⟩ hl
      have hlt : kv.length < SL := by show _ < 16777216; omega
      have hky : keyOf (.str (pS x.1)) = some (.inr (pS x.1)) := rfl
      have hc := closed hb (TV_all t [] hv x hx)
      have hi : opIx (.dct R) (.str (pS x.1)) = some (rD b x.2) := o_ixD (hRl x hx)
      have h1 : opNotIn (.str (pS x.1)) (.dct sd) = some (.bl (!seD sd x.1)) := rfl
      refine ⟨[some t.d, some (.dct sd), some (.int (b : Int)), some (.dct R), some (.dct kv), some (.str (pS x.1)), some x.2.d], [some t.d, some (.dct sd), some (.int (b : Int)), some (.dct R), some (.dct (if (!seD sd x.1 && !isNon x.2) = true then pt kv (kyT x) (clo b x.2).d else kv)), some (.str (pS x.1)), some x.2.d], rfl, ?_, _, _, rfl⟩
      cases z : seD sd x.1 with
      | true => simp_arith [caB, h1, z, Bool.false_and]
      | false =>
        cases z2 : isNon x.2 with
        | true => simp_arith [caB, h1, z, ix_tag, neNone, z2, Bool.and_false]
        | false => simp_arith [caB, h1, z, ix_tag, neNone, z2, hi, hc, hky, if_pos hlt, Bool.and_self])
    ⟨_, _, rfl⟩
  have ed : diL (dCall M_nodes_of (daC (dV 0) daN)) [some t.d, some (.dct sd), some (.int (b : Int)), some (.dct R), some (.dct []), none, none] = .ok ((nT [] t).map nP) := by
    unfold diL
    simp_arith [nodes_of' h]
  have hr := roots_of hb h hv
  rw [hR] at hr
  have e2 := rebuilt (b := b) (sel := seD sd) (cd := ((nT [] t).filter fun x => !seD sd x.1 && !isNon x.2).map fun x => (kyT x, (clo b x.2).d)) h fun x hx => lkF nd hx
  simp_arith [M_cut_away, b_ca, hr, x_sFor ed, e, e2]
end K49
/-! GL: places_to: the places on the ways to some keys. -/
namespace K49
open DL
open PySem (Str)
open Lean in
local macro_rules
  | `(tactic| simp_arith [$ls,*]) => `(tactic| simp only [x_def1, x_def2, x_def3, x_def4, x_def5, List.cons_append, List.nil_append, List.replicate, Nat.reduceSub, List.map_cons, List.map_nil, x_sSq, x_sIf, x_sRet, x_sE, x_sAsN, x_dV0, x_dVs, x_dC, x_d1, x_d2, x_dCall, x_dCallF, x_daC, x_daN, rb_ok, x_ofO_some, x_dB, x_boolR, x_dTr, x_dtAnd, x_dtOr, x_dtNot, x_dAnd, x_dNot, x_dIfE, x_dChain, x_sNx, x_sApp, x_ownL0, x_ownLs, x_ownD0, x_ownDs, x_sPut, x_sRai, List.set_cons_zero, List.set_cons_succ, Bool.not_true, Bool.not_false, Bool.false_eq_true, if_true, if_false, x_dTup, x_dLst, sl0, sl1, sl2, sl3, sl4, o_add, o_sub, o_eq, o_ne, o_lt, o_le, o_gt, o_ge, o_lenL, o_lenT, o_trB, o_trL, o_trT, o_int, $ls,*])

def plc : Nat → T → List Bool → Int → List (List Bool)
  | n + 1, .fork _ l r, p, k => p :: plc n (if bi k n = 0 then l else r) (p ++ [bi k n == 1]) k
  | _, .leaf k' _, p, k => if k' = k then [p] else []
  | _, _, _, _ => []
theorem plc_leaf {n : Nat} {k' : Int} {v : D} {p : List Bool} {k : Int} : plc n (.leaf k' v) p k = if k' = k then [p] else [] := by cases n <;> rfl
theorem plc_no {n : Nat} {t : T} {p : List Bool} {k : Int} (h : isFork t = false) (hl : ∀ k' v, t ≠ .leaf k' v) : plc n t p k = [] := by
  cases t with
  | fork => cases h
  | leaf k' v => exact absurd rfl (hl k' v)
  | _ => cases n <;> rfl
def finD (kv : List (Key × D)) (p : List Bool) (k : Int) : T → List (Key × D)
  | .leaf k' _ => if k' = k then pt kv (.inr (pS p)) (.bl true) else kv
  | _ => kv
theorem se_pt {kv : List (Key × D)} {p q : List Bool} : seD (pt kv (.inr (pS p)) (.bl true)) q = (decide (q = p) || seD kv q) := by
  unfold seD
  rw [lk_pt]
  by_cases h : q = p
  · subst h
    rw [if_pos rfl, decide_eq_true rfl]
    rfl
  · rw [if_neg (fun e => h (pS_inj (Sum.inr.inj e)).symm), decide_eq_false h, Bool.false_or]
def wyB : DS := (sSq (sPut 2 (dV 4) (dC (.bl true)))
  (sSq (sAs (gN 4) (d2 opAdd (dV 4) (d1 fStr (dV 8))))
  sNx))
theorem wy_loop {a b k e : Option D} {W : D} : ∀ (n : Nat) (t : T) (p : List Bool) (kv : List (Key × D)) (i : Int) (x y : Option D), p.length + n ≤ 16 → ht t ≤ n → kv.length + n < 1000000 →
    ∃ kv' p' x' y', forL (gT [7, 8]) wyB ((wayT n t i).map wd) [a, b, some (.dct kv), k, some (.str (pS p)), some W, e, x, y] = .nx [a, b, some (.dct kv'), k, some (.str (pS p')), some W, e, x', y'] ∧ kv'.length ≤ kv.length + n ∧
      ∀ q, seD (finD kv' p' i (endT n t i)) q = (seD kv q || decide (q ∈ plc n t p i)) := by
  intro n
  induction n with
  | zero =>
    intro t p kv i x y h1 h2 h3
    refine ⟨kv, p, x, y, by cases t <;> rfl, by omega, fun q => ?_⟩
    cases t with
    | fork m l r => simp [ht] at h2
    | leaf k' v =>
      show seD (if k' = i then _ else kv) q = (_ || decide (q ∈ if k' = i then [p] else []))
      split
      · rw [se_pt, Bool.or_comm]; simp
      · simp
    | _ => simp [finD, endT, plc]
  | succ n ih =>
    intro t p kv i x y h1 h2 h3
    have hlt : kv.length < SL := by show _ < 16777216; omega
    have hky : keyOf (.str (pS p)) = some (.inr (pS p)) := rfl
    cases t with
    | fork m l r =>
      have e0 : ht (.fork m l r) = max (ht l) (ht r) + 1 := rfl
      have hp1 := pt_len kv (.inr (pS p)) (.bl true)
      obtain ⟨a1, a2⟩ := addS (p := p) (by omega)
      have f0 : fStr (.int 0) = some (.str "0") := rfl
      have f1 : fStr (.int 1) = some (.str "1") := rfl
      rcases bi01 i n with z | z
      · have ew : wayT (n + 1) (.fork m l r) i = (.fork m l r, 0) :: wayT n l i := by
          show (T.fork m l r, bi i n) :: wayT n (if bi i n = 0 then l else r) i = _
          rw [z]; rfl
        have ee : endT (n + 1) (.fork m l r) i = endT n l i := by
          show endT n (if bi i n = 0 then l else r) i = _
          rw [if_pos z]
        have ep : plc (n + 1) (.fork m l r) p i = p :: plc n l (p ++ [false]) i := by
          show p :: plc n (if bi i n = 0 then l else r) (p ++ [bi i n == 1]) i = _
          rw [z]; rfl
        obtain ⟨kv', p', x', y', e1, e2, e3⟩ := ih l (p ++ [false]) (pt kv (.inr (pS p)) (.bl true)) i (some (T.fork m l r).d) (some (.int 0)) (by rw [List.length_append, List.length_singleton]; omega) (by omega) (by omega)
        refine ⟨kv', p', x', y', ?_, by omega, fun q => ?_⟩
        · rw [ew, List.map_cons, forL_cons]
          have es : gT [7, 8] (wd (T.fork m l r, 0)) [a, b, some (.dct kv), k, some (.str (pS p)), some W, e, x, y] = .ok [a, b, some (.dct kv), k, some (.str (pS p)), some W, e, some (T.fork m l r).d, some (.int 0)] := rfl
          have eb : wyB [a, b, some (.dct kv), k, some (.str (pS p)), some W, e, some (T.fork m l r).d, some (.int 0)] = .nx [a, b, some (.dct (pt kv (.inr (pS p)) (.bl true))), k, some (.str (pS (p ++ [false]))), some W, e, some (T.fork m l r).d, some (.int 0)] := by
            simp_arith [wyB, hky, if_pos hlt, f0, a1]
          rw [es]
          simp only [eb]
          exact e1
        · rw [ee, e3, se_pt, ep]
          by_cases hq : q = p <;> simp [hq]
      · have hz : ¬ bi i n = 0 := by omega
        have ew : wayT (n + 1) (.fork m l r) i = (.fork m l r, 1) :: wayT n r i := by
          show (T.fork m l r, bi i n) :: wayT n (if bi i n = 0 then l else r) i = _
          rw [z]; rfl
        have ee : endT (n + 1) (.fork m l r) i = endT n r i := by
          show endT n (if bi i n = 0 then l else r) i = _
          rw [if_neg hz]
        have ep : plc (n + 1) (.fork m l r) p i = p :: plc n r (p ++ [true]) i := by
          show p :: plc n (if bi i n = 0 then l else r) (p ++ [bi i n == 1]) i = _
          rw [z]; rfl
        obtain ⟨kv', p', x', y', e1, e2, e3⟩ := ih r (p ++ [true]) (pt kv (.inr (pS p)) (.bl true)) i (some (T.fork m l r).d) (some (.int 1)) (by rw [List.length_append, List.length_singleton]; omega) (by omega) (by omega)
        refine ⟨kv', p', x', y', ?_, by omega, fun q => ?_⟩
        · rw [ew, List.map_cons, forL_cons]
          have es : gT [7, 8] (wd (T.fork m l r, 1)) [a, b, some (.dct kv), k, some (.str (pS p)), some W, e, x, y] = .ok [a, b, some (.dct kv), k, some (.str (pS p)), some W, e, some (T.fork m l r).d, some (.int 1)] := rfl
          have eb : wyB [a, b, some (.dct kv), k, some (.str (pS p)), some W, e, some (T.fork m l r).d, some (.int 1)] = .nx [a, b, some (.dct (pt kv (.inr (pS p)) (.bl true))), k, some (.str (pS (p ++ [true]))), some W, e, some (T.fork m l r).d, some (.int 1)] := by
            simp_arith [wyB, hky, if_pos hlt, f1, a2]
          rw [es]
          simp only [eb]
          exact e1
        · rw [ee, e3, se_pt, ep]
          by_cases hq : q = p <;> simp [hq]
    | leaf k' v =>
      refine ⟨kv, p, x, y, rfl, by omega, fun q => ?_⟩
      show seD (if k' = i then _ else kv) q = (_ || decide (q ∈ if k' = i then [p] else []))
      split
      · rw [se_pt, Bool.or_comm]; simp
      · simp
    | non => exact ⟨kv, p, x, y, rfl, by omega, fun q => by simp [finD, endT, plc]⟩
    | shut => exact ⟨kv, p, x, y, rfl, by omega, fun q => by simp [finD, endT, plc]⟩
    | cut => exact ⟨kv, p, x, y, rfl, by omega, fun q => by simp [finD, endT, plc]⟩
def plI : DS := (sIf (dtAnd (dB (d2 opEq (d2 opIx (dV 6) (dC (.int 0))) (dC (.str "leaf")))) (dB (d2 opEq (d2 opIx (dV 6) (dC (.int 1))) (dV 3)))) (sSq (sPut 2 (dV 4) (dC (.bl true)))
  sNx) sNx)
def plB : DS := (sSq (sAs (gN 4) (dC (.str "")))
  (sSq (sAs (gT [5, 6]) (dCall M_way_to (daC (dV 0) (daC (dV 3) daN))))
  (sSq (sFor (diL (dV 5)) (gT [7, 8]) wyB)
  (sSq plI
  sNx))))
theorem b_pl : b_places_to = sSq (sAs (gN 2) (dC (.dct []))) (sSq (sFor (diL (dV 1)) (gN 3) plB) (sSq (sRet (dV 2)) sNx)) := (rfl)
theorem pl_if {a b w x y : Option D} {kv : List (Key × D)} {i : Int} {p : List Bool} {e : T} (hl : kv.length < 1000000) : plI [a, b, some (.dct kv), some (.int i), some (.str (pS p)), w, some e.d, x, y] = .nx [a, b, some (.dct (finD kv p i e)), some (.int i), some (.str (pS p)), w, some e.d, x, y] := by
  have hlt : kv.length < SL := by show _ < 16777216; omega
  have hky : keyOf (.str (pS p)) = some (.inr (pS p)) := rfl
  unfold plI
  cases e with
  | leaf k' v =>
    have e1 : opIx (T.leaf k' v).d (.int 1) = some (.int k') := rfl
    cases z : (k' == i) with
    | true =>
      have := eq_of_beq z
      simp_arith [ix_tag, eqLeaf, e1, z, hky, if_pos hlt]
      show _ = RS.nx [a, b, some (.dct (if k' = i then _ else kv)), _, _, _, _, _, _]
      rw [if_pos this]
    | false =>
      have := ne_of_beq_false z
      simp_arith [ix_tag, eqLeaf, e1, z]
      show _ = RS.nx [a, b, some (.dct (if k' = i then _ else kv)), _, _, _, _, _, _]
      rw [if_neg this]
  | _ =>
    simp_arith [ix_tag, eqLeaf]
    rfl
theorem pl_loop {t : T} {b : Option D} (h : ht t ≤ 16) : ∀ (ks : List Int) (kv : List (Key × D)) (c p w e x y : Option D), (∀ k ∈ ks, Spot k) → kv.length + 17 * ks.length < 900000 →
    ∃ kv' c' p' w' e' x' y', forL (gN 3) plB (ks.map .int) [some t.d, b, some (.dct kv), c, p, w, e, x, y] = .nx [some t.d, b, some (.dct kv'), c', p', w', e', x', y'] ∧ ∀ q, seD kv' q = (seD kv q || ks.any fun k => decide (q ∈ plc 16 t [] k)) := by
  intro ks
  induction ks with
  | nil => intro kv c p w e x y _ _; exact ⟨kv, c, p, w, e, x, y, rfl, fun q => by simp⟩
  | cons k ks ih =>
    intro kv c p w e x y hk hl
    rw [List.length_cons] at hl
    obtain ⟨kv1, p1, x1, y1, e1, e2, e3⟩ := wy_loop (a := some t.d) (b := b) (k := some (.int k)) (e := some (endT 16 t k).d) (W := .lst ((wayT 16 t k).map wd)) 16 t [] kv k x y (by simp) h (by omega)
    have hf : (finD kv1 p1 k (endT 16 t k)).length ≤ kv1.length + 1 := by
      unfold finD
      split
      · split
        · exact pt_len _ _ _
        · omega
      · omega
    obtain ⟨kv', c', p', w', e', x', y', f1, f2⟩ := ih (finD kv1 p1 k (endT 16 t k)) (some (.int k)) (some (.str (pS p1))) (some (.lst ((wayT 16 t k).map wd))) (some (endT 16 t k).d) x1 y1 (fun j hj => hk j (List.mem_cons_of_mem _ hj)) (by omega)
    refine ⟨kv', c', p', w', e', x', y', ?_, fun q => ?_⟩
    · have hw := way_to (hk k List.mem_cons_self).1 h
      have s1 : sAs (gN 4) (dC (.str "")) [some t.d, b, some (.dct kv), some (.int k), p, w, e, x, y] = .nx [some t.d, b, some (.dct kv), some (.int k), some (.str (pS [])), w, e, x, y] := rfl
      have s2 : sAs (gT [5, 6]) (dCall M_way_to (daC (dV 0) (daC (dV 3) daN))) [some t.d, b, some (.dct kv), some (.int k), some (.str (pS [])), w, e, x, y] = .nx [some t.d, b, some (.dct kv), some (.int k), some (.str (pS [])), some (.lst ((wayT 16 t k).map wd)), some (endT 16 t k).d, x, y] := by
        rw [x_sAsT]
        simp_arith [hw]
        rfl
      have ed : diL (dV 5) [some t.d, b, some (.dct kv), some (.int k), some (.str (pS [])), some (.lst ((wayT 16 t k).map wd)), some (endT 16 t k).d, x, y] = .ok ((wayT 16 t k).map wd) := rfl
      have s3 := (x_sFor (g := gT [7, 8]) (t := wyB) ed).trans e1
      have s4 := pl_if (a := some t.d) (b := b) (w := some (.lst ((wayT 16 t k).map wd))) (x := x1) (y := y1) (kv := kv1) (i := k) (p := p1) (e := endT 16 t k) (by omega)
      have eb : plB [some t.d, b, some (.dct kv), some (.int k), p, w, e, x, y] = .nx [some t.d, b, some (.dct (finD kv1 p1 k (endT 16 t k))), some (.int k), some (.str (pS p1)), some (.lst ((wayT 16 t k).map wd)), some (endT 16 t k).d, x1, y1] := by
        unfold plB
        rw [sq_nx s1, sq_nx s2, sq_nx s3, sq_nx s4]
        rfl
      rw [List.map_cons, forL_cons]
      have es : gN 3 (.int k) [some t.d, b, some (.dct kv), c, p, w, e, x, y] = .ok [some t.d, b, some (.dct kv), some (.int k), p, w, e, x, y] := rfl
      rw [es]
      simp only [eb]
      exact f1
    · rw [f2, e3, List.any_cons, Bool.or_assoc]
theorem places_to {t : T} (h : ht t ≤ 16) {ks : List Int} (hk : ∀ k ∈ ks, Spot k) (hl : ks.length ≤ 1000) : ∃ sd, M_places_to [t.d, .tup (ks.map .int)] = .ok (.dct sd) ∧ ∀ q, seD sd q = ks.any fun k => decide (q ∈ plc 16 t [] k) := by
  obtain ⟨kv', c', p', w', e', x', y', f1, f2⟩ := pl_loop (b := some (.tup (ks.map .int))) h ks [] none none none none none none hk (by rw [List.length_nil]; omega)
  refine ⟨kv', ?_, fun q => by rw [f2]; rfl⟩
  have ed : diL (dV 1) [some t.d, some (.tup (ks.map .int)), some (.dct []), none, none, none, none, none, none] = .ok (ks.map .int) := rfl
  unfold M_places_to
  refine def2_rt (s := [some t.d, some (.tup (ks.map .int)), none, none, none, none, none, none, none]) rfl ?_
  rw [b_pl]
  exact (sq_nx rfl).trans ((sq_nx ((x_sFor ed).trans f1)).trans rfl)
/-! ### which places -/
theorem bv_eq (k : Int) (n : Nat) : bv (bi k n == 1) = bi k n := by
  rcases bi01 k n with z | z <;> rw [z] <;> rfl
theorem plc_under : ∀ (n : Nat) (t : T) (p : List Bool) (k : Int), ∀ q ∈ plc n t p k, ∃ z, q = p ++ z
  | n + 1, .fork m l r, p, k, q, h => by
    rcases List.mem_cons.mp h with rfl | h
    · exact ⟨[], by simp⟩
    · obtain ⟨z, e⟩ := plc_under n _ _ k q h
      exact ⟨(bi k n == 1) :: z, by rw [e]; simp⟩
  | 0, .fork m l r, p, k, q, h => by cases h
  | n, .leaf k' v, p, k, q, h => by
    rw [plc_leaf] at h
    split at h
    · rw [List.mem_singleton.mp h]; exact ⟨[], by simp⟩
    · cases h
  | n, .non, p, k, q, h => by rw [plc_no rfl (by intro _ _ e; cases e)] at h; cases h
  | n, .shut _ _, p, k, q, h => by rw [plc_no rfl (by intro _ _ e; cases e)] at h; cases h
  | n, .cut _ _, p, k, q, h => by rw [plc_no rfl (by intro _ _ e; cases e)] at h; cases h
/-- on the way there: what lies above k, and k's own leaf -/
def onW (k : Int) (x : List Bool × T) : Prop := match x.2 with
  | .fork _ _ _ => Bel x.1 k
  | .leaf k' _ => k' = k
  | _ => False
theorem bel_at {p z : List Bool} {b : Bool} {k : Int} (h : Bel (p ++ [b] ++ z) k) : bi k (15 - p.length) = bv b := h p.length b (by
  rw [List.append_assoc, List.getElem?_append_right (Nat.le_refl _), Nat.sub_self]
  rfl)
theorem ext_ne {p z : List Bool} {b : Bool} : p ++ [b] ++ z ≠ p := fun e => by
  have := congrArg List.length e
  simp at this
theorem plc_on {k : Int} : ∀ (n : Nat) (t : T) (p : List Bool), p.length + n = 16 → ht t ≤ n → (∀ x ∈ nT p t, ∀ k' v, x.2 = .leaf k' v → Bel x.1 k') → Bel p k → ∀ x ∈ nT p t, (x.1 ∈ plc n t p k ∧ (isFork x.2 = true ∨ ∃ k' v, x.2 = .leaf k' v)) ↔ onW k x
  | n + 1, .fork m l r, p, hp, hh, hb, hk, x, hx => by
    have e0 : ht (.fork m l r) = max (ht l) (ht r) + 1 := rfl
    have en : 15 - p.length = n := by omega
    have ep : plc (n + 1) (.fork m l r) p k = p :: plc n (if bi k n = 0 then l else r) (p ++ [bi k n == 1]) k := rfl
    rw [ep]
    rw [nT_fork] at hx hb
    rcases List.mem_cons.mp hx with rfl | hx
    · exact ⟨fun _ => hk, fun _ => ⟨List.mem_cons_self, .inl rfl⟩⟩
    · have side : ∀ (c : Bool) (u w : T), ht u ≤ n → (∀ y ∈ nT (p ++ [c]) u, y ∈ (p, T.fork m l r) :: (nT (p ++ [false]) l ++ nT (p ++ [true]) r)) → x ∈ nT (p ++ [c]) u → (bi k n = bv c → (if bi k n = 0 then l else r) = u) → ((x.1 ∈ p :: plc n (if bi k n = 0 then l else r) (p ++ [bi k n == 1]) k ∧ (isFork x.2 = true ∨ ∃ k' v, x.2 = .leaf k' v)) ↔ onW k x) := by
        intro c u w hu hs hxu hsel
        obtain ⟨z, ez⟩ := nT_under u _ x hxu
        have hne : x.1 ≠ p := by rw [ez]; exact ext_ne
        have em : (x.1 ∈ p :: plc n (if bi k n = 0 then l else r) (p ++ [bi k n == 1]) k) ↔ x.1 ∈ plc n (if bi k n = 0 then l else r) (p ++ [bi k n == 1]) k := by
          rw [List.mem_cons]
          exact ⟨fun h => h.resolve_left hne, .inr⟩
        rw [em]
        by_cases hc : bi k n = bv c
        · have ecb : (bi k n == 1) = c := by rw [hc]; cases c <;> rfl
          rw [hsel hc, ecb]
          exact plc_on n u (p ++ [c]) (by rw [List.length_append, List.length_singleton]; omega) hu (fun y hy => hb y (hs y hy)) (hk.snoc hp hc) x hxu
        · constructor
          · rintro ⟨h1, _⟩
            obtain ⟨z2, e2⟩ := plc_under _ _ _ _ _ h1
            rw [ez, List.append_assoc, List.append_assoc] at e2
            have := List.append_cancel_left e2
            injection this with h1 _
            exact absurd (by rw [h1, bv_eq]) hc
          · intro h
            unfold onW at h
            split at h
            · rw [ez] at h
              exact absurd (by rw [← bel_at h, en]) hc
            · rename_i k' v e
              have := hb x (hs x hxu) k' v e
              rw [h, ez] at this
              exact absurd (by rw [← bel_at this, en]) hc
            · cases h
      rcases List.mem_append.mp hx with hx | hx
      · exact side false l r (by omega) (fun y hy => List.mem_cons_of_mem _ (List.mem_append_left _ hy)) hx (fun e => if_pos e)
      · exact side true r l (by omega) (fun y hy => List.mem_cons_of_mem _ (List.mem_append_right _ hy)) hx (fun e => if_neg (by rw [e]; decide))
  | 0, .fork m l r, p, hp, hh, hb, hk, x, hx => by simp [ht] at hh
  | n, .leaf k' v, p, hp, hh, hb, hk, x, hx => by
    rw [nT_leaf rfl, List.mem_singleton] at hx
    subst hx
    rw [plc_leaf]
    show _ ↔ k' = k
    constructor
    · rintro ⟨h, _⟩
      split at h
      · assumption
      · cases h
    · intro e
      rw [if_pos e]
      exact ⟨List.mem_singleton.mpr rfl, .inr ⟨_, _, rfl⟩⟩
  | n, .non, p, hp, hh, hb, hk, x, hx => by
    rw [nT_leaf rfl, List.mem_singleton] at hx
    subst hx
    exact Iff.intro (fun h => by rcases h.2 with h | ⟨_, _, h⟩ <;> cases h) (fun h : False => h.elim)
  | n, .shut _ _, p, hp, hh, hb, hk, x, hx => by
    rw [nT_leaf rfl, List.mem_singleton] at hx
    subst hx
    exact Iff.intro (fun h => by rcases h.2 with h | ⟨_, _, h⟩ <;> cases h) (fun h : False => h.elim)
  | n, .cut _ _, p, hp, hh, hb, hk, x, hx => by
    rw [nT_leaf rfl, List.mem_singleton] at hx
    subst hx
    exact Iff.intro (fun h => by rcases h.2 with h | ⟨_, _, h⟩ <;> cases h) (fun h : False => h.elim)
end K49
/-! GM: witness_for, cut_for; texts of spots. -/
namespace K49
open DL
open PySem (Str)
open Lean in
local macro_rules
  | `(tactic| simp_arith [$ls,*]) => `(tactic| simp only [x_def1, x_def2, x_def3, x_def4, x_def5, List.cons_append, List.nil_append, List.replicate, Nat.reduceSub, List.map_cons, List.map_nil, x_sSq, x_sIf, x_sRet, x_sE, x_sAsN, x_dV0, x_dVs, x_dC, x_d1, x_d2, x_dCall, x_dCallF, x_daC, x_daN, rb_ok, x_ofO_some, x_dB, x_boolR, x_dTr, x_dtAnd, x_dtOr, x_dtNot, x_dAnd, x_dNot, x_dIfE, x_dChain, x_sNx, x_sApp, x_ownL0, x_ownLs, x_ownD0, x_ownDs, x_sPut, x_sRai, List.set_cons_zero, List.set_cons_succ, Bool.not_true, Bool.not_false, Bool.false_eq_true, if_true, if_false, x_dTup, x_dLst, sl0, sl1, sl2, sl3, sl4, o_add, o_sub, o_eq, o_ne, o_lt, o_le, o_gt, o_ge, o_lenL, o_lenT, o_trB, o_trL, o_trT, o_int, $ls,*])

/-! ### a spot's bits -/
def bitsL (k : Int) : List Bool := (List.range 16).map fun i => bi k (15 - i) == 1
theorem bitsL_len (k : Int) : (bitsL k).length = 16 := by simp [bitsL]
def up (p : List Bool) (k : Int) : Bool := (bitsL k).take p.length == p
theorem bv_inj {a b : Bool} (h : bv a = bv b) : a = b := by cases a <;> cases b <;> first | rfl | cases h
theorem up_iff {p : List Bool} {k : Int} (hp : p.length ≤ 16) : up p k = true ↔ Bel p k := by
  have g : ∀ i, i < 16 → (bitsL k)[i]? = some (bi k (15 - i) == 1) := fun i hi => by
    unfold bitsL
    rw [List.getElem?_map, List.getElem?_range hi]
    rfl
  unfold up
  rw [beq_iff_eq]
  constructor
  · intro e i b hb
    have hi : i < p.length := (List.getElem?_eq_some_iff.mp hb).1
    have h2 : ((bitsL k).take p.length)[i]? = some b := by rw [e]; exact hb
    rw [List.getElem?_take, if_pos hi, g i (by omega)] at h2
    rw [← Option.some.inj h2, bv_eq]
  · intro h
    refine List.ext_getElem? fun i => ?_
    rw [List.getElem?_take]
    split
    · rename_i hi
      have hb : p[i]? = some p[i] := List.getElem?_eq_getElem hi
      rw [g i (by omega), hb]
      have := h i _ hb
      rw [← bv_eq] at this
      rw [bv_inj this]
    · rename_i hi
      rw [List.getElem?_eq_none (by omega)]
theorem bc_inj {a b : Bool} (h : bc a = bc b) : a = b := by cases a <;> cases b <;> first | rfl | cases h
theorem map_bc : ∀ {l m : List Bool}, l.map bc = m.map bc → l = m
  | [], [], _ => rfl
  | a :: l, b :: m, h => by
    rw [List.map_cons, List.map_cons] at h
    obtain ⟨h1, h2⟩ := List.cons.inj h
    rw [bc_inj h1, map_bc h2]
theorem starts {p : List Bool} {k : Int} (hp : p.length ≤ 16) : mStarts (.str (pS (bitsL k))) (.str (pS p)) = some (.bl (up p k)) := by
  show some (D.bl (PySem.Txt.startswith _ _)) = _
  unfold PySem.Txt.startswith up
  rw [PySem.StrLaws.subAt_eq, pS_len, pS_len, bitsL_len]
  have h1 : decide (0 + p.length ≤ 16) = true := decide_eq_true (by omega)
  rw [h1, Bool.true_and, List.drop_zero]
  have h2 : (pS (bitsL k)).cps.toList = (bitsL k).map bc := by simp [pS]
  have h3 : (pS p).cps.toList = p.map bc := by simp [pS]
  rw [h2, h3, ← List.map_take]
  congr 2
  rw [Bool.eq_iff_iff, beq_iff_eq, beq_iff_eq]
  exact ⟨map_bc, fun e => by rw [e]⟩
def oneS (b : Bool) : Str := if b = true then "1" else "0"
theorem pS_cons (b : Bool) (l : List Bool) : oneS b ++ pS l = pS (b :: l) := by
  cases b
  · show (⟨#[48] ++ ((l.map bc).toArray)⟩ : Str) = ⟨((false :: l).map bc).toArray⟩
    congr 1
    simp [bc]
  · show (⟨#[49] ++ ((l.map bc).toArray)⟩ : Str) = ⟨((true :: l).map bc).toArray⟩
    congr 1
    simp [bc]
theorem app_empty (s : Str) : s ++ ("" : Str) = s := by
  show (⟨s.cps ++ #[]⟩ : Str) = s
  simp
theorem join_bits : ∀ l : List Bool, PySem.Str.join "" (l.map oneS) = pS l
  | [] => rfl
  | [b] => by
    show oneS b = _
    cases b <;> rfl
  | b :: c :: l => by
    show oneS b ++ ("" : Str) ++ PySem.Str.join "" ((c :: l).map oneS) = _
    rw [app_empty, join_bits (c :: l), pS_cons]
theorem strs_map : ∀ l : List Bool, strsOf (l.map fun b => D.str (oneS b)) = some (l.map oneS)
  | [] => rfl
  | b :: l => by
    have := strs_map l
    show ((strsOf (l.map fun b => D.str (oneS b))).map (oneS b :: ·)) = _
    rw [this]
    rfl
theorem oneS_len (b : Bool) : (oneS b).length = 1 := by cases b <;> rfl
theorem sum_one : ∀ l : List Bool, ((l.map oneS).map fun s : Str => s.length).sum = l.length
  | [] => rfl
  | b :: l => by
    rw [List.map_cons, List.map_cons, List.sum_cons, sum_one l, oneS_len, List.length_cons]
    omega
theorem o_joinB {l : List Bool} (h : l.length ≤ 16) : mJoin (.str "") (.lst (l.map fun b => D.str (oneS b))) = some (.str (pS l)) := by
  show (match strsOf (l.map fun b => D.str (oneS b)) with | some ys => if (ys.map fun s : Str => s.length).sum + ys.length * ("" : Str).length ≤ SL then some (D.str (PySem.Txt.join "" ys)) else none | none => none) = _
  rw [strs_map]
  simp only
  have e0 : ("" : Str).length = 0 := by decide +kernel
  rw [sum_one, e0, Nat.mul_zero, if_pos (by show _ ≤ 16777216; omega)]
  unfold PySem.Txt.join
  rw [PySem.StrLaws.glued_eq_join, join_bits]
theorem f_bit (k : Int) (n : Nat) : fStr (.int (bi k n)) = some (.str (oneS (bi k n == 1))) := by
  rcases bi01 k n with z | z <;> rw [z] <;> rfl
theorem range16 {s : DSt} : diR1 (dC (.int 16)) s = .ok ((List.range 16).map fun (i : Nat) => D.int (i : Int)) := by
  have := x_diR1 (a := dC (.int 16)) (s := s) (n := 16) rfl (by decide)
  rw [this]
  rfl
theorem law_spot_text {k : Int} : M__law_spot_text [.int k] = .ok (.str (pS (bitsL k))) := by
  have lc : dLc (diR1 (dC (.int 16))) [1] (gN 1) tT (d1 fStr (dCall M__law_bit (daC (dV 0) (daC (dV 1) daN)))) [some (.int k), none] = .ok (.lst ((bitsL k).map fun b => D.str (oneS b))) := by
    have h := lcL_flat (ι := Nat) (g := gN 1) (c := tT) (e := d1 fStr (dCall M__law_bit (daC (dV 0) (daC (dV 1) daN)))) (s := dwipe [some (.int k), none] [1]) (F := fun (i : Nat) => D.int (i : Int)) (h := fun i => [D.str (oneS (bi k (15 - i) == 1))]) (l := List.range 16) (by
      intro i hi
      have hi : i ≤ 15 := by have := List.mem_range.mp hi; omega
      refine ⟨_, rfl, .inl ⟨rfl, _, ?_, rfl⟩⟩
      show d1 fStr (dCall M__law_bit (daC (dV 0) (daC (dV 1) daN))) [some (.int k), some (.int (i : Int))] = _
      simp_arith [law_bit hi, f_bit])
    rw [x_dLc range16 (by rw [List.length_map, List.length_range]; show 16 ≤ 16777216; omega) h]
    rfl
  have e2 := o_joinB (l := bitsL k) (by rw [bitsL_len]; omega)
  have e3 : dSm mJoin (dC (.str "")) (dLc (diR1 (dC (.int 16))) [1] (gN 1) tT (d1 fStr (dCall M__law_bit (daC (dV 0) (daC (dV 1) daN))))) [some (.int k), none] = .ok (.str (pS (bitsL k))) := by
    unfold dSm
    rw [x_dC, rb_ok, if_pos (show (D.str "").isStr = true from rfl), lc, rb_ok, e2]
    rfl
  unfold M__law_spot_text
  refine def1_rt (s := [some (.int k), none]) rfl ?_
  unfold b__law_spot_text
  refine sq_rt ?_
  rw [x_sRet, e3]
/-! ### the tree cut away but for ks -/
def cutG (b : Nat) (fs : List Bool → Bool) (ls : Int → Bool) : List Bool → T → T
  | p, .fork m l r => if fs p = true then .fork m (cutG b fs ls (p ++ [false]) l) (cutG b fs ls (p ++ [true]) r) else .cut (rs b (.fork m l r)) m
  | p, .leaf k v => if ls k = true then .leaf k v else .shut k (vS b v)
  | _, .non => .non
  | _, .shut k s => .shut k s
  | _, .cut s m => .cut s m
theorem cut_eq {b : Nat} {sel fs : List Bool → Bool} {ls : Int → Bool} : ∀ (t : T) (p : List Bool), (∀ x ∈ nT p t, (isFork x.2 = true → sel x.1 = fs x.1) ∧ ∀ k v, x.2 = .leaf k v → sel x.1 = ls k) → cutP b sel p t = cutG b fs ls p t
  | .fork m l r, p, h => by
    show (if sel p = true then _ else _) = (if fs p = true then _ else _)
    rw [nT_fork] at h
    rw [(h _ List.mem_cons_self).1 rfl, cut_eq l _ fun x hx => h x (List.mem_cons_of_mem _ (List.mem_append_left _ hx)), cut_eq r _ fun x hx => h x (List.mem_cons_of_mem _ (List.mem_append_right _ hx))]
  | .leaf k v, p, h => by
    show (if sel p = true then _ else _) = (if ls k = true then _ else _)
    have := (h (p, .leaf k v) (by rw [nT_leaf rfl]; exact List.mem_singleton.mpr rfl)).2 k v rfl
    rw [this]
  | .non, _, _ => rfl
  | .shut _ _, _, _ => rfl
  | .cut _ _, _, _ => rfl
def fsK (ks : List Int) (p : List Bool) : Bool := ks.any fun k => up p k
def lsK (ks : List Int) (k : Int) : Bool := decide (k ∈ ks)
/-- the witness -/
def wit (b : Nat) (ks : List Int) (t : T) : T := cutG b (fsK ks) (lsK ks) [] t
theorem wfp_nodes {x : List Bool × T} (h : WfP x) : ∀ y ∈ nT x.1 x.2, WfP y := by
  obtain ⟨p, t⟩ := x
  induction t generalizing p with
  | fork m l r ihl ihr =>
    intro y hy
    simp only at hy
    rw [nT_fork] at hy
    rcases List.mem_cons.mp hy with rfl | hy
    · exact h
    · rcases List.mem_append.mp hy with hy | hy
      · exact ihl _ (h.kids (p ++ [false], l) (by simp [kT])) y hy
      · exact ihr _ (h.kids (p ++ [true], r) (by simp [kT])) y hy
  | _ =>
    intro y hy
    simp only at hy
    rw [nT_leaf rfl, List.mem_singleton] at hy
    rw [hy]
    exact h
theorem leaf_bel {t : T} (h : W16 t) : ∀ x ∈ nT [] t, x.1.length ≤ 16 ∧ ∀ k' v, x.2 = .leaf k' v → Bel x.1 k' := by
  intro x hx
  have hw := wfp_nodes (x := ([], t)) ⟨Nat.zero_le _, h⟩ x hx
  refine ⟨hw.1, fun k' v e => ?_⟩
  have h2 := hw.2
  rw [e] at h2
  have := hw.1
  exact (bel_of x.1.length x.1 (16 - x.1.length) k' rfl (by omega) h2.1 h2.2.1).1
theorem sel_wit {b : Nat} {ks : List Int} {t : T} (h : W16 t) {sd : List (Key × D)} (hs : ∀ q, seD sd q = ks.any fun k => decide (q ∈ plc 16 t [] k)) : cutP b (seD sd) [] t = wit b ks t := by
  have hb := leaf_bel h
  have on : ∀ x ∈ nT [] t, ∀ k, (x.1 ∈ plc 16 t [] k ∧ (isFork x.2 = true ∨ ∃ k' v, x.2 = .leaf k' v)) ↔ onW k x := fun x hx k => plc_on 16 t [] rfl h.ht (fun y hy => (hb y hy).2) (fun i b hb => by simp at hb) x hx
  refine cut_eq t [] fun x hx => ⟨fun hf => ?_, fun k v e => ?_⟩
  · rw [hs]
    unfold fsK
    congr 1
    funext k
    have := on x hx k
    obtain ⟨p, u⟩ := x
    cases u with
    | fork m l r =>
      rw [Bool.eq_iff_iff, decide_eq_true_eq, up_iff (hb _ hx).1]
      exact ⟨fun q => this.mp ⟨q, .inl rfl⟩, fun q => (this.mpr q).1⟩
    | _ => cases hf
  · rw [hs]
    unfold lsK
    rw [Bool.eq_iff_iff, List.any_eq_true, decide_eq_true_eq]
    have := on x hx
    obtain ⟨p, u⟩ := x
    simp only at e
    subst e
    constructor
    · rintro ⟨j, hj, q⟩
      have e : k = j := (this j).mp ⟨of_decide_eq_true q, .inr ⟨_, _, rfl⟩⟩
      rw [e]; exact hj
    · intro hk
      exact ⟨k, hk, decide_eq_true ((this k).mpr rfl).1⟩
theorem wit_pr {b : Nat} {ks : List Int} {t : T} (h : W16 t) : Pr b t (wit b ks t) := by
  have e : cutP b (fun p => fsK ks p) [] t = cutG b (fsK ks) (fun _ => false) [] t ∨ True := .inr trivial
  unfold wit
  have go : ∀ (u : T) (p : List Bool), Pr b u (cutG b (fsK ks) (lsK ks) p u) := by
    intro u
    induction u with
    | fork m l r ihl ihr =>
      intro p
      show Pr b _ (if fsK ks p = true then _ else _)
      split
      · exact ⟨l, r, rfl, ihl _, ihr _⟩
      · exact ⟨.inl rfl, rfl, rfl⟩
    | leaf k v =>
      intro p
      show Pr b _ (if lsK ks k = true then _ else _)
      split
      · exact rfl
      · exact .inl ⟨v, rfl, rfl⟩
    | non => exact fun _ => rfl
    | shut => exact fun _ => .inr rfl
    | cut => exact fun _ => ⟨.inr rfl, rfl, rfl⟩
  exact go t []
theorem wit_wf {b : Nat} (hb : b ≤ 60) {ks : List Int} {t : T} (h : W16 t) : W16 (wit b ks t) := by
  have go : ∀ {n : Nat} {c : Int} {t : T} (p : List Bool), Wf n c t → Wf n c (cutG b (fsK ks) (lsK ks) p t) ∧ (cutG b (fsK ks) (lsK ks) p t).many = t.many := by
    intro n c t
    induction t generalizing n c with
    | fork m l r ihl ihr =>
      intro p h
      cases n with
      | zero => exact absurd h.2.2.2.2 (by omega)
      | succ n =>
        show Wf (n + 1) c (if fsK ks p = true then _ else _) ∧ (if fsK ks p = true then _ else _ : T).many = m
        split
        · obtain ⟨a1, a2⟩ := ihl (p ++ [false]) h.l
          obtain ⟨b1, b2⟩ := ihr (p ++ [true]) h.r
          exact ⟨⟨by rw [a2, b2]; exact h.1, h.2.1, a1, b1, by omega⟩, rfl⟩
        · exact ⟨⟨tS_nm hb _, h.2.1, pow_many h⟩, rfl⟩
    | leaf k v =>
      intro p h
      show Wf n c (if lsK ks k = true then _ else _) ∧ (if lsK ks k = true then _ else _ : T).many = 1
      split
      · exact ⟨h, rfl⟩
      · exact ⟨⟨h.1, h.2.1, tS_nm hb _⟩, rfl⟩
    | non => exact fun p h => ⟨h, rfl⟩
    | shut => exact fun p h => ⟨h, rfl⟩
    | cut => exact fun p h => ⟨h, rfl⟩
  exact (go [] h).1
theorem wit_open {b : Nat} {ks : List Int} {s : Int} (hs : s ∈ ks) : ∀ (n : Nat) (t : T) (p : List Bool), p.length + n = 16 → Bel p s → ht t ≤ n → hid (endT n t s) s = false → hid (endT n (cutG b (fsK ks) (lsK ks) p t) s) s = false
  | n + 1, .fork m l r, p, hp, hb, hh, h => by
    have e0 : ht (.fork m l r) = max (ht l) (ht r) + 1 := rfl
    have hf : fsK ks p = true := List.any_eq_true.mpr ⟨s, hs, (up_iff (by omega)).mpr hb⟩
    have e : cutG b (fsK ks) (lsK ks) p (.fork m l r) = .fork m (cutG b (fsK ks) (lsK ks) (p ++ [false]) l) (cutG b (fsK ks) (lsK ks) (p ++ [true]) r) := by
      show (if fsK ks p = true then _ else _) = _
      rw [if_pos hf]
    rw [e]
    have h : hid (endT n (if bi s n = 0 then l else r) s) s = false := h
    show hid (endT n (if bi s n = 0 then _ else _) s) s = false
    rcases bi01 s n with z | z
    · rw [if_pos z] at h ⊢
      exact wit_open hs n l _ (by rw [List.length_append, List.length_singleton]; omega) (hb.snoc hp z) (by omega) h
    · have z' : ¬ bi s n = 0 := by omega
      rw [if_neg z'] at h ⊢
      exact wit_open hs n r _ (by rw [List.length_append, List.length_singleton]; omega) (hb.snoc hp z) (by omega) h
  | 0, .fork m l r, p, hp, hb, hh, h => by simp [ht] at hh
  | n, .leaf k v, p, hp, hb, hh, h => by
    show hid (endT n (if lsK ks k = true then T.leaf k v else .shut k (vS b v)) s) s = false
    split
    · exact h
    · rename_i q
      rw [(nofork_way rfl n s).2]
      refine hid_ne rfl fun e => q ?_
      rw [e]
      exact decide_eq_true hs
  | n, .non, p, hp, hb, hh, h => h
  | n, .shut _ _, p, hp, hb, hh, h => h
  | n, .cut _ _, p, hp, hb, hh, h => h
def wfB : DS := (sSq (sIf (dtNot (dTr (dCall M_is_open (daC (dV 0) (daC (dV 3) daN))))) (sSq (sRaiO "Missing" ["key"] (daC (dV 3) daN))
  sNx) sNx)
  sNx)
theorem b_wf : b_witness_for = sSq (sFor (diL (dV 1)) (gN 3) wfB) (sSq (sRet (dCall M_cut_away (daC (dV 0) (daC (dCall M_places_to (daC (dV 0) (daC (dV 1) daN))) (daC (dV 2) daN))))) sNx) := (rfl)
theorem wf_loop {t : T} (h : ht t ≤ 16) {b c : Option D} : ∀ (ks : List Int) (x : Option D), (∀ k ∈ ks, Spot k ∧ hid (endT 16 t k) k = false) → ∃ x', forL (gN 3) wfB (ks.map .int) [some t.d, b, c, x] = .nx [some t.d, b, c, x']
  | [], x, _ => ⟨x, rfl⟩
  | k :: ks, x, hk => by
    obtain ⟨h1, h2⟩ := hk k List.mem_cons_self
    obtain ⟨x', e⟩ := wf_loop h (b := b) (c := c) ks (some (.int k)) fun j hj => hk j (List.mem_cons_of_mem _ hj)
    refine ⟨x', ?_⟩
    have eb : wfB [some t.d, b, c, some (.int k)] = .nx [some t.d, b, c, some (.int k)] := by
      simp_arith [wfB, is_open h h1.1, h2]
    rw [List.map_cons, forL_cons]
    have es : gN 3 (.int k) [some t.d, b, c, x] = .ok [some t.d, b, c, some (.int k)] := rfl
    rw [es]
    simp only [eb]
    exact e
theorem witness_for {b : Nat} (hb : b ≤ 60) {t : T} (h : W16 t) {ks : List Int} (hk : ∀ k ∈ ks, Spot k ∧ hid (endT 16 t k) k = false) (hl : ks.length ≤ 1000) : M_witness_for [t.d, .tup (ks.map .int), .int (b : Int)] = .ok (wit b ks t).d := by
  obtain ⟨x', e⟩ := wf_loop h.ht (b := some (.tup (ks.map .int))) (c := some (.int (b : Int))) ks none hk
  obtain ⟨sd, e1, e2⟩ := places_to h.ht (fun k hj => (hk k hj).1) hl
  have e3 := cut_away hb (sd := sd) h.ht (w16_tv h)
  rw [sel_wit h e2] at e3
  have ed : diL (dV 1) [some t.d, some (.tup (ks.map .int)), some (.int (b : Int)), none] = .ok (ks.map .int) := rfl
  simp_arith [M_witness_for, b_wf, x_sFor ed, e, e1, e3]
theorem cut_for {b : Nat} (h4 : 4 ≤ b) (hb : b ≤ 60) {t : T} (h : W16 t) {ks : List Int} (hk : ∀ k ∈ ks, Spot k ∧ hid (endT 16 t k) k = false) (hl : ks.length ≤ 1000) : M_cut_for [t.d, .tup (ks.map .int), .int (b : Int)] = .ok (wit b ks t).d := by
  simp_arith [M_cut_for, b_cut_for, need_tree_wf h, need_keys (fun k hj => (hk k hj).1) hl, need_bits h4 hb, witness_for hb h hk hl]
end K49
/-! GN: is_pruning of what is a pruning. -/
namespace K49
open DL
open PySem (Str)
open Lean in
local macro_rules
  | `(tactic| simp_arith [$ls,*]) => `(tactic| simp only [x_def1, x_def2, x_def3, x_def4, x_def5, List.cons_append, List.nil_append, List.replicate, Nat.reduceSub, List.map_cons, List.map_nil, x_sSq, x_sIf, x_sRet, x_sE, x_sAsN, x_dV0, x_dVs, x_dC, x_d1, x_d2, x_dCall, x_dCallF, x_daC, x_daN, rb_ok, x_ofO_some, x_dB, x_boolR, x_dTr, x_dtAnd, x_dtOr, x_dtNot, x_dAnd, x_dNot, x_dIfE, x_dChain, x_sNx, x_sApp, x_ownL0, x_ownLs, x_ownD0, x_ownDs, x_sPut, x_sRai, List.set_cons_zero, List.set_cons_succ, Bool.not_true, Bool.not_false, Bool.false_eq_true, if_true, if_false, x_dTup, x_dLst, sl0, sl1, sl2, sl3, sl4, o_add, o_sub, o_eq, o_ne, o_lt, o_le, o_gt, o_ge, o_lenL, o_lenT, o_trB, o_trL, o_trT, o_int, $ls,*])

theorem pr_node {b : Nat} : ∀ (u t : T) (p : List Bool), Pr b t u → ∀ x ∈ nT p u, ∃ t', (x.1, t') ∈ nT p t ∧ Pr b t' x.2
  | .fork m l r, t, p, h, x, hx => by
    obtain ⟨l', r', rfl, h1, h2⟩ := h
    rw [nT_fork] at hx ⊢
    rcases List.mem_cons.mp hx with rfl | hx
    · exact ⟨.fork m l' r', List.mem_cons_self, l', r', rfl, h1, h2⟩
    · rcases List.mem_append.mp hx with hx | hx
      · obtain ⟨t', a1, a2⟩ := pr_node l l' _ h1 x hx
        exact ⟨t', List.mem_cons_of_mem _ (List.mem_append_left _ a1), a2⟩
      · obtain ⟨t', a1, a2⟩ := pr_node r r' _ h2 x hx
        exact ⟨t', List.mem_cons_of_mem _ (List.mem_append_right _ a1), a2⟩
  | .non, t, p, h, x, hx => by
    rw [nT_leaf rfl, List.mem_singleton] at hx
    subst hx
    exact ⟨t, top_mem t p, h⟩
  | .leaf _ _, t, p, h, x, hx => by
    rw [nT_leaf rfl, List.mem_singleton] at hx
    subst hx
    exact ⟨t, top_mem t p, h⟩
  | .shut _ _, t, p, h, x, hx => by
    rw [nT_leaf rfl, List.mem_singleton] at hx
    subst hx
    exact ⟨t, top_mem t p, h⟩
  | .cut _ _, t, p, h, x, hx => by
    rw [nT_leaf rfl, List.mem_singleton] at hx
    subst hx
    exact ⟨t, top_mem t p, h⟩
def isClo : T → Bool
  | .cut _ _ => true
  | .shut _ _ => true
  | _ => false
theorem closed_w (t : T) : M_is_closed [t.d] = .ok (.bl (isClo t)) := by
  have e : opIn (tag t) (.tup [.str "cut", .str "shut"]) = some (.bl (isClo t)) := by cases t <;> rfl
  simp_arith [M_is_closed, b_is_closed, ix_tag, e]
theorem stands {b : Nat} (hb : b ≤ 60) {t u : T} (hv : TV t) (h : Pr b t u) (hc : isClo u = true) : M_stands_for [t.d, rD b t, u.d, .int (b : Int)] = .ok (.bl true) := by
  cases u with
  | cut s m =>
    obtain ⟨h1, rfl, rfl⟩ := h
    have e1 : dSl (dV 2) (doS (dC (.int 1))) doN [some t.d, some (rD b t), some (T.cut (rs b t) t.many).d, some (.int (b : Int))] = .ok (rD b t) := rfl
    have e2 : opEq (tag (.cut (rs b t) t.many)) (.str "cut") = some (.bl true) := rfl
    simp_arith [M_stands_for, b_stands_for, ix_tag, e2, e1, DL.eq_self (rD_ok b t)]
  | shut k s =>
    have e2 : opEq (tag (.shut k s)) (.str "cut") = some (.bl false) := rfl
    have e3 : opIx (T.shut k s).d (.int 1) = some (.int k) := rfl
    have e4 : opIx (T.shut k s).d (.int 2) = some (.int s) := rfl
    have z : ∀ i : Int, (i == i) = true := fun i => beq_self_eq_true i
    rcases h with ⟨v, rfl, rfl⟩ | rfl
    · have e5 : opIx (T.leaf k v).d (.int 1) = some (.int k) := rfl
      simp_arith [M_stands_for, b_stands_for, ix_tag, e2, e3, e4, e5, in_ls, value_sum hb hv.2, z]
    · simp_arith [M_stands_for, b_stands_for, ix_tag, e2, e3, e4, in_ls, value_sumS, z]
  | _ => cases hc
theorem alike {b : Nat} {t u : T} (ho : u.d.okE = true) (h : Pr b t u) (hc : isClo u = false) : M_alike [t.d, u.d] = .ok (.bl true) := by
  have z : ∀ i : Int, (i == i) = true := fun i => beq_self_eq_true i
  cases u with
  | fork m l r =>
    obtain ⟨l', r', rfl, h1, h2⟩ := h
    have e1 : opEq (tag (.fork m l' r')) (tag (.fork m l r)) = some (.bl true) := rfl
    have e2 : opIx (T.fork m l r).d (.int 1) = some (.int m) := rfl
    have e3 : opIx (T.fork m l' r').d (.int 1) = some (.int m) := rfl
    have e4 : isFork (.fork m l' r') = true := rfl
    simp_arith [M_alike, b_alike, ix_tag, eq_fork, e1, e2, e3, e4, z]
  | non =>
    have h : t = .non := h
    subst h
    simp_arith [M_alike, b_alike, ix_tag, eq_fork, DL.eq_self ho, isFork]
  | leaf k v =>
    have h : t = .leaf k v := h
    subst h
    simp_arith [M_alike, b_alike, ix_tag, eq_fork, DL.eq_self ho, isFork]
  | _ => cases hc
theorem pairs_nP : ∀ l : List (List Bool × T), pairsOf (l.map nP) = some (l.map fun x => (kyT x, x.2.d))
  | [] => rfl
  | x :: l => by
    rw [List.map_cons, List.map_cons]
    show ((pairsOf (l.map nP)).map ((kyT x, x.2.d) :: ·)) = _
    rw [pairs_nP l]
    rfl
theorem merge_new : ∀ (l acc : List (Key × D)), (acc.map (·.1) ++ l.map (·.1)).Nodup → merge acc l = acc ++ l
  | [], acc, _ => by rw [List.append_nil]; rfl
  | x :: l, acc, h => by
    have hd : ∀ z ∈ acc, z.1 ≠ x.1 := fun z hz e => by
      rw [List.nodup_append] at h
      exact h.2.2 z.1 (List.mem_map.mpr ⟨z, hz, rfl⟩) x.1 (by simp) e
    show merge (pt acc x.1 x.2) l = _
    rw [pt_new hd, merge_new l _ (by rw [List.map_append]; simpa [List.append_assoc] using h)]
    simp
theorem dict_nodes (t : T) : fDict (.lst ((nT [] t).map nP)) = some (.dct ((nT [] t).map fun x => (kyT x, x.2.d))) := by
  show (match pairsOf ((nT [] t).map nP) with | some kvs => some (D.dct (merge [] kvs)) | none => none) = _
  rw [pairs_nP]
  simp only
  rw [merge_new _ [] (by rw [List.map_nil, List.nil_append, List.map_map]; exact kyT_nodup t []), List.nil_append]
def ipB : DS := (sSq (sIf (dB (d2 opNotIn (dV 5) (dV 4))) (sSq (sRet (dC (.bl false)))
  sNx) sNx)
  (sSq (sIf (dTr (dCall M_is_closed (daC (dV 6) daN))) (sSq (sIf (dtNot (dTr (dCall M_stands_for (daC (d2 opIx (dV 4) (dV 5)) (daC (d2 opIx (dV 3) (dV 5)) (daC (dV 6) (daC (dV 2) daN))))))) (sSq (sRet (dC (.bl false)))
  sNx) sNx)
  sNx) (sSq (sIf (dtNot (dTr (dCall M_alike (daC (d2 opIx (dV 4) (dV 5)) (daC (dV 6) daN))))) (sSq (sRet (dC (.bl false)))
  sNx) sNx)
  sNx))
  sNx))
theorem b_ip : b_is_pruning_of = sSq (sAs (gN 3) (dCall M_roots_of (daC (dV 0) (daC (dV 2) daN)))) (sSq (sAs (gN 4) (d1 fDict (dCall M_nodes_of (daC (dV 0) daN)))) (sSq (sFor (diL (dCall M_nodes_of (daC (dV 1) daN))) (gT [5, 6]) ipB) (sSq (sRet (dC (.bl true))) sNx))) := (rfl)
theorem OV_all : ∀ (t : T) (p : List Bool), OV t → ∀ x ∈ nT p t, OV x.2
  | .fork m l r, p, h, x, hx => by
    rw [nT_fork] at hx
    rcases List.mem_cons.mp hx with rfl | hx
    · exact h
    · rcases List.mem_append.mp hx with hx | hx
      · exact OV_all l _ h.1 x hx
      · exact OV_all r _ h.2 x hx
  | .non, p, h, x, hx => by rw [nT_leaf rfl, List.mem_singleton] at hx; rw [hx]; exact h
  | .leaf _ _, p, h, x, hx => by rw [nT_leaf rfl, List.mem_singleton] at hx; rw [hx]; exact h
  | .shut _ _, p, h, x, hx => by rw [nT_leaf rfl, List.mem_singleton] at hx; rw [hx]; exact h
  | .cut _ _, p, h, x, hx => by rw [nT_leaf rfl, List.mem_singleton] at hx; rw [hx]; exact h
theorem ip_loop {b : Nat} {a0 a1 : Option D} {R N : List (Key × D)} : ∀ (l : List (List Bool × T)) (x y : Option D), (∀ z ∈ l, ∃ t', lk N (kyT z) = some t'.d ∧ lk R (kyT z) = some (rD b t') ∧ (isClo z.2 = true → M_stands_for [t'.d, rD b t', z.2.d, .int (b : Int)] = .ok (.bl true)) ∧ (isClo z.2 = false → M_alike [t'.d, z.2.d] = .ok (.bl true))) →
    ∃ x' y', forL (gT [5, 6]) ipB (l.map nP) [a0, a1, some (.int (b : Int)), some (.dct R), some (.dct N), x, y] = .nx [a0, a1, some (.int (b : Int)), some (.dct R), some (.dct N), x', y']
  | [], x, y, _ => ⟨x, y, rfl⟩
  | z :: l, x, y, h => by
    obtain ⟨t', h1, h2, h3, h4⟩ := h z List.mem_cons_self
    obtain ⟨x', y', e⟩ := ip_loop (a0 := a0) (a1 := a1) l (some (.str (pS z.1))) (some z.2.d) fun w hw => h w (List.mem_cons_of_mem _ hw)
    refine ⟨x', y', ?_⟩
    have es : gT [5, 6] (nP z) [a0, a1, some (.int (b : Int)), some (.dct R), some (.dct N), x, y] = .ok [a0, a1, some (.int (b : Int)), some (.dct R), some (.dct N), some (.str (pS z.1)), some z.2.d] := rfl
    have n1 : opNotIn (.str (pS z.1)) (.dct N) = some (.bl false) := by
      rw [o_ninS]
      have : lk N (.inr (pS z.1)) = some t'.d := h1
      rw [this]; rfl
    have i1 : opIx (.dct N) (.str (pS z.1)) = some t'.d := o_ixD h1
    have i2 : opIx (.dct R) (.str (pS z.1)) = some (rD b t') := o_ixD h2
    have eb : ipB [a0, a1, some (.int (b : Int)), some (.dct R), some (.dct N), some (.str (pS z.1)), some z.2.d] = .nx [a0, a1, some (.int (b : Int)), some (.dct R), some (.dct N), some (.str (pS z.1)), some z.2.d] := by
      cases q : isClo z.2 with
      | true => simp_arith [ipB, n1, closed_w, q, i1, i2, h3 q]
      | false => simp_arith [ipB, n1, closed_w, q, i1, i2, h4 q]
    rw [List.map_cons, forL_cons, es]
    simp only [eb]
    exact e
theorem is_pruning_of {b : Nat} (hb : b ≤ 60) {t u : T} (ht' : W16 t) (hu : W16 u) (h : Pr b t u) : M_is_pruning_of [t.d, u.d, .int (b : Int)] = .ok (.bl true) := by
  generalize hR : ((nT [] t).reverse.map fun x => (kyT x, rD b x.2)) = R
  generalize hN : ((nT [] t).map fun x => (kyT x, x.2.d)) = N
  obtain ⟨x', y', e⟩ := ip_loop (b := b) (a0 := some t.d) (a1 := some u.d) (R := R) (N := N) (nT [] u) none none fun z hz => by
    obtain ⟨t', a1, a2⟩ := pr_node u t [] h z hz
    have l1 : lk N (kyT (z.1, t')) = some t'.d := by rw [← hN]; exact lk_map (val := fun x : List Bool × T => x.2.d) (kyT_nodup t []) a1
    have l2 : lk R (kyT (z.1, t')) = some (rD b t') := by rw [← hR]; exact roots_lk a1
    have tv := TV_all t [] (w16_tv ht') _ a1
    have ov := OV_all u [] hu.ov _ hz
    have hh := nT_fits u [] (by simpa using hu.ht) z hz
    have ok := ov.okE (by unfold fits at hh; omega)
    exact ⟨t', l1, l2, stands hb tv a2, alike ok a2⟩
  have hr := roots_of hb ht'.ht (w16_tv ht')
  have hd := dict_nodes t
  rw [hR] at hr
  rw [hN] at hd
  have ed : diL (dCall M_nodes_of (daC (dV 1) daN)) [some t.d, some u.d, some (.int (b : Int)), some (.dct R), some (.dct N), none, none] = .ok ((nT [] u).map nP) := by
    unfold diL
    simp_arith [nodes_of' hu.ht]
  simp_arith [M_is_pruning_of, b_ip, hr, nodes_of' ht'.ht, hd, x_sFor ed, e]
theorem is_pruning {b : Nat} (h4 : 4 ≤ b) (hb : b ≤ 60) {t u : T} (ht' : W16 t) (hu : W16 u) (h : Pr b t u) : M_is_pruning [t.d, u.d, .int (b : Int)] = .ok (.bl true) := by
  simp_arith [M_is_pruning, b_is_pruning, need_tree_wf ht', need_tree_wf hu, need_bits h4 hb, is_pruning_of hb ht' hu h]
end K49
/-! GO: the law side of cut, end, try, root. -/
namespace K49
open DL
open PySem (Str)
open Lean in
local macro_rules
  | `(tactic| simp_arith [$ls,*]) => `(tactic| simp only [x_def1, x_def2, x_def3, x_def4, x_def5, List.cons_append, List.nil_append, List.replicate, Nat.reduceSub, List.map_cons, List.map_nil, x_sSq, x_sIf, x_sRet, x_sE, x_sAsN, x_dV0, x_dVs, x_dC, x_d1, x_d2, x_dCall, x_dCallF, x_daC, x_daN, rb_ok, x_ofO_some, x_dB, x_boolR, x_dTr, x_dtAnd, x_dtOr, x_dtNot, x_dAnd, x_dNot, x_dIfE, x_dChain, x_sNx, x_sApp, x_ownL0, x_ownLs, x_ownD0, x_ownDs, x_sPut, x_sRai, List.set_cons_zero, List.set_cons_succ, Bool.not_true, Bool.not_false, Bool.false_eq_true, if_true, if_false, x_dTup, x_dLst, sl0, sl1, sl2, sl3, sl4, o_add, o_sub, o_eq, o_ne, o_lt, o_le, o_gt, o_ge, o_lenL, o_lenT, o_trB, o_trL, o_trT, o_int, $ls,*])

theorem x_any {ι : Type} (f : ι → Bool) (l : List ι) : fAny (.lst (l.map fun k => .bl (f k))) = some (.bl (l.any f)) := by
  have e : ∀ l : List ι, boolsOf (l.map fun k => .bl (f k)) = some (l.map f) := by
    intro l
    induction l with
    | nil => rfl
    | cons k l ih =>
      show ((boolsOf (l.map fun k => .bl (f k))).map (f k :: ·)) = _
      rw [ih]
      rfl
  show (match boolsOf (l.map fun k => .bl (f k)) with | some ns => some (D.bl (ns.any id)) | none => none) = _
  rw [e]
  simp only
  rw [List.any_map]
  rfl
theorem flat_one {ι : Type} (f : ι → D) : ∀ l : List ι, (l.flatMap fun k => [f k]) = l.map f
  | [] => rfl
  | k :: l => by rw [List.flatMap_cons, List.map_cons, flat_one f l]; rfl
theorem eqv_int (i j : Int) : D.eqv (.int i) (.int j) = (i == j) := (rfl)
theorem o_inI (k : Int) (ks : List Int) : opIn (.int k) (.tup (ks.map .int)) = some (.bl (lsK ks k)) := by
  have h1 : ((D.int k).flat && (ks.map D.int).all D.flat) = true := by
    have : (ks.map D.int).all D.flat = true := by
      rw [List.all_eq_true]
      intro d hd
      obtain ⟨_, _, rfl⟩ := List.mem_map.mp hd
      rfl
    rw [this]
    rfl
  have h2 : ((ks.map D.int).any fun y => D.eqv y (.int k)) = lsK ks k := by
    unfold lsK
    rw [Bool.eq_iff_iff, List.any_eq_true, decide_eq_true_eq]
    constructor
    · rintro ⟨d, hd, e⟩
      obtain ⟨j, hj, rfl⟩ := List.mem_map.mp hd
      rw [eqv_int] at e
      rw [← eq_of_beq e]
      exact hj
    · intro hk
      exact ⟨.int k, List.mem_map.mpr ⟨k, hk, rfl⟩, by rw [eqv_int]; exact beq_self_eq_true k⟩
  unfold opIn opInB
  simp only
  rw [if_pos h1, h2]
def lc1 : DS := (sAs (gN 9) (d1 fAny (dLc (diL (dV 4)) [10] (gN 10) tT (dSm mStarts (dV 10) (dV 7)))))
def lc2 : DS := (sIf (dtNot (dTr (dV 8))) (sSq (sPut 6 (dV 7) (dTup (daC (dC (.str "none")) daN)))
  sNx) (sSq (sIf (dtAnd (dB (d2 opEq (d1 fLen (dV 8)) (dC (.int 1)))) (dB (d2 opIn (d2 opIx (d2 opIx (dV 8) (dC (.int 0))) (dC (.int 0))) (dV 1)))) (sSq (sPut 6 (dV 7) (d2 opAdd (dTup (daC (dC (.str "leaf")) daN)) (d2 opIx (dV 8) (dC (.int 0)))))
  sNx) (sSq (sIf (dB (d2 opEq (d1 fLen (dV 8)) (dC (.int 1)))) (sSq (sPut 6 (dV 7) (dTup (daC (dC (.str "shut")) (daC (d2 opIx (d2 opIx (dV 8) (dC (.int 0))) (dC (.int 0))) (daC (dCall M__law_sum (daC (dCall M__law_packed (daC (d2 opIx (d2 opIx (dV 8) (dC (.int 0))) (dC (.int 1))) daN)) (daC (dV 2) daN))) daN)))))
  sNx) (sSq (sIf (dtNot (dTr (dV 9))) (sSq (sPut 6 (dV 7) (d2 opAdd (dTup (daC (dC (.str "cut")) daN)) (d2 opIx (dV 3) (dV 7))))
  sNx) (sSq (sPut 6 (dV 7) (dTup (daC (dC (.str "fork")) (daC (d1 fLen (dV 8)) (daC (d2 opIx (dV 6) (d2 opAdd (dV 7) (dC (.str "0")))) (daC (d2 opIx (dV 6) (d2 opAdd (dV 7) (dC (.str "1")))) daN))))))
  sNx))
  sNx))
  sNx))
  sNx))
def lcB : DS := sSq lc1 (sSq lc2 sNx)
theorem b_lc : b__law_cut = sSq (sAs (gN 3) (dCall M__law_roots (daC (dV 0) (daC (dV 2) daN)))) (sSq (sAs (gN 4) (dLc (diL (dV 1)) [5] (gN 5) tT (dCall M__law_spot_text (daC (dV 5) daN)))) (sSq (sAs (gN 6) (dC (.dct []))) (sSq (sFor (diL (d1 opRev (dCall M__law_split (daC (d1 fSortedIt (dV 0)) daN)))) (gT [7, 8]) lcB) (sSq (sRet (d2 opIx (dV 6) (dC (.str "")))) sNx)))) := (rfl)
def txK (ks : List Int) : D := .lst (ks.map fun k => .str (pS (bitsL k)))
theorem lc1_step {a0 a1 a2 a3 a5 a6 a8 z : Option D} {ks : List Int} (hl : ks.length ≤ 1000) {p : List Bool} (hp : p.length ≤ 16) :
    lc1 [a0, a1, a2, a3, some (txK ks), a5, a6, some (.str (pS p)), a8, z, none] = .nx [a0, a1, a2, a3, some (txK ks), a5, a6, some (.str (pS p)), a8, some (.bl (fsK ks p)), none] := by
  have h := lcL_flat (ι := Int) (g := gN 10) (c := tT) (e := dSm mStarts (dV 10) (dV 7)) (s := dwipe [a0, a1, a2, a3, some (txK ks), a5, a6, some (.str (pS p)), a8, z, none] [10]) (F := fun k => D.str (pS (bitsL k))) (h := fun k => [D.bl (up p k)]) (l := ks) (by
    intro k hk
    refine ⟨_, rfl, .inl ⟨rfl, .bl (up p k), ?_, rfl⟩⟩
    show dSm mStarts (dV 10) (dV 7) [a0, a1, a2, a3, some (txK ks), a5, a6, some (.str (pS p)), a8, z, some (.str (pS (bitsL k)))] = _
    unfold dSm
    simp_arith [starts hp]
    rfl)
  rw [flat_one] at h
  have ed : diL (dV 4) [a0, a1, a2, a3, some (txK ks), a5, a6, some (.str (pS p)), a8, z, none] = .ok (ks.map fun k => .str (pS (bitsL k))) := rfl
  have lc := x_dLc (vs := [10]) ed (by rw [List.length_map]; show _ ≤ 16777216; omega) h
  unfold lc1
  simp_arith [lc, x_any]
  rfl
theorem lc2_step {b : Nat} (hb : b ≤ 60) {a0 a4 a5 z : Option D} {ks : List Int} {R kv : List (Key × D)} {x : Pt} (hx : x.ok) (hv : PPV x.qs) (hl : x.qs.length ≤ 1000) (hkl : kv.length < 1000000) (hR : lk R (kyP x) = some (rD b (cn x.n x.qs)))
    (hk : ∀ y ∈ kids x, lk kv (kyP y) = some (cutG b (fsK ks) (lsK ks) y.p (cn y.n y.qs)).d) :
    lc2 [a0, some (.tup (ks.map .int)), some (.int (b : Int)), some (.dct R), a4, a5, some (.dct kv), some (.str (pS x.p)), some (.lst (x.qs.map pd)), some (.bl (fsK ks x.p)), z] =
      .nx [a0, some (.tup (ks.map .int)), some (.int (b : Int)), some (.dct R), a4, a5, some (.dct (pt kv (kyP x) (cutG b (fsK ks) (lsK ks) x.p (cn x.n x.qs)).d)), some (.str (pS x.p)), some (.lst (x.qs.map pd)), some (.bl (fsK ks x.p)), z] := by
  obtain ⟨n, p, qs⟩ := x
  obtain ⟨h1, h2⟩ := hx
  simp only at h1 h2 hv hl hR ⊢
  have hlt : kv.length < SL := by show _ < 16777216; omega
  have hky : keyOf (.str (pS p)) = some (.inr (pS p)) := rfl
  unfold lc2
  match qs, h2, hv, hl, hk, hR with
  | [], _, _, _, _, _ =>
    rw [cn_nil]
    have t : (!([] : List D).isEmpty) = false := rfl
    simp_arith [t, hky, if_pos hlt]
    rfl
  | [q], _, hv, _, _, _ =>
    rw [cn_one]
    obtain ⟨hq1, hq2⟩ := hv q (by simp)
    have e1 : opIx (.lst [pd q]) (.int 0) = some (pd q) := rfl
    have e2 : opIx (pd q) (.int 0) = some (.int q.1) := rfl
    have e3 : opIx (pd q) (.int 1) = some q.2 := rfl
    have e4 : opAdd (.tup [.str "leaf"]) (pd q) = some (T.leaf q.1 q.2).d := rfl
    have e5 : M__law_sum [.str (pk q.2), .int (b : Int)] = .ok (.int (vS b q.2)) := law_sum (by omega)
    have e6 : (!([pd q] : List D).isEmpty) = true := rfl
    have e7 : ((([pd q] : List D).length : Int) == 1) = true := rfl
    cases c : lsK ks q.1 with
    | true =>
      have ec : cutG b (fsK ks) (lsK ks) p (.leaf q.1 q.2) = .leaf q.1 q.2 := by
        show (if lsK ks q.1 = true then _ else _) = _
        rw [c]; rfl
      rw [ec]
      simp_arith [e6, e7, e1, e2, o_inI, c, e4, hky, if_pos hlt]
    | false =>
      have ec : cutG b (fsK ks) (lsK ks) p (.leaf q.1 q.2) = .shut q.1 (vS b q.2) := by
        show (if lsK ks q.1 = true then _ else _) = _
        rw [c]; rfl
      rw [ec]
      simp_arith [e6, e7, e1, e2, e3, o_inI, c, e5, law_packed hq2, hky, if_pos hlt]
      rfl
  | q :: q' :: r, h2, hv, hl, hk, hR =>
    have hb2 : 2 ≤ (q :: q' :: r).length := by simp only [List.length_cons]; omega
    cases n with
    | zero => have := h2.zero; omega
    | succ n =>
      rw [cn_big hb2] at hR ⊢
      rw [kids_big hb2] at hk
      have e1 : ((((q :: q' :: r).map pd).length : Int) == 1) = false := by rw [beq_eq_false_iff_ne, List.length_map]; omega
      obtain ⟨a1, a2⟩ := addS (p := p) (by omega)
      have i0 := o_ixD (hk _ List.mem_cons_self)
      have i1 := o_ixD (hk _ (List.mem_cons_of_mem _ List.mem_cons_self))
      have iR : opIx (.dct R) (.str (pS p)) = some (rD b (.fork ((q :: q' :: r).length : Int) (cn n (fb n 0 (q :: q' :: r))) (cn n (fb n 1 (q :: q' :: r))))) := o_ixD hR
      generalize hqs : q :: q' :: r = qs at *
      have t2 : (!(qs.map pd).isEmpty) = true := by rw [← hqs]; rfl
      have e1' : ((qs.length : Int) == 1) = false := by rw [List.length_map] at e1; exact e1
      have e4 : opAdd (.tup [.str "cut"]) (rD b (.fork (qs.length : Int) (cn n (fb n 0 qs)) (cn n (fb n 1 qs)))) = some (T.cut (rs b (.fork (qs.length : Int) (cn n (fb n 0 qs)) (cn n (fb n 1 qs)))) (qs.length : Int)).d := rfl
      cases c : fsK ks p with
      | true =>
        have ec : cutG b (fsK ks) (lsK ks) p (.fork (qs.length : Int) (cn n (fb n 0 qs)) (cn n (fb n 1 qs))) = .fork (qs.length : Int) (cutG b (fsK ks) (lsK ks) (p ++ [false]) (cn n (fb n 0 qs))) (cutG b (fsK ks) (lsK ks) (p ++ [true]) (cn n (fb n 1 qs))) := by
          show (if fsK ks p = true then _ else _) = _
          rw [c]; rfl
        rw [ec]
        simp_arith [t2, e1', a1, a2, i0, i1, hky, if_pos hlt, List.length_map]
        rfl
      | false =>
        have ec : cutG b (fsK ks) (lsK ks) p (.fork (qs.length : Int) (cn n (fb n 0 qs)) (cn n (fb n 1 qs))) = .cut (rs b (.fork (qs.length : Int) (cn n (fb n 0 qs)) (cn n (fb n 1 qs)))) (qs.length : Int) := by
          show (if fsK ks p = true then _ else _) = _
          rw [c]; rfl
        rw [ec]
        simp_arith [t2, e1, iR, e4, hky, if_pos hlt]
theorem law_cut {b : Nat} (hb : b ≤ 60) {kd : List (Key × D)} {ps : PL} (hs : fSortedIt (.dct kd) = some (.lst (ps.map pd))) (h : Gd 16 ps) (hv : PPV ps) (hl : ps.length ≤ 1000) {ks : List Int} (hkl : ks.length ≤ 1000) :
    M__law_cut [.dct kd, .tup (ks.map .int), .int (b : Int)] = .ok (wit b ks (cn 16 ps)).d := by
  have hr := law_roots hb hs h hv hl
  have hRl : ∀ x ∈ bqA ps, lk (rootsL b ps) (kyP x) = some (rD b (cn x.n x.qs)) := fun x hx => rootsL_lk hx
  generalize rootsL b ps = R at hr hRl
  have nd : ((bqA ps).reverse.map kyP).Nodup := by rw [List.map_reverse]; exact (List.reverse_perm _).nodup_iff.mpr (bqA_nodup ps)
  obtain ⟨s', e, q, w, z, rfl⟩ := bup (S := fun kv s => ∃ q w z, s = [some (.dct kd), some (.tup (ks.map .int)), some (.int (b : Int)), some (.dct R), some (txK ks), none, some (.dct kv), q, w, z, none]) (key := kyP) (val := fun x => (cutG b (fsK ks) (lsK ks) x.p (cn x.n x.qs)).d) (kids := kids) (L := (bqA ps).reverse) (g := gT [7, 8]) (b := lcB) (el := En) (s0 := [some (.dct kd), some (.tup (ks.map .int)), some (.int (b : Int)), some (.dct R), some (txK ks), none, some (.dct []), none, none, none, none])
    nd (bqA_kids ps) (by rw [List.length_reverse]; exact bqA_len hl)
    (by
      rintro x kv s hx ⟨q, w, z, rfl⟩ hlk hk
      have hx := List.mem_reverse.mp hx
      obtain ⟨ho, hl2⟩ := bqA_ok h hl x hx
      refine ⟨[some (.dct kd), some (.tup (ks.map .int)), some (.int (b : Int)), some (.dct R), some (txK ks), none, some (.dct kv), some (.str (pS x.p)), some (.lst (x.qs.map pd)), z, none], [some (.dct kd), some (.tup (ks.map .int)), some (.int (b : Int)), some (.dct R), some (txK ks), none, some (.dct (pt kv (kyP x) (cutG b (fsK ks) (lsK ks) x.p (cn x.n x.qs)).d)), some (.str (pS x.p)), some (.lst (x.qs.map pd)), some (.bl (fsK ks x.p)), none], rfl, ?_, _, _, _, rfl⟩
      have := ho.1
      have s1 := lc1_step (a0 := some (.dct kd)) (a1 := some (.tup (ks.map .int))) (a2 := some (.int (b : Int))) (a3 := some (.dct R)) (a5 := none) (a6 := some (.dct kv)) (a8 := some (.lst (x.qs.map pd))) (z := z) hkl (p := x.p) (by omega)
      have s2 := lc2_step hb (a0 := some (.dct kd)) (a4 := some (txK ks)) (a5 := none) (z := none) ho (fun q hq => hv q (bqA_mem x hx q hq)) hl2 hlk (hRl x hx) hk
      unfold lcB
      rw [sq_nx s1, sq_nx s2]
      rfl)
    ⟨_, _, _, rfl⟩
  have er : opRev (.lst ((bqA ps).map En)) = some (.lst ((bqA ps).reverse.map En)) := by rw [List.map_reverse]; rfl
  have ed : diL (d1 opRev (dCall M__law_split (daC (d1 fSortedIt (dV 0)) daN))) [some (.dct kd), some (.tup (ks.map .int)), some (.int (b : Int)), some (.dct R), some (txK ks), none, some (.dct []), none, none, none, none] = .ok ((bqA ps).reverse.map En) := by
    have : d1 opRev (dCall M__law_split (daC (d1 fSortedIt (dV 0)) daN)) [some (.dct kd), some (.tup (ks.map .int)), some (.int (b : Int)), some (.dct R), some (txK ks), none, some (.dct []), none, none, none, none] = .ok (.lst ((bqA ps).reverse.map En)) := by
      simp_arith [hs, bqA_split h hl, er]
    unfold diL
    rw [this]
    rfl
  have hi : diL (dV 1) [some (.dct kd), some (.tup (ks.map .int)), some (.int (b : Int)), some (.dct R), none, none, none, none, none, none, none] = .ok (ks.map .int) := rfl
  have lc : dLc (diL (dV 1)) [5] (gN 5) tT (dCall M__law_spot_text (daC (dV 5) daN)) [some (.dct kd), some (.tup (ks.map .int)), some (.int (b : Int)), some (.dct R), none, none, none, none, none, none, none] = .ok (txK ks) := by
    have h := lcL_flat (ι := Int) (g := gN 5) (c := tT) (e := dCall M__law_spot_text (daC (dV 5) daN)) (s := dwipe [some (.dct kd), some (.tup (ks.map .int)), some (.int (b : Int)), some (.dct R), none, none, none, none, none, none, none] [5]) (F := D.int) (h := fun k => [D.str (pS (bitsL k))]) (l := ks) (by
      intro k hk
      refine ⟨_, rfl, .inl ⟨rfl, _, ?_, rfl⟩⟩
      show dCall M__law_spot_text (daC (dV 5) daN) [some (.dct kd), some (.tup (ks.map .int)), some (.int (b : Int)), some (.dct R), none, some (.int k), none, none, none, none, none] = _
      simp_arith [law_spot_text])
    rw [flat_one] at h
    exact x_dLc hi (by rw [List.length_map]; show _ ≤ 16777216; omega) h
  have top := lk_map (key := kyP) (val := fun x : Pt => (cutG b (fsK ks) (lsK ks) x.p (cn x.n x.qs)).d) nd (List.mem_reverse.mpr (bqA_top ps))
  have e2 : opIx (.dct ((bqA ps).reverse.map fun x => (kyP x, (cutG b (fsK ks) (lsK ks) x.p (cn x.n x.qs)).d))) (.str "") = some (wit b ks (cn 16 ps)).d := o_ixD (p := []) top
  simp_arith [M__law_cut, b_lc, hr, lc, x_sFor ed, e, e2]
theorem law_root {b : Nat} (hb : b ≤ 60) {kd : List (Key × D)} {ps : PL} (hs : fSortedIt (.dct kd) = some (.lst (ps.map pd))) (h : Gd 16 ps) (hv : PPV ps) (hl : ps.length ≤ 1000) :
    M__law_root [.dct kd, .int (b : Int)] = .ok (rD b (cn 16 ps)) := by
  simp_arith [M__law_root, b__law_root, law_roots hb hs h hv hl, rootsL_top]
def leB : DS := (sSq (sIf (dB (d2 opEq (d2 opIx (dV 2) (dC (.int 0))) (dC (.str "fork")))) (sSq (sAs (gN 2) (d2 opIx (dV 2) (d2 opAdd (dC (.int 2)) (dCall M__law_bit (daC (dV 1) (daC (dV 3) daN))))))
  sNx) sNx)
  sNx)
theorem b_le : b__law_end = sSq (sAs (gN 2) (dV 0)) (sSq (sFor (diR1 (dC (.int 17))) (gN 3) leB) (sSq (sRet (dV 2)) sNx)) := (rfl)
theorem le_loop {a : Option D} {k : Int} : ∀ (n lo : Nat) (t : T) (x : Option D), lo + n = 16 → ht t ≤ n → ∃ x', forL (gN 3) leB (rg (lo : Int) (n + 1) 1) [a, some (.int k), some t.d, x] = .nx [a, some (.int k), some (endT n t k).d, x']
  | 0, lo, t, x, h, hh => by
    have hf : isFork t = false := by cases t <;> first | rfl | (simp [ht] at hh)
    refine ⟨some (.int (lo : Int)), ?_⟩
    have eb : leB [a, some (.int k), some t.d, some (.int (lo : Int))] = .nx [a, some (.int k), some t.d, some (.int (lo : Int))] := by
      simp_arith [leB, ix_tag, eq_fork, hf]
    rw [rg_succ, x_forN]
    rw [show ([a, some (.int k), some t.d, x].set 3 (some (.int (lo : Int)))) = [a, some (.int k), some t.d, some (.int (lo : Int))] from rfl, eb]
    rw [(nofork_way hf 0 k).2]
    rfl
  | n + 1, lo, t, x, h, hh => by
    rw [rg_succ, x_forN]
    rw [show ([a, some (.int k), some t.d, x].set 3 (some (.int (lo : Int)))) = [a, some (.int k), some t.d, some (.int (lo : Int))] from rfl]
    rw [show ((lo : Int) + 1) = ((lo + 1 : Nat) : Int) by omega]
    cases hf : isFork t with
    | false =>
      have eb : leB [a, some (.int k), some t.d, some (.int (lo : Int))] = .nx [a, some (.int k), some t.d, some (.int (lo : Int))] := by
        simp_arith [leB, ix_tag, eq_fork, hf]
      rw [eb]
      simp only
      have h0 : ht t ≤ n := by cases t <;> first | exact Nat.zero_le _ | cases hf
      obtain ⟨x', e⟩ := le_loop n (lo + 1) t (some (.int (lo : Int))) (by omega) h0
      refine ⟨x', ?_⟩
      rw [e, (nofork_way hf n k).2, (nofork_way hf (n + 1) k).2]
    | true =>
      cases t with
      | fork m l r =>
        have e0 : ht (.fork m l r) = max (ht l) (ht r) + 1 := rfl
        have hbit : M__law_bit [.int k, .int (lo : Int)] = .ok (.int (bi k (15 - lo))) := law_bit (by omega)
        have e15 : 15 - lo = n := by omega
        rw [e15] at hbit
        obtain ⟨x', e⟩ := le_loop n (lo + 1) (if bi k n = 0 then l else r) (some (.int (lo : Int))) (by omega) (by split <;> omega)
        refine ⟨x', ?_⟩
        have ei : opIx (T.fork m l r).d (.int (2 + bi k n)) = some (if bi k n = 0 then l else r).d := by
          rcases bi01 k n with z | z <;> rw [z] <;> rfl
        have eb : leB [a, some (.int k), some (T.fork m l r).d, some (.int (lo : Int))] = .nx [a, some (.int k), some (if bi k n = 0 then l else r).d, some (.int (lo : Int))] := by
          simp_arith [leB, ix_tag, eq_fork, hf, hbit, ei]
        rw [eb]
        exact e
      | _ => cases hf
theorem law_end {t : T} {k : Int} (h : ht t ≤ 16) : M__law_end [t.d, .int k] = .ok (endT 16 t k).d := by
  obtain ⟨x', e⟩ := le_loop (a := some t.d) (k := k) 16 0 t none rfl h
  have ed : diR1 (dC (.int 17)) [some t.d, some (.int k), some t.d, none] = .ok (rg ((0 : Nat) : Int) (16 + 1) 1) := x_diR1 (n := 17) rfl (by decide)
  unfold M__law_end
  refine def2_rt (s := [some t.d, some (.int k), none, none]) rfl ?_
  rw [b_le]
  exact (sq_nx (s1 := [some t.d, some (.int k), some t.d, none]) rfl).trans ((sq_nx ((x_sFor ed).trans e)).trans rfl)
theorem law_flag {x y : Bool} : M__law_flag [.bl x, .bl y] = .ok (.bl (x == y)) := by cases x <;> cases y <;> rfl
end K49
/-! GV: the law tries. -/
namespace K49
open DL
open PySem (Str)
open Lean in
local macro_rules
  | `(tactic| simp_arith [$ls,*]) => `(tactic| simp only [x_def1, x_def2, x_def3, x_def4, x_def5, List.cons_append, List.nil_append, List.replicate, Nat.reduceSub, List.map_cons, List.map_nil, x_sSq, x_sIf, x_sRet, x_sE, x_sAsN, x_dV0, x_dVs, x_dC, x_d1, x_d2, x_dCall, x_dCallF, x_daC, x_daN, rb_ok, x_ofO_some, x_dB, x_boolR, x_dTr, x_dtAnd, x_dtOr, x_dtNot, x_dAnd, x_dNot, x_dIfE, x_dChain, x_sNx, x_sApp, x_ownL0, x_ownLs, x_ownD0, x_ownDs, x_sPut, x_sRai, List.set_cons_zero, List.set_cons_succ, Bool.not_true, Bool.not_false, Bool.false_eq_true, if_true, if_false, x_dTup, x_dLst, sl0, sl1, sl2, sl3, sl4, o_add, o_sub, o_eq, o_ne, o_lt, o_le, o_gt, o_ge, o_lenL, o_lenT, o_trB, o_trL, o_trT, o_int, $ls,*])

def tyA : DS := (sSq (sIf (dB (d2 opIs (dV 2) (dC .non))) (sSq (sRet (dTup (daC (dC (.str "told")) (daC (dCall M_get (daC (dV 0) (daC (dV 1) daN))) daN))))
  sNx) sNx)
  (sSq (sRet (dTup (daC (dC (.str "told")) (daC (dCall M_put (daC (dV 0) (daC (dV 1) (daC (dV 2) daN)))) daN))))
  sNx))
def tyH : Err → DS := fun x => (sSq (sIf (dB (xIs x "Missing")) (sSq (sRet (dTup (daC (dC (.str "missing")) (daC (xFlF x "key") daN)))) sNx) sNx) sNx)
def tyL : List (Str × List Str) := [("Missing", ["key"]), ("NoKey", []), ("NoTree", []), ("NoValue", [])]
theorem b_ty : b__law_try = sSq (sTryF 3 tyL tyA tyH) (sSq (sRet (dTup (daC (dC (.str "wrong")) (daC (dC .non) daN)))) sNx) := (rfl)
theorem ty_ok {a b c d : D} (h : tyA [some a, some b, some c, none] = .rt d) : M__law_try [a, b, c] = .ok d := by
  unfold M__law_try
  refine def3_rt (s := [some a, some b, some c, none]) rfl ?_
  rw [b_ty]
  refine sq_rt ?_
  unfold sTryF
  rw [h]
theorem ty_er {a c : D} {k : Int} (h : tyA [some a, some (.int k), some c, none] = .er (eMi k) [some a, some (.int k), some c, none]) : M__law_try [a, .int k, c] = .ok (.tup [.str "missing", .int k]) := by
  unfold M__law_try
  refine def3_rt (s := [some a, some (.int k), some c, none]) rfl ?_
  rw [b_ty]
  refine sq_rt ?_
  unfold sTryF
  rw [h]
  rfl
theorem is_non (i : Int) : opIs (.int i) .non = some (.bl false) := (rfl)
theorem try_get {t : T} {k : Int} (h : W16 t) (hk : Spot k) (hc : hid (endT 16 t k) k = false) : M__law_try [t.d, .int k, .non] = .ok (.tup [.str "told", vlT (endT 16 t k) k]) := by
  refine ty_ok ?_
  have e : opIs .non .non = some (.bl true) := rfl
  simp_arith [tyA, e, get_w h hk hc]
theorem try_gmiss {t : T} {k : Int} (h : W16 t) (hk : Spot k) (hc : hid (endT 16 t k) k = true) : M__law_try [t.d, .int k, .non] = .ok (.tup [.str "missing", .int k]) := by
  refine ty_er ?_
  have e : opIs .non .non = some (.bl true) := rfl
  simp_arith [tyA, e, get_miss h hk hc, rb_err]
theorem try_put {t : T} {k i : Int} (h : W16 t) (hk : Spot k) (hv : VV (.int i)) (hc : isCut (endT 16 t k) = false) : M__law_try [t.d, .int k, .int i] = .ok (.tup [.str "told", (chR 16 t k (.int i)).d]) := by
  refine ty_ok ?_
  simp_arith [tyA, is_non, put_w h hk hv hc]
theorem try_pmiss {t : T} {k i : Int} (h : W16 t) (hk : Spot k) (hv : VV (.int i)) (hc : isCut (endT 16 t k) = true) : M__law_try [t.d, .int k, .int i] = .ok (.tup [.str "missing", .int k]) := by
  refine ty_er ?_
  simp_arith [tyA, is_non, put_miss h hk hv hc, rb_err]
end K49
/-! GX: small things for the laws. -/
namespace K49
open DL
open PySem (Str)
open Lean in
local macro_rules
  | `(tactic| simp_arith [$ls,*]) => `(tactic| simp only [x_def1, x_def2, x_def3, x_def4, x_def5, List.cons_append, List.nil_append, List.replicate, Nat.reduceSub, List.map_cons, List.map_nil, x_sSq, x_sIf, x_sRet, x_sE, x_sAsN, x_dV0, x_dVs, x_dC, x_d1, x_d2, x_dCall, x_dCallF, x_daC, x_daN, rb_ok, x_ofO_some, x_dB, x_boolR, x_dTr, x_dtAnd, x_dtOr, x_dtNot, x_dAnd, x_dNot, x_dIfE, x_dChain, x_sNx, x_sApp, x_ownL0, x_ownLs, x_ownD0, x_ownDs, x_sPut, x_sRai, List.set_cons_zero, List.set_cons_succ, Bool.not_true, Bool.not_false, Bool.false_eq_true, if_true, if_false, x_dTup, x_dLst, sl0, sl1, sl2, sl3, sl4, o_add, o_sub, o_eq, o_ne, o_lt, o_le, o_gt, o_ge, o_lenL, o_lenT, o_trB, o_trL, o_trT, o_int, $ls,*])

theorem o_isnT : opIsN (.bl true) (.bl true) = some (.bl false) := (rfl)
theorem o_isnF : opIsN (.bl false) (.bl false) = some (.bl false) := (rfl)
theorem x_dGet2 {a b c : DE} {s : DSt} {kv : List (Key × D)} {k z : D} {kk : Key} (h : a s = .ok (.dct kv)) (h2 : b s = .ok k) (h3 : keyOf k = some kk) (h4 : c s = .ok z) : dGet2 a b c s = .ok ((lk kv kk).getD z) := by
  unfold dGet2
  rw [h, rb_ok, if_pos (show (D.dct kv).isDct = true from rfl), h2, rb_ok, h4, rb_ok]
  unfold mGet2
  simp only [h3]
  rfl
theorem x_sDel {i : Nat} {a : DE} {s : DSt} {kv : List (Key × D)} {k w : D} {kk : Key} (h : ownD s i = some kv) (h2 : a s = .ok k) (h3 : keyOf k = some kk) (h4 : lk kv kk = some w) : sDel i a s = .nx (s.set i (some (.dct (dl kv kk)))) := by
  unfold sDel
  rw [h]
  simp only [h2, h3, h4]
theorem x_dOr {a b : DE} {s : DSt} : dOr a b s = (a s).bind fun x => match x with
  | .bl true => .ok (.bl true)
  | .bl false => b s
  | _ => .stuck := (rfl)
theorem vv0 : VV (.int 0) := .inl ⟨0, rfl, by decide, by decide⟩
theorem dl_pt {kd : List (Key × D)} {k : Key} {v : D} : dl (pt kd k v) k = dl kd k := by
  unfold pt
  split
  · unfold dl
    rename_i hh
    clear hh
    induction kd with
    | nil => rfl
    | cons x r ih =>
      rw [List.map_cons]
      by_cases h : x.1 = k
      · rw [if_pos h, List.filter_cons_of_neg (by simp [h]), List.filter_cons_of_neg (by simp [h]), ih]
      · rw [if_neg h, List.filter_cons_of_pos (by simp [h]), List.filter_cons_of_pos (by simp [h]), ih]
  · unfold dl
    rw [List.filter_append, List.filter_cons_of_neg (by simp), List.filter_nil, List.append_nil]
/-- the dict with k put to i, taken out for 0 -/
def setZ (kd : List (Key × D)) (k i : Int) : List (Key × D) := if i = 0 then dl kd (.inl k) else pt kd (.inl k) (.int i)
theorem lv_int {i : Int} (h : 1 ≤ i) (h2 : i ≤ 70000) : LV (.int i) := .inl ⟨i, rfl, h, by omega⟩
theorem vv_int {i : Int} (h : 0 ≤ i) (h2 : i ≤ 70000) : VV (.int i) := .inl ⟨i, rfl, h, by omega⟩
theorem km_setZ {kd : List (Key × D)} {n : Nat} (h : KM kd n) {k i : Int} (hk : Spot k) (h0 : 0 ≤ i) (h1 : i ≤ 70000) : KM (setZ kd k i) (n + 1) := by
  unfold setZ
  split
  · have := h.dl (.inl k)
    exact ⟨this.kn, this.ok, Nat.le_trans this.len (by omega)⟩
  · exact h.pt hk (lv_int (by omega) h1)
theorem srt_setZ {kd : List (Key × D)} {n : Nat} (h : KM kd n) {k i : Int} (hk : Spot k) (h0 : 0 ≤ i) (h1 : i ≤ 70000) : srt (setZ kd k i) = updP k (.int i) (srt kd) := by
  unfold setZ
  split
  · rename_i e; subst e; exact h.srt_dl
  · exact h.srt_pt hk (lv_int (by omega) h1)
theorem zl_int {i : Int} (h0 : 0 ≤ i) (h1 : i ≤ 70000) : ZL (.int i) := fun z => lv_int (by
  have : (i == 0) = false := z
  rw [beq_eq_false_iff_ne] at this
  omega) h1
theorem chR_cn {ps : PL} (h : Mp ps) {k : Int} (hk : Spot k) (v : D) : chR 16 (cn 16 ps) k v = cn 16 (updP k v ps) := by
  rw [← chT_chR (mp_w16 h) (cut_cn h.sp.gd), chT_cn h.sp.gd (h.sp.at hk)]
theorem told_ok {z : Str} {v : D} (hz : sOk z = true) (h : v.okS = true) (h2 : v.dep = 0) : (D.tup [.str z, v]).okE = true := by
  unfold D.okE
  simp [D.okS, D.okSs, D.dep, D.deps, hz, h, h2]
theorem lk_val {kd : List (Key × D)} {n : Nat} (h : KM kd n) (k : Key) : (((lk kd k).getD (.int 0)).okS = true ∧ ((lk kd k).getD (.int 0)).dep = 0) := by
  cases e : lk kd k with
  | none => exact ⟨rfl, rfl⟩
  | some v =>
    obtain ⟨_, _, _, lv⟩ := h.ok _ (lk_mem e)
    exact lv.okS
/-- the first two of a node -/
def hd2 : T → List D
  | .non => [.str "none"]
  | .leaf k _ => [.str "leaf", .int k]
  | .shut k _ => [.str "shut", .int k]
  | .cut s _ => [.str "cut", .int s]
  | .fork m _ _ => [.str "fork", .int m]
/-- what hides a key -/
theorem hid_eq (e : T) (k : Int) (hf : isFork e = false) : opEq (.tup (hd2 e)) (.tup [.str "shut", .int k]) = some (.bl (isShut e && kyL e == some k)) := by
  cases e with
  | non => rfl
  | leaf => rfl
  | cut => rfl
  | fork => cases hf
  | shut k' s =>
    show some (D.bl (D.eqv (.tup [.str "shut", .int k']) (.tup [.str "shut", .int k]))) = _
    have : D.eqv (.tup [.str "shut", .int k']) (.tup [.str "shut", .int k]) = (k' == k) := by
      simp only [D.eqv, D.p, D.ps, PySem.PyData.eqv, PySem.PyData.eqvAll, beq_self_eq_true, Bool.true_and, Bool.and_true]
    rw [this]
    congr 2
end K49
/-! KL49: law k49, its turns. -/
namespace K49
open DL
open PySem (Str)
open Lean in
local macro_rules
  | `(tactic| simp_arith [$ls,*]) => `(tactic| simp only [x_def1, x_def2, x_def3, x_def4, x_def5, List.cons_append, List.nil_append, List.replicate, Nat.reduceSub, List.map_cons, List.map_nil, x_sSq, x_sIf, x_sRet, x_sE, x_sAsN, x_dV0, x_dVs, x_dC, x_d1, x_d2, x_dCall, x_dCallF, x_daC, x_daN, rb_ok, x_ofO_some, x_dB, x_boolR, x_dTr, x_dtAnd, x_dtOr, x_dtNot, x_dAnd, x_dNot, x_dIfE, x_dChain, x_sNx, x_sApp, x_ownL0, x_ownLs, x_ownD0, x_ownDs, x_sPut, x_sRai, List.set_cons_zero, List.set_cons_succ, Bool.not_true, Bool.not_false, Bool.false_eq_true, if_true, if_false, x_dTup, x_dLst, sl0, sl1, sl2, sl3, sl4, o_add, o_sub, o_eq, o_ne, o_lt, o_le, o_gt, o_ge, o_lenL, o_lenT, o_trB, o_trL, o_trT, o_int, $ls,*])
def LP1 : DS := (sIf (dB (d2 opNe (d2 opIx (dV 13) (dC (.int 0))) (dC (.str "told")))) (sSq (sRet (dC (.bl false)))
  sNx) sNx)
def LP2 : DS := (sPut 6 (dV 9) (dV 10))
def LP3 : DS := (sIf (dB (d2 opEq (dV 10) (dC (.int 0)))) (sSq (sDel 6 (dV 9))
  sNx) sNx)
def LP4 : DS := (sAs (gN 5) (d2 opIx (dV 13) (dC (.int 1))))
def LP5 : DS := (sAs (gN 4) (dCall M_put (daC (dV 4) (daC (dV 9) (daC (dV 10) daN)))))
def LP6 : DS := (sIf (dtOr (dB (d2 opNe (dV 4) (dCall M__law_whole_tree (daC (dV 6) daN)))) (dB (d2 opNe (dCall M_root (daC (dV 5) (daC (dV 2) daN))) (dCall M__law_root (daC (dV 6) (daC (dV 2) daN)))))) (sSq (sRet (dC (.bl false)))
  sNx) sNx)
def LP7 : DS := (sIf (dB (d2 opIsN (dCall M_is_pruning (daC (dV 4) (daC (dV 5) (daC (dV 2) daN)))) (dC (.bl true)))) (sSq (sRet (dC (.bl false)))
  sNx) sNx)
def LPB : DS := sSq LP1 (sSq LP2 (sSq LP3 (sSq LP4 (sSq LP5 (sSq LP6 (sSq LP7 sNx))))))
def LT1 : DS := (sAs (gN 9) (d2 opIx (dV 7) (d2 opMulI (dC (.int 2)) (dV 8))))
def LT2 : DS := (sIf (dtAnd (dTr (dV 3)) (dB (d2 opGt (d2 opMod (d2 opIx (dV 7) (d2 opMulI (dC (.int 2)) (dV 8))) (dC (.int 5))) (dC (.int 0))))) (sSq (sAs (gN 9) (d2 opIx (dV 3) (d2 opMod (d2 opIx (dV 7) (d2 opMulI (dC (.int 2)) (dV 8))) (d1 fLen (dV 3)))))
  sNx) sNx)
def LT3 : DS := (sAs (gN 10) (d2 opIx (dLst (daC (dC .non) (daC (dC (.int 0)) (daC (d2 opAdd (dC (.int 1)) (d2 opIx (dV 7) (d2 opAdd (d2 opMulI (dC (.int 2)) (dV 8)) (dC (.int 1))))) daN)))) (d2 opMod (d2 opIx (dV 7) (d2 opAdd (d2 opMulI (dC (.int 2)) (dV 8)) (dC (.int 1)))) (dC (.int 3)))))
def LT4 : DS := (sAs (gN 11) (dCall M__law_end (daC (dV 5) (daC (dV 9) daN))))
def LT5 : DS := (sAs (gN 12) (dOr (d2 opEq (d2 opIx (dV 11) (dC (.int 0))) (dC (.str "cut"))) (d2 opEq (dSl (dV 11) doN (doS (dC (.int 2)))) (dTup (daC (dC (.str "shut")) (daC (dV 9) daN))))))
def LT6 : DS := (sIf (dtNot (dTr (dCall M__law_flag (daC (dCall M_opens (daC (dV 5) (daC (dV 9) daN))) (daC (dNot (dV 12)) daN))))) (sSq (sRet (dC (.bl false)))
  sNx) sNx)
def LT7 : DS := (sAs (gN 13) (dCall M__law_try (daC (dV 5) (daC (dV 9) (daC (dV 10) daN)))))
def LTc : DT := (dtOr (dB (d2 opEq (d2 opIx (dV 11) (dC (.int 0))) (dC (.str "cut")))) (dtAnd (dTr (dV 12)) (dB (d2 opIs (dV 10) (dC .non)))))
def LTm : DS := (sIf (dtOr (dB (d2 opNe (dV 13) (dTup (daC (dC (.str "missing")) (daC (dV 9) daN))))) (dB (d2 opIn (dV 9) (dV 3)))) (sSq (sRet (dC (.bl false)))
  sNx) sNx)
def LTn : DS := (sIf (dB (d2 opNe (dV 13) (dTup (daC (dC (.str "told")) (daC (dGet2 (dV 6) (dV 9) (dC (.int 0))) daN))))) (sSq (sRet (dC (.bl false)))
  sNx) sNx)
def LT8 : DS := sIf LTc (sSq LTm sNx) (sSq (sIf (dB (d2 opIs (dV 10) (dC .non))) (sSq LTn sNx) LPB) sNx)
def LTB : DS := sSq LT1 (sSq LT2 (sSq LT3 (sSq LT4 (sSq LT5 (sSq LT6 (sSq LT7 (sSq LT8 sNx)))))))
def LW1 : DS := (sAs (gN 1) (dCall M__law_map (daC (dCall M__law_at (daC (dV 0) (daC (dC (.int 0)) daN))) (daC (dCall M__law_at (daC (dV 0) (daC (dC (.int 1)) daN))) (daC (dC (.int 24)) daN)))))
def LW2 : DS := (sAs (gN 2) (dCall M__law_bits (daC (dCall M__law_at (daC (dV 0) (daC (dC (.int 2)) daN))) daN)))
def LW3 : DS := (sAs (gN 3) (dCall M__law_spots (daC (dCall M__law_at (daC (dV 0) (daC (dC (.int 3)) daN))) (daC (dV 1) (daC (dC (.int 8)) daN)))))
def LW4 : DS := (sAs (gN 4) (dCall M_led_tree (daC (d1 fTup (d1 fSortedIt (dV 1))) daN)))
def LW5 : DS := (sAs (gN 5) (dCall M_cut_for (daC (dV 4) (daC (dV 3) (daC (dV 2) daN)))))
def LW6 : DS := (sIf (dtOr (dB (d2 opNe (dV 5) (dCall M__law_cut (daC (dV 1) (daC (dV 3) (daC (dV 2) daN)))))) (dtOr (dB (d2 opNe (dCall M_root (daC (dV 5) (daC (dV 2) daN))) (dCall M_root (daC (dV 4) (daC (dV 2) daN))))) (dB (d2 opIsN (dCall M_is_pruning (daC (dV 4) (daC (dV 5) (daC (dV 2) daN)))) (dC (.bl true)))))) (sSq (sRet (dC (.bl false)))
  sNx) sNx)
def LW7 : DS := (sAs (gN 6) (d1 fDict (dV 1)))
def LW8 : DS := (sAs (gN 7) (dCall M__law_row (daC (dCall M__law_at (daC (dV 0) (daC (dC (.int 4)) daN))) (daC (dC (.int 24)) (daC (dC (.int 65536)) daN)))))
def LW9 : DS := sFor (diR1 (dC (.int 12))) (gN 8) LTB
def LW10 : DS := (sRet (d2 opEq (dCall M__law_try (daC (dV 4) (daC (dC (.int 0)) (daC (dC .non) daN)))) (dTup (daC (dC (.str "told")) (daC (dGet2 (dV 6) (dC (.int 0)) (dC (.int 0))) daN)))))
theorem b_LW : b_law = sSq LW1 (sSq LW2 (sSq LW3 (sSq LW4 (sSq LW5 (sSq LW6 (sSq LW7 (sSq LW8 (sSq LW9 (sSq LW10 sNx))))))))) := (rfl)

section
variable {a0 a1 a4 a5 a6 a7 a8 a9 a10 a11 a12 a13 : Option D} {kd : List (Key × D)} {b : Nat} {ks ms : List Int}
theorem lt1 {j : Nat} {x : Int} (hx : ms[2 * j]? = some x) {a2 a3 : Option D} : LT1 [a0, a1, a2, a3, a4, a5, a6, some (.lst (ms.map .int)), some (.int (j : Int)), a9, a10, a11, a12, a13] = .nx [a0, a1, a2, a3, a4, a5, a6, some (.lst (ms.map .int)), some (.int (j : Int)), some (.int x), a10, a11, a12, a13] := by
  have i1 : opIx (.lst (ms.map .int)) (.int (2 * (j : Int))) = some (.int x) := by
    rw [show 2 * (j : Int) = ((2 * j : Nat) : Int) by omega]
    exact o_ixL (map_get hx)
  simp_arith [LT1, m6, i1]
theorem lt2 {j : Nat} {x : Int} (hx : ms[2 * j]? = some x) (bx : 0 ≤ x ∧ x < 65536) (hk : ∀ s ∈ ks, Spot s) (hl : ks.length ≤ 1000) {a2 : Option D} : ∃ k, Spot k ∧ LT2 [a0, a1, a2, some (.tup (ks.map .int)), a4, a5, a6, some (.lst (ms.map .int)), some (.int (j : Int)), some (.int x), a10, a11, a12, a13] = .nx [a0, a1, a2, some (.tup (ks.map .int)), a4, a5, a6, some (.lst (ms.map .int)), some (.int (j : Int)), some (.int k), a10, a11, a12, a13] := by
  have i1 : opIx (.lst (ms.map .int)) (.int (2 * (j : Int))) = some (.int x) := by
    rw [show 2 * (j : Int) = ((2 * j : Nat) : Int) by omega]
    exact o_ixL (map_get hx)
  cases hks : ks with
  | nil =>
    subst hks
    refine ⟨x, bx, ?_⟩
    have e1 : (!([] : List D).isEmpty) = false := rfl
    simp_arith [LT2, e1]
  | cons s0 sr =>
    have e1 : (!(ks.map D.int).isEmpty) = true := by rw [hks]; rfl
    rw [← hks]
    cases z : decide (0 < x % 5) with
    | false =>
      refine ⟨x, bx, ?_⟩
      simp_arith [LT2, e1, m6, i1, d5, z]
    | true =>
      have hp : (0 : Int) < ((ks.map D.int).length : Int) := by rw [hks, List.length_map, List.length_cons]; omega
      have r0 := Int.emod_nonneg x (show ((ks.map D.int).length : Int) ≠ 0 by omega)
      have r1 := Int.emod_lt_of_pos x hp
      obtain ⟨t, ht⟩ : ∃ t : Nat, x % ((ks.map D.int).length : Int) = (t : Int) := ⟨(x % ((ks.map D.int).length : Int)).toNat, by rw [Int.toNat_of_nonneg r0]⟩
      have htl : t < ks.length := by rw [ht, List.length_map] at r1; omega
      have hg : ks[t]? = some ks[t] := List.getElem?_eq_getElem htl
      refine ⟨ks[t], hk _ (List.getElem_mem htl), ?_⟩
      have i2 : opIx (.tup (ks.map .int)) (.int (t : Int)) = some (.int ks[t]) := o_ixT (map_get hg)
      simp_arith [LT2, e1, m6, i1, d5, z, o_mod hp, ht, i2]
theorem lt3 {j : Nat} {y : Int} (hy : ms[2 * j + 1]? = some y) {a2 a3 : Option D} : ∃ v, (v = .non ∨ v = .int 0 ∨ v = .int (1 + y)) ∧ LT3 [a0, a1, a2, a3, a4, a5, a6, some (.lst (ms.map .int)), some (.int (j : Int)), a9, a10, a11, a12, a13] = .nx [a0, a1, a2, a3, a4, a5, a6, some (.lst (ms.map .int)), some (.int (j : Int)), a9, some v, a11, a12, a13] := by
  have i1 : opIx (.lst (ms.map .int)) (.int (2 * (j : Int) + 1)) = some (.int y) := by
    rw [show 2 * (j : Int) + 1 = ((2 * j + 1 : Nat) : Int) by omega]
    exact o_ixL (map_get hy)
  have h3 : y % 3 = 0 ∨ y % 3 = 1 ∨ y % 3 = 2 := by omega
  have sl : ([D.non, .int 0, .int (1 + y)].length ≤ SL) = True := eq_true (by show 3 ≤ 16777216; omega)
  rcases h3 with z | z | z
  · refine ⟨.non, .inl rfl, ?_⟩
    have i2 : opIx (.lst [.non, .int 0, .int (1 + y)]) (.int 0) = some .non := rfl
    simp_arith [LT3, m6, i1, d3, z, i2, sl]
  · refine ⟨.int 0, .inr (.inl rfl), ?_⟩
    have i2 : opIx (.lst [.non, .int 0, .int (1 + y)]) (.int 1) = some (.int 0) := rfl
    simp_arith [LT3, m6, i1, d3, z, i2, sl]
  · refine ⟨.int (1 + y), .inr (.inr rfl), ?_⟩
    have i2 : opIx (.lst [.non, .int 0, .int (1 + y)]) (.int 2) = some (.int (1 + y)) := rfl
    simp_arith [LT3, m6, i1, d3, z, i2, sl]
theorem lt4 {u : T} (h : ht u ≤ 16) {k : Int} {a2 a3 : Option D} : LT4 [a0, a1, a2, a3, a4, some u.d, a6, a7, a8, some (.int k), a10, a11, a12, a13] = .nx [a0, a1, a2, a3, a4, some u.d, a6, a7, a8, some (.int k), a10, some (endT 16 u k).d, a12, a13] := by
  simp_arith [LT4, law_end h]
theorem lt5 {e : T} {k : Int} (hf : isFork e = false) {a2 a3 : Option D} : LT5 [a0, a1, a2, a3, a4, a5, a6, a7, a8, some (.int k), a10, some e.d, a12, a13] = .nx [a0, a1, a2, a3, a4, a5, a6, a7, a8, some (.int k), a10, some e.d, some (.bl (hid e k)), a13] := by
  have hs : dSl (dV 11) doN (doS (dC (.int 2))) [a0, a1, a2, a3, a4, a5, a6, a7, a8, some (.int k), a10, some e.d, a12, a13] = .ok (.tup (hd2 e)) := by
    cases e <;> rfl
  have hh := hid_eq e k hf
  have hid' : hid e k = (isCut e || (isShut e && kyL e == some k)) := rfl
  cases z : isCut e with
  | true =>
    rw [hid', z]
    simp_arith [LT5, x_dOr, ix_tag, eqCut, z, Bool.true_or]
  | false =>
    rw [hid', z]
    simp_arith [LT5, x_dOr, ix_tag, eqCut, z, hs, hh, Bool.false_or]
theorem lt6 {u : T} (h : W16 u) {k : Int} (hk : Spot k) {a2 a3 : Option D} : LT6 [a0, a1, a2, a3, a4, some u.d, a6, a7, a8, some (.int k), a10, a11, some (.bl (hid (endT 16 u k) k)), a13] = .nx [a0, a1, a2, a3, a4, some u.d, a6, a7, a8, some (.int k), a10, a11, some (.bl (hid (endT 16 u k) k)), a13] := by
  have z : ∀ q : Bool, (q == q) = true := fun q => beq_self_eq_true q
  simp_arith [LT6, opens_w h hk, law_flag, z]
theorem lt7 {u : T} {k : Int} {v d : D} (h : M__law_try [u.d, .int k, v] = .ok d) {a2 a3 : Option D} : LT7 [a0, a1, a2, a3, a4, some u.d, a6, a7, a8, some (.int k), some v, a11, a12, a13] = .nx [a0, a1, a2, a3, a4, some u.d, a6, a7, a8, some (.int k), some v, a11, a12, some d] := by
  simp_arith [LT7, h]
theorem ltc {e : T} {v : D} {q r : Bool} (hv : opIs v .non = some (.bl r)) {a2 a3 : Option D} : LTc [a0, a1, a2, a3, a4, a5, a6, a7, a8, a9, some v, some e.d, some (.bl q), a13] = .ok (isCut e || (q && r)) := by
  cases z : isCut e with
  | true => simp_arith [LTc, ix_tag, eqCut, z, Bool.true_or]
  | false => cases q <;> simp_arith [LTc, ix_tag, eqCut, z, hv, Bool.false_or, Bool.true_and, Bool.false_and]
/-- nothing told -/
theorem lt8m {e : T} {k : Int} {v : D} {q r : Bool} (hv : opIs v .non = some (.bl r)) (hc : (isCut e || (q && r)) = true) (hn : k ∉ ks) {a2 : Option D} :
    LT8 [a0, a1, a2, some (.tup (ks.map .int)), a4, a5, a6, a7, a8, some (.int k), some v, some e.d, some (.bl q), some (.tup [.str "missing", .int k])] = .nx [a0, a1, a2, some (.tup (ks.map .int)), a4, a5, a6, a7, a8, some (.int k), some v, some e.d, some (.bl q), some (.tup [.str "missing", .int k])] := by
  have n1 : opNe (.tup [.str "missing", .int k]) (.tup [.str "missing", .int k]) = some (.bl false) := ne_self (told_ok (sOk_of _) rfl rfl)
  have n2 : lsK ks k = false := decide_eq_false hn
  have s : LTm [a0, a1, a2, some (.tup (ks.map .int)), a4, a5, a6, a7, a8, some (.int k), some v, some e.d, some (.bl q), some (.tup [.str "missing", .int k])] = .nx [a0, a1, a2, some (.tup (ks.map .int)), a4, a5, a6, a7, a8, some (.int k), some v, some e.d, some (.bl q), some (.tup [.str "missing", .int k])] := by
    simp_arith [LTm, n1, o_inI, n2]
  have c := ltc (a0 := a0) (a1 := a1) (a2 := a2) (a3 := some (.tup (ks.map .int))) (a4 := a4) (a5 := a5) (a6 := a6) (a7 := a7) (a8 := a8) (a9 := some (.int k)) (a13 := some (.tup [.str "missing", .int k])) (e := e) (q := q) hv
  rw [hc] at c
  unfold LT8
  rw [x_sIf, c]
  simp only
  rw [sq_nx s]
  rfl
/-- a value told -/
theorem lt8n {e : T} {k : Int} {q : Bool} {n : Nat} (h : KM kd n) (hc : isCut e = false) (hq : q = false) {a2 a3 : Option D} :
    LT8 [a0, a1, a2, a3, a4, a5, some (.dct kd), a7, a8, some (.int k), some .non, some e.d, some (.bl q), some (.tup [.str "told", (lk kd (.inl k)).getD (.int 0)])] = .nx [a0, a1, a2, a3, a4, a5, some (.dct kd), a7, a8, some (.int k), some .non, some e.d, some (.bl q), some (.tup [.str "told", (lk kd (.inl k)).getD (.int 0)])] := by
  have lv := lk_val h (.inl k)
  have g : dGet2 (dV 6) (dV 9) (dC (.int 0)) [a0, a1, a2, a3, a4, a5, some (.dct kd), a7, a8, some (.int k), some .non, some e.d, some (.bl q), some (.tup [.str "told", (lk kd (.inl k)).getD (.int 0)])] = .ok ((lk kd (.inl k)).getD (.int 0)) := x_dGet2 rfl rfl rfl rfl
  generalize (lk kd (.inl k)).getD (.int 0) = v at *
  have n1 : opNe (.tup [.str "told", v]) (.tup [.str "told", v]) = some (.bl false) := ne_self (told_ok (sOk_of _) lv.1 lv.2)
  have s : LTn [a0, a1, a2, a3, a4, a5, some (.dct kd), a7, a8, some (.int k), some .non, some e.d, some (.bl q), some (.tup [.str "told", v])] = .nx [a0, a1, a2, a3, a4, a5, some (.dct kd), a7, a8, some (.int k), some .non, some e.d, some (.bl q), some (.tup [.str "told", v])] := by
    simp_arith [LTn, g, n1]
  have hv : opIs .non .non = some (.bl true) := rfl
  have c := ltc (a0 := a0) (a1 := a1) (a2 := a2) (a3 := a3) (a4 := a4) (a5 := a5) (a6 := some (.dct kd)) (a7 := a7) (a8 := a8) (a9 := some (.int k)) (a13 := some (.tup [.str "told", v])) (e := e) (q := q) hv
  rw [hc, hq, Bool.false_or, Bool.false_and] at c
  rw [hq] at s ⊢
  unfold LT8
  rw [x_sIf, c]
  simp only
  refine (sq_nx (s1 := [a0, a1, a2, a3, a4, a5, some (.dct kd), a7, a8, some (.int k), some .non, some e.d, some (.bl false), some (.tup [.str "told", v])]) ?_).trans rfl
  rw [x_sIf]
  simp_arith [hv]
  rw [s]
end
end K49
/-! KM49: law k49 holds, plain. -/
namespace K49
open DL
open PySem (Str)
open Lean in
local macro_rules
  | `(tactic| simp_arith [$ls,*]) => `(tactic| simp only [x_def1, x_def2, x_def3, x_def4, x_def5, List.cons_append, List.nil_append, List.replicate, Nat.reduceSub, List.map_cons, List.map_nil, x_sSq, x_sIf, x_sRet, x_sE, x_sAsN, x_dV0, x_dVs, x_dC, x_d1, x_d2, x_dCall, x_dCallF, x_daC, x_daN, rb_ok, x_ofO_some, x_dB, x_boolR, x_dTr, x_dtAnd, x_dtOr, x_dtNot, x_dAnd, x_dNot, x_dIfE, x_dChain, x_sNx, x_sApp, x_ownL0, x_ownLs, x_ownD0, x_ownDs, x_sPut, x_sRai, List.set_cons_zero, List.set_cons_succ, Bool.not_true, Bool.not_false, Bool.false_eq_true, if_true, if_false, x_dTup, x_dLst, sl0, sl1, sl2, sl3, sl4, o_add, o_sub, o_eq, o_ne, o_lt, o_le, o_gt, o_ge, o_lenL, o_lenT, o_trB, o_trL, o_trT, o_int, $ls,*])

section
variable {a0 a1 a4 a5 a6 a7 a8 a9 a10 a11 a12 a13 : Option D} {kd : List (Key × D)} {b : Nat} {ks ms : List Int}
theorem lp_all (h4 : 4 ≤ b) (hb : b ≤ 60) {n : Nat} (h : KM kd n) (hn : n < 60) {u : T} (hu : W16 u) (hp : Pr b (cn 16 (srt kd)) u) {k i : Int} (hk : Spot k) (h0 : 0 ≤ i) (h1 : i ≤ 70000) (hc : isCut (endT 16 u k) = false) {a3 : Option D} :
    LPB [a0, a1, some (.int (b : Int)), a3, some (cn 16 (srt kd)).d, some u.d, some (.dct kd), a7, a8, some (.int k), some (.int i), a11, a12, some (.tup [.str "told", (chR 16 u k (.int i)).d])] =
      .nx [a0, a1, some (.int (b : Int)), a3, some (cn 16 (srt (setZ kd k i))).d, some (chR 16 u k (.int i)).d, some (.dct (setZ kd k i)), a7, a8, some (.int k), some (.int i), a11, a12, some (.tup [.str "told", (chR 16 u k (.int i)).d])] ∧
    W16 (chR 16 u k (.int i)) ∧ Pr b (cn 16 (srt (setZ kd k i))) (chR 16 u k (.int i)) := by
  have hm := h.mp (by omega)
  have h' := km_setZ h hk h0 h1
  have hm' := h'.mp (by omega)
  have hs := srt_setZ h hk h0 h1
  have hu' : W16 (chR 16 u k (.int i)) := chR_wf hu (spot0 hk) hk.1 (zl_int h0 h1) hc
  have hp' := pr_ch (v := .int i) hp hc
  rw [chR_cn hm hk, ← hs] at hp'
  refine ⟨?_, hu', hp'⟩
  have hput := put hm hk (vv_int h0 h1)
  rw [← hs] at hput
  have hw := law_whole_tree (h'.sit (by omega)) hm'.sp.gd hm'.len
  have hr := law_root hb (h'.sit (by omega)) hm'.sp.gd hm'.ppv hm'.len
  have hru := root_w h4 hb hu'
  have er : rD b (chR 16 u k (.int i)) = rD b (cn 16 (srt (setZ kd k i))) := by
    unfold rD
    rw [(pr_rs hp').1, (pr_rs hp').2]
  rw [er] at hru
  have hip := is_pruning h4 hb (mp_w16 hm') hu' hp'
  generalize hU : chR 16 u k (.int i) = u' at *
  generalize hK : setZ kd k i = kd' at *
  have s1 : LP1 [a0, a1, some (.int (b : Int)), a3, some (cn 16 (srt kd)).d, some u.d, some (.dct kd), a7, a8, some (.int k), some (.int i), a11, a12, some (.tup [.str "told", u'.d])] = .nx [a0, a1, some (.int (b : Int)), a3, some (cn 16 (srt kd)).d, some u.d, some (.dct kd), a7, a8, some (.int k), some (.int i), a11, a12, some (.tup [.str "told", u'.d])] := by
    have e1 : opIx (.tup [.str "told", u'.d]) (.int 0) = some (.str "told") := rfl
    have e2 : opNe (.str "told") (.str "told") = some (.bl false) := rfl
    simp_arith [LP1, e1, e2]
  have s2 : LP2 [a0, a1, some (.int (b : Int)), a3, some (cn 16 (srt kd)).d, some u.d, some (.dct kd), a7, a8, some (.int k), some (.int i), a11, a12, some (.tup [.str "told", u'.d])] = .nx [a0, a1, some (.int (b : Int)), a3, some (cn 16 (srt kd)).d, some u.d, some (.dct (pt kd (.inl k) (.int i))), a7, a8, some (.int k), some (.int i), a11, a12, some (.tup [.str "told", u'.d])] := by
    have hlt : kd.length < SL := by have := h.len; show _ < 16777216; omega
    have hky : keyOf (.int k) = some (.inl k) := rfl
    simp_arith [LP2, hky, if_pos hlt]
  have s3 : LP3 [a0, a1, some (.int (b : Int)), a3, some (cn 16 (srt kd)).d, some u.d, some (.dct (pt kd (.inl k) (.int i))), a7, a8, some (.int k), some (.int i), a11, a12, some (.tup [.str "told", u'.d])] = .nx [a0, a1, some (.int (b : Int)), a3, some (cn 16 (srt kd)).d, some u.d, some (.dct kd'), a7, a8, some (.int k), some (.int i), a11, a12, some (.tup [.str "told", u'.d])] := by
    have sd : sDel 6 (dV 9) [a0, a1, some (.int (b : Int)), a3, some (cn 16 (srt kd)).d, some u.d, some (.dct (pt kd (.inl k) (.int i))), a7, a8, some (.int k), some (.int i), a11, a12, some (.tup [.str "told", u'.d])] = .nx [a0, a1, some (.int (b : Int)), a3, some (cn 16 (srt kd)).d, some u.d, some (.dct (dl (pt kd (.inl k) (.int i)) (.inl k))), a7, a8, some (.int k), some (.int i), a11, a12, some (.tup [.str "told", u'.d])] :=
      x_sDel (w := .int i) rfl rfl rfl (by rw [lk_pt, if_pos rfl])
    cases z : (i == 0) with
    | true =>
      have z' := eq_of_beq z
      have : kd' = dl (pt kd (.inl k) (.int i)) (.inl k) := by
        rw [← hK, dl_pt]
        unfold setZ
        rw [if_pos z']
      rw [this]
      simp_arith [LP3, z, sd]
    | false =>
      have z' := ne_of_beq_false z
      have : kd' = pt kd (.inl k) (.int i) := by
        rw [← hK]
        unfold setZ
        rw [if_neg z']
      rw [this]
      simp_arith [LP3, z]
  have s4 : LP4 [a0, a1, some (.int (b : Int)), a3, some (cn 16 (srt kd)).d, some u.d, some (.dct kd'), a7, a8, some (.int k), some (.int i), a11, a12, some (.tup [.str "told", u'.d])] = .nx [a0, a1, some (.int (b : Int)), a3, some (cn 16 (srt kd)).d, some u'.d, some (.dct kd'), a7, a8, some (.int k), some (.int i), a11, a12, some (.tup [.str "told", u'.d])] := by
    have e1 : opIx (.tup [.str "told", u'.d]) (.int 1) = some u'.d := rfl
    simp_arith [LP4, e1]
  have s5 : LP5 [a0, a1, some (.int (b : Int)), a3, some (cn 16 (srt kd)).d, some u'.d, some (.dct kd'), a7, a8, some (.int k), some (.int i), a11, a12, some (.tup [.str "told", u'.d])] = .nx [a0, a1, some (.int (b : Int)), a3, some (cn 16 (srt kd')).d, some u'.d, some (.dct kd'), a7, a8, some (.int k), some (.int i), a11, a12, some (.tup [.str "told", u'.d])] := by
    simp_arith [LP5, hput]
  have s6 : LP6 [a0, a1, some (.int (b : Int)), a3, some (cn 16 (srt kd')).d, some u'.d, some (.dct kd'), a7, a8, some (.int k), some (.int i), a11, a12, some (.tup [.str "told", u'.d])] = .nx [a0, a1, some (.int (b : Int)), a3, some (cn 16 (srt kd')).d, some u'.d, some (.dct kd'), a7, a8, some (.int k), some (.int i), a11, a12, some (.tup [.str "told", u'.d])] := by
    simp_arith [LP6, hw, ne_self hm'.okE, hru, hr, ne_self (rD_ok b _)]
  have s7 : LP7 [a0, a1, some (.int (b : Int)), a3, some (cn 16 (srt kd')).d, some u'.d, some (.dct kd'), a7, a8, some (.int k), some (.int i), a11, a12, some (.tup [.str "told", u'.d])] = .nx [a0, a1, some (.int (b : Int)), a3, some (cn 16 (srt kd')).d, some u'.d, some (.dct kd'), a7, a8, some (.int k), some (.int i), a11, a12, some (.tup [.str "told", u'.d])] := by
    simp_arith [LP7, hip, o_isnT]
  unfold LPB
  rw [sq_nx s1, sq_nx s2, sq_nx s3, sq_nx s4, sq_nx s5, sq_nx s6, sq_nx s7]
  rfl
/-- what holds between turns -/
structure Inv (b : Nat) (ks : List Int) (kd : List (Key × D)) (n : Nat) (u : T) : Prop where
  km : KM kd n
  w : W16 u
  pr : Pr b (cn 16 (srt kd)) u
  op : ∀ s ∈ ks, hid (endT 16 u s) s = false
theorem turn (h4 : 4 ≤ b) (hb : b ≤ 60) (hks : ∀ s ∈ ks, Spot s) (hkl : ks.length ≤ 1000) {n j : Nat} (hn : n < 60) {u : T} (iv : Inv b ks kd n u) {x y : Int} (hx : ms[2 * j]? = some x) (hy : ms[2 * j + 1]? = some y) (bx : 0 ≤ x ∧ x < 65536) (by' : 0 ≤ y ∧ y < 65536) :
    ∃ kd' u' s9 s10 s11 s12 s13, LTB [a0, a1, some (.int (b : Int)), some (.tup (ks.map .int)), some (cn 16 (srt kd)).d, some u.d, some (.dct kd), some (.lst (ms.map .int)), some (.int (j : Int)), a9, a10, a11, a12, a13] =
      .nx [a0, a1, some (.int (b : Int)), some (.tup (ks.map .int)), some (cn 16 (srt kd')).d, some u'.d, some (.dct kd'), some (.lst (ms.map .int)), some (.int (j : Int)), s9, s10, s11, s12, s13] ∧ Inv b ks kd' (n + 1) u' := by
  obtain ⟨k, hk, s2⟩ := lt2 (a0 := a0) (a1 := a1) (a4 := some (cn 16 (srt kd)).d) (a5 := some u.d) (a6 := some (.dct kd)) (a10 := a10) (a11 := a11) (a12 := a12) (a13 := a13) (a2 := some (.int (b : Int))) hx bx hks hkl
  have s1 := lt1 (a0 := a0) (a1 := a1) (a4 := some (cn 16 (srt kd)).d) (a5 := some u.d) (a6 := some (.dct kd)) (a9 := a9) (a10 := a10) (a11 := a11) (a12 := a12) (a13 := a13) (a2 := some (.int (b : Int))) (a3 := some (.tup (ks.map .int))) hx
  obtain ⟨v, hv, s3⟩ := lt3 (a0 := a0) (a1 := a1) (a4 := some (cn 16 (srt kd)).d) (a5 := some u.d) (a6 := some (.dct kd)) (a9 := some (.int k)) (a10 := a10) (a11 := a11) (a12 := a12) (a13 := a13) (a2 := some (.int (b : Int))) (a3 := some (.tup (ks.map .int))) hy
  have s4 := lt4 (a0 := a0) (a1 := a1) (a4 := some (cn 16 (srt kd)).d) (a6 := some (.dct kd)) (a7 := some (.lst (ms.map .int))) (a8 := some (.int (j : Int))) (a10 := some v) (a11 := a11) (a12 := a12) (a13 := a13) (a2 := some (.int (b : Int))) (a3 := some (.tup (ks.map .int))) (k := k) iv.w.ht
  have s5 := lt5 (a0 := a0) (a1 := a1) (a4 := some (cn 16 (srt kd)).d) (a5 := some u.d) (a6 := some (.dct kd)) (a7 := some (.lst (ms.map .int))) (a8 := some (.int (j : Int))) (a10 := some v) (a12 := a12) (a13 := a13) (a2 := some (.int (b : Int))) (a3 := some (.tup (ks.map .int))) (k := k) (end_nofork 16 u k iv.w.ht)
  have s6 := lt6 (a0 := a0) (a1 := a1) (a4 := some (cn 16 (srt kd)).d) (a6 := some (.dct kd)) (a7 := some (.lst (ms.map .int))) (a8 := some (.int (j : Int))) (a10 := some v) (a11 := some (endT 16 u k).d) (a13 := a13) (a2 := some (.int (b : Int))) (a3 := some (.tup (ks.map .int))) iv.w hk
  have s7 : ∀ d, M__law_try [u.d, .int k, v] = .ok d → _ := fun d hd => lt7 (a0 := a0) (a1 := a1) (a4 := some (cn 16 (srt kd)).d) (a6 := some (.dct kd)) (a7 := some (.lst (ms.map .int))) (a8 := some (.int (j : Int))) (a11 := some (endT 16 u k).d) (a12 := some (.bl (hid (endT 16 u k) k))) (a13 := a13) (a2 := some (.int (b : Int))) (a3 := some (.tup (ks.map .int))) hd
  have all : ∀ d s, M__law_try [u.d, .int k, v] = .ok d → LT8 [a0, a1, some (.int (b : Int)), some (.tup (ks.map .int)), some (cn 16 (srt kd)).d, some u.d, some (.dct kd), some (.lst (ms.map .int)), some (.int (j : Int)), some (.int k), some v, some (endT 16 u k).d, some (.bl (hid (endT 16 u k) k)), some d] = .nx s →
      LTB [a0, a1, some (.int (b : Int)), some (.tup (ks.map .int)), some (cn 16 (srt kd)).d, some u.d, some (.dct kd), some (.lst (ms.map .int)), some (.int (j : Int)), a9, a10, a11, a12, a13] = .nx s := fun d s hd h8 => by
    unfold LTB
    rw [sq_nx s1, sq_nx s2, sq_nx s3, sq_nx s4, sq_nx s5, sq_nx s6, sq_nx (s7 d hd), sq_nx h8]
    rfl
  have stay : Inv b ks kd (n + 1) u := ⟨⟨iv.km.kn, iv.km.ok, Nat.le_trans iv.km.len (by omega)⟩, iv.w, iv.pr, iv.op⟩
  have hnot : hid (endT 16 u k) k = true → k ∉ ks := fun h hm => by rw [iv.op k hm] at h; cases h
  have hm := iv.km.mp (by omega)
  -- a put
  have doput : ∀ i : Int, 0 ≤ i → i ≤ 70000 → v = .int i → isCut (endT 16 u k) = false → ∃ kd' u' s9 s10 s11 s12 s13, LTB [a0, a1, some (.int (b : Int)), some (.tup (ks.map .int)), some (cn 16 (srt kd)).d, some u.d, some (.dct kd), some (.lst (ms.map .int)), some (.int (j : Int)), a9, a10, a11, a12, a13] =
      .nx [a0, a1, some (.int (b : Int)), some (.tup (ks.map .int)), some (cn 16 (srt kd')).d, some u'.d, some (.dct kd'), some (.lst (ms.map .int)), some (.int (j : Int)), s9, s10, s11, s12, s13] ∧ Inv b ks kd' (n + 1) u' := by
    intro i h0 h1 ev hc
    subst ev
    have ht := try_put iv.w hk (vv_int h0 h1) hc
    obtain ⟨lp, w', pr'⟩ := lp_all (a0 := a0) (a1 := a1) (a3 := some (.tup (ks.map .int))) (a7 := some (.lst (ms.map .int))) (a8 := some (.int (j : Int))) (a11 := some (endT 16 u k).d) (a12 := some (.bl (hid (endT 16 u k) k))) h4 hb iv.km hn iv.w iv.pr hk h0 h1 hc
    have c := ltc (a0 := a0) (a1 := a1) (a2 := some (.int (b : Int))) (a3 := some (.tup (ks.map .int))) (a4 := some (cn 16 (srt kd)).d) (a5 := some u.d) (a6 := some (.dct kd)) (a7 := some (.lst (ms.map .int))) (a8 := some (.int (j : Int))) (a9 := some (.int k)) (a13 := some (.tup [.str "told", (chR 16 u k (.int i)).d])) (e := endT 16 u k) (q := hid (endT 16 u k) k) (is_non i)
    rw [hc, Bool.and_false, Bool.or_false] at c
    refine ⟨setZ kd k i, chR 16 u k (.int i), some (.int k), some (.int i), some (endT 16 u k).d, some (.bl (hid (endT 16 u k) k)), some (.tup [.str "told", (chR 16 u k (.int i)).d]), all _ _ ht ?_, km_setZ iv.km hk h0 h1, w', pr', fun s hs => ?_⟩
    · unfold LT8
      rw [x_sIf, c]
      simp only
      refine (sq_nx ?_).trans rfl
      rw [x_sIf]
      simp_arith [is_non]
      exact lp
    · exact ch_open iv.w (spot0 hk) (spot0 (hks s hs)) hk.1 (zl_int h0 h1) hc (iv.op s hs)
  have isnon : opIs .non .non = some (.bl true) := rfl
  rcases hv with rfl | hv
  · cases hh : hid (endT 16 u k) k with
    | true =>
      have ht := try_gmiss iv.w hk hh
      have s8 := lt8m (a0 := a0) (a1 := a1) (a2 := some (.int (b : Int))) (a4 := some (cn 16 (srt kd)).d) (a5 := some u.d) (a6 := some (.dct kd)) (a7 := some (.lst (ms.map .int))) (a8 := some (.int (j : Int))) (e := endT 16 u k) (q := hid (endT 16 u k) k) isnon (by rw [hh, Bool.true_and, Bool.or_true]) (hnot hh)
      exact ⟨kd, u, _, _, _, _, _, all _ _ ht s8, stay⟩
    | false =>
      have ht := try_get iv.w hk hh
      have ev : vlT (endT 16 u k) k = (lk kd (.inl k)).getD (.int 0) := by
        rw [← pr_vl (pr_end iv.pr (hid_cut hh)) hh (end_nofork 16 u k iv.w.ht), vl_cn hm.sp.gd, iv.km.lk]
      rw [ev] at ht
      have s8 := lt8n (a0 := a0) (a1 := a1) (a2 := some (.int (b : Int))) (a3 := some (.tup (ks.map .int))) (a4 := some (cn 16 (srt kd)).d) (a5 := some u.d) (a7 := some (.lst (ms.map .int))) (a8 := some (.int (j : Int))) (k := k) (e := endT 16 u k) (q := hid (endT 16 u k) k) iv.km (hid_cut hh) hh
      exact ⟨kd, u, _, _, _, _, _, all _ _ ht s8, stay⟩
  · obtain ⟨i, h0, h1, rfl⟩ : ∃ i : Int, 0 ≤ i ∧ i ≤ 70000 ∧ v = .int i := by
      rcases hv with rfl | rfl
      · exact ⟨0, by omega, by omega, rfl⟩
      · exact ⟨1 + y, by omega, by omega, rfl⟩
    cases hc : isCut (endT 16 u k) with
    | false => exact doput i h0 h1 rfl hc
    | true =>
      have ht := try_pmiss iv.w hk (vv_int h0 h1) hc
      have hh : hid (endT 16 u k) k = true := by
        unfold hid
        rw [hc, Bool.true_or]
      have s8 := lt8m (a0 := a0) (a1 := a1) (a2 := some (.int (b : Int))) (a4 := some (cn 16 (srt kd)).d) (a5 := some u.d) (a6 := some (.dct kd)) (a7 := some (.lst (ms.map .int))) (a8 := some (.int (j : Int))) (e := endT 16 u k) (q := hid (endT 16 u k) k) (is_non i) (by rw [hc, Bool.true_or]) (hnot hh)
      exact ⟨kd, u, _, _, _, _, _, all _ _ ht s8, stay⟩
theorem turns (h4 : 4 ≤ b) (hb : b ≤ 60) (hks : ∀ s ∈ ks, Spot s) (hkl : ks.length ≤ 1000) (hd : Dg 65536 ms) : ∀ (j lo : Nat) (kd : List (Key × D)) (n : Nat) (u : T) (s8 s9 s10 s11 s12 s13 : Option D), 2 * (lo + j) ≤ ms.length → n + j < 60 → Inv b ks kd n u →
    ∃ kd' u' s8' s9' s10' s11' s12' s13', forL (gN 8) LTB (rg (lo : Int) j 1) [a0, a1, some (.int (b : Int)), some (.tup (ks.map .int)), some (cn 16 (srt kd)).d, some u.d, some (.dct kd), some (.lst (ms.map .int)), s8, s9, s10, s11, s12, s13] =
      .nx [a0, a1, some (.int (b : Int)), some (.tup (ks.map .int)), some (cn 16 (srt kd')).d, some u'.d, some (.dct kd'), some (.lst (ms.map .int)), s8', s9', s10', s11', s12', s13'] ∧ Inv b ks kd' (n + j) u'
  | 0, lo, kd, n, u, s8, s9, s10, s11, s12, s13, _, _, iv => ⟨kd, u, s8, s9, s10, s11, s12, s13, rfl, iv⟩
  | j + 1, lo, kd, n, u, s8, s9, s10, s11, s12, s13, hl, hn, iv => by
    obtain ⟨x, hx, bx⟩ := get_of hd (n := 2 * lo) (by omega)
    obtain ⟨y, hy, by'⟩ := get_of hd (n := 2 * lo + 1) (by omega)
    obtain ⟨kd1, u1, t9, t10, t11, t12, t13, e1, iv1⟩ := turn (a0 := a0) (a1 := a1) (a9 := s9) (a10 := s10) (a11 := s11) (a12 := s12) (a13 := s13) h4 hb hks hkl (n := n) (by omega) iv hx hy bx by'
    obtain ⟨kd', u', s8', s9', s10', s11', s12', s13', e2, iv2⟩ := turns h4 hb hks hkl hd j (lo + 1) kd1 (n + 1) u1 (some (.int (lo : Int))) t9 t10 t11 t12 t13 (by omega) (by omega) iv1
    refine ⟨kd', u', s8', s9', s10', s11', s12', s13', ?_, by rw [show n + (j + 1) = n + 1 + j by omega]; exact iv2⟩
    rw [rg_succ, x_forN]
    rw [show ([a0, a1, some (.int (b : Int)), some (.tup (ks.map .int)), some (cn 16 (srt kd)).d, some u.d, some (.dct kd), some (.lst (ms.map .int)), s8, s9, s10, s11, s12, s13] : DSt).set 8 (some (.int (lo : Int))) = [a0, a1, some (.int (b : Int)), some (.tup (ks.map .int)), some (cn 16 (srt kd)).d, some u.d, some (.dct kd), some (.lst (ms.map .int)), some (.int (lo : Int)), s9, s10, s11, s12, s13] from rfl, e1]
    simp only
    rw [show ((lo : Int) + 1) = ((lo + 1 : Nat) : Int) by omega]
    exact e2
end
theorem law_ok (ns : List Int) : M_law [.scr ns] = .ok (.bl true) := by
  obtain ⟨c0, e0⟩ := law_at ns 0
  obtain ⟨c1, e1⟩ := law_at ns 1
  obtain ⟨c2, e2⟩ := law_at ns 2
  obtain ⟨c3, e3⟩ := law_at ns 3
  obtain ⟨c4, e4⟩ := law_at ns 4
  have e0 : M__law_at [.scr ns, .int 0] = .ok (.int c0) := e0
  have e1 : M__law_at [.scr ns, .int 1] = .ok (.int c1) := e1
  have e2 : M__law_at [.scr ns, .int 2] = .ok (.int c2) := e2
  have e3 : M__law_at [.scr ns, .int 3] = .ok (.int c3) := e3
  have e4 : M__law_at [.scr ns, .int 4] = .ok (.int c4) := e4
  obtain ⟨kd, ek, hk⟩ := law_map c0 c1 (most := 24) (by omega)
  have ek : M__law_map [.int c0, .int c1, .int 24] = .ok (.dct kd) := ek
  obtain ⟨b, h4, hb, eb⟩ := law_bits c2
  obtain ⟨ks, es, hks, hkl⟩ := law_spots c3 (most := 8) hk (by omega) (by omega)
  have es : M__law_spots [.int c3, .dct kd, .int 8] = .ok (.tup (ks.map .int)) := es
  obtain ⟨ms, em, hml, hmd⟩ := law_row c4 (n := 24) (by omega) (top := 65536) (by decide) (by decide)
  have em : M__law_row [.int c4, .int 24, .int 65536] = .ok (.lst (ms.map .int)) := em
  have hm := hk.mp (by omega)
  have hsit := hk.sit (by omega)
  have hlen := srt_len hk
  have hlen2 := hk.len
  have hw := mp_w16 hm
  have hop : ∀ k ∈ ks, Spot k ∧ hid (endT 16 (cn 16 (srt kd)) k) k = false := fun k hj => ⟨hks k hj, hid_cn hm.sp.gd⟩
  have hcf := cut_for h4 hb hw hop (by omega)
  have hlc := law_cut hb hsit hm.sp.gd hm.ppv hm.len (ks := ks) (by omega)
  have hww := wit_wf hb (ks := ks) hw
  have hwp := wit_pr (b := b) (ks := ks) hw
  have hwo : ∀ s ∈ ks, hid (endT 16 (wit b ks (cn 16 (srt kd))) s) s = false := fun s hs => wit_open hs 16 _ [] rfl (fun i b hb => by simp at hb) hw.ht (hid_cn hm.sp.gd)
  have iv : Inv b ks kd 24 (wit b ks (cn 16 (srt kd))) := ⟨hk, hww, hwp, hwo⟩
  generalize hW : wit b ks (cn 16 (srt kd)) = u at *
  have hrw := root_w h4 hb hw
  have hru := root_w h4 hb hww
  have er : rD b u = rD b (cn 16 (srt kd)) := by
    unfold rD
    rw [(pr_rs hwp).1, (pr_rs hwp).2]
  rw [er] at hru
  have hip := is_pruning h4 hb hw hww hwp
  have hled := led_tree (prs := srt kd) (by omega) (fun p hp => ⟨hm.sp.spot p hp, (hm.lv p hp).vv⟩)
  rw [puts_eq hm.sp.asc (fun p hp => (hm.lv p hp).nz) (fun p hp => hp) (fun p hp => hp)] at hled
  have et : fTup (.lst ((srt kd).map pd)) = some (.tup ((srt kd).map pd)) := rfl
  have ed : fDict (.dct kd) = some (.dct kd) := rfl
  have s1 : LW1 [some (.scr ns), none, none, none, none, none, none, none, none, none, none, none, none, none] = .nx [some (.scr ns), some (.dct kd), none, none, none, none, none, none, none, none, none, none, none, none] := by
    simp_arith [LW1, e0, e1, ek]
  have s2 : LW2 [some (.scr ns), some (.dct kd), none, none, none, none, none, none, none, none, none, none, none, none] = .nx [some (.scr ns), some (.dct kd), some (.int (b : Int)), none, none, none, none, none, none, none, none, none, none, none] := by
    simp_arith [LW2, e2, eb]
  have s3 : LW3 [some (.scr ns), some (.dct kd), some (.int (b : Int)), none, none, none, none, none, none, none, none, none, none, none] = .nx [some (.scr ns), some (.dct kd), some (.int (b : Int)), some (.tup (ks.map .int)), none, none, none, none, none, none, none, none, none, none] := by
    simp_arith [LW3, e3, es]
  have s4 : LW4 [some (.scr ns), some (.dct kd), some (.int (b : Int)), some (.tup (ks.map .int)), none, none, none, none, none, none, none, none, none, none] = .nx [some (.scr ns), some (.dct kd), some (.int (b : Int)), some (.tup (ks.map .int)), some (cn 16 (srt kd)).d, none, none, none, none, none, none, none, none, none] := by
    simp_arith [LW4, hsit, et, hled]
  have s5 : LW5 [some (.scr ns), some (.dct kd), some (.int (b : Int)), some (.tup (ks.map .int)), some (cn 16 (srt kd)).d, none, none, none, none, none, none, none, none, none] = .nx [some (.scr ns), some (.dct kd), some (.int (b : Int)), some (.tup (ks.map .int)), some (cn 16 (srt kd)).d, some u.d, none, none, none, none, none, none, none, none] := by
    simp_arith [LW5, hcf]
  have s6 : LW6 [some (.scr ns), some (.dct kd), some (.int (b : Int)), some (.tup (ks.map .int)), some (cn 16 (srt kd)).d, some u.d, none, none, none, none, none, none, none, none] = .nx [some (.scr ns), some (.dct kd), some (.int (b : Int)), some (.tup (ks.map .int)), some (cn 16 (srt kd)).d, some u.d, none, none, none, none, none, none, none, none] := by
    simp_arith [LW6, hlc, ne_self (w16_okE hww), hrw, hru, ne_self (rD_ok b _), hip, o_isnT]
  have s7 : LW7 [some (.scr ns), some (.dct kd), some (.int (b : Int)), some (.tup (ks.map .int)), some (cn 16 (srt kd)).d, some u.d, none, none, none, none, none, none, none, none] = .nx [some (.scr ns), some (.dct kd), some (.int (b : Int)), some (.tup (ks.map .int)), some (cn 16 (srt kd)).d, some u.d, some (.dct kd), none, none, none, none, none, none, none] := by
    simp_arith [LW7, ed]
  have s8 : LW8 [some (.scr ns), some (.dct kd), some (.int (b : Int)), some (.tup (ks.map .int)), some (cn 16 (srt kd)).d, some u.d, some (.dct kd), none, none, none, none, none, none, none] = .nx [some (.scr ns), some (.dct kd), some (.int (b : Int)), some (.tup (ks.map .int)), some (cn 16 (srt kd)).d, some u.d, some (.dct kd), some (.lst (ms.map .int)), none, none, none, none, none, none] := by
    simp_arith [LW8, e4, em]
  obtain ⟨kd', u', x8, x9, x10, x11, x12, x13, e9, iv'⟩ := turns (a0 := some (.scr ns)) (a1 := some (.dct kd)) h4 hb hks (by omega) hmd 12 0 kd 24 u none none none none none none (by omega) (by omega) iv
  have e12 : diR1 (dC (.int 12)) [some (.scr ns), some (.dct kd), some (.int (b : Int)), some (.tup (ks.map .int)), some (cn 16 (srt kd)).d, some u.d, some (.dct kd), some (.lst (ms.map .int)), none, none, none, none, none, none] = .ok (rg ((0 : Nat) : Int) 12 1) := x_diR1 (n := 12) rfl (by decide)
  have s9 := (x_sFor (g := gN 8) (t := LTB) e12).trans e9
  have hm' := iv'.km.mp (by omega)
  have h0 : Spot 0 := ⟨by decide, by decide⟩
  have ht := try_get (mp_w16 hm') h0 (hid_cn hm'.sp.gd)
  rw [vl_cn hm'.sp.gd, iv'.km.lk] at ht
  have lv := lk_val iv'.km (.inl 0)
  have g : dGet2 (dV 6) (dC (.int 0)) (dC (.int 0)) [some (.scr ns), some (.dct kd), some (.int (b : Int)), some (.tup (ks.map .int)), some (cn 16 (srt kd')).d, some u'.d, some (.dct kd'), some (.lst (ms.map .int)), x8, x9, x10, x11, x12, x13] = .ok ((lk kd' (.inl 0)).getD (.int 0)) := x_dGet2 rfl rfl rfl rfl
  generalize (lk kd' (.inl 0)).getD (.int 0) = v at *
  have n1 : opEq (.tup [.str "told", v]) (.tup [.str "told", v]) = some (.bl true) := DL.eq_self (told_ok (sOk_of _) lv.1 lv.2)
  have s10 : LW10 [some (.scr ns), some (.dct kd), some (.int (b : Int)), some (.tup (ks.map .int)), some (cn 16 (srt kd')).d, some u'.d, some (.dct kd'), some (.lst (ms.map .int)), x8, x9, x10, x11, x12, x13] = .rt (.bl true) := by
    simp_arith [LW10, ht, g, n1]
  unfold M_law
  refine def1_rt (s := [some (.scr ns), none, none, none, none, none, none, none, none, none, none, none, none, none]) rfl ?_
  rw [b_LW]
  exact (sq_nx s1).trans ((sq_nx s2).trans ((sq_nx s3).trans ((sq_nx s4).trans ((sq_nx s5).trans ((sq_nx s6).trans ((sq_nx s7).trans ((sq_nx s8).trans ((sq_nx s9).trans (sq_rt s10)))))))))
end K49
theorem PySem.Challenge.cw_leanledger_k49_whole_witnesses_lead_alik_holds : PySem.Challenge.rw_leanledger_k49_whole_witnesses_lead_alik.Holds :=
  K49.holds_of fun ns _ => K49.law_ok ns
