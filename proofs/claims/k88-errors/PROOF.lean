import PyProof.Rows.All
import Wide.All
import OpenK.AllK
import Wide.FinOn
import PySem.Challenge.RW_gainshares_k88_errors_of_texts_of_games
import PyProof.P3Statements
import KE.LtData
import HandS.Base
import HandS.List
import PyProof.Rows.NestShow
import HandS.ForMost
import HandS.ForExc
import HandS.Deep
import HandS.Star
import HandS.Lambda
import HandS.TryMany
import HandS.Wide
import HandS.IsInst
import HandS.Style
import HandS.TupAny
import HandS.Slots
import HandS.TupMul
import KE.SortData
import HandS.Conv
import HandS.Dict
import HandS.DictTup
import KE.SortCalls
import HandS.RaiseMore
import PyProof.TupleOfSeq
import HandS.Strs
import KE.KIndexOf
import HandS.Zip
import HandS.Iter
import KE.GoesMore
import KE.GoesEnum
import HandS.Text
import HandS.DictComp
import KE.KDictSum
import HandS.WordsDict
import HandS.SlotsOwn
import KE.KCallOwn
import HandS.FStr
import HandS.Defaults
import HandS.Words
import HandS.WordsExc
import KE.KExcSuper
import KE.KExcInit
import KE.KSuper
import HandS.HeadWalk
import HandS.Exc
import HandS.HeadHook2
import HandS.HeadHook4
import HandS.ExcOwn
import HandS.ExcField
import KE.KDflt
import HandS.EndTab
import HandS.Head0
import HandS.Head1
import HandS.Head2
import HandS.HeadHook1
import HandS.HeadHook3
import KE.KNestM
import HandS.Ends
set_option Elab.async false
set_option linter.all false
set_option autoImplicit false
set_option maxRecDepth 100000
-- GsEv1
namespace GS
open PySem

inductive W where
  | non | bl (b : Bool) | int (i : Int) | str (x : Str) | tup (ws : List W) | obj (n : Nat)
  /-- nobody looks at it; a list of n ints that stays as it is -/
  | any | sl (n : Nat)
  /-- these ints, a list that stays as it is -/
  | ls (ns : List Int)
  /-- one of these -/
  | ch (ws : List W)
  /-- a tuple known to have no dict -/
  | ftup (ws : List W)
  /-- some int; one from 0 to n - 1 -/
  | aint | rint (n : Nat)
  /-- n signs c -/
  | srep (c n : Nat)

inductive O where
  | lst (ws : List W)
  | dct (kvs : List (W × W))
  /-- a dict by ints and texts -/
  | dk (kvs : List (W × W))
  | bag
  /-- an instance of a class with slots -/
  | ins (c : Nat) (fs : List (Option W))

structure Hs where
  n : Nat
  c : List O

def Hs.nil : Hs := ⟨0, []⟩
def Hs.get (h : Hs) (a : Nat) : Option O := if a < h.n then h.c[h.n - 1 - a]? else none
def Hs.set (h : Hs) (a : Nat) (o : O) : Hs := ⟨h.n, h.c.set (h.n - 1 - a) o⟩
def Hs.push (h : Hs) (o : O) : Hs := ⟨h.n + 1, o :: h.c⟩

inductive R (α : Type) where
  | ok (a : α) (h : Hs)
  | ex (c : Nat) (w : W) (h : Hs)
  | no
  | dr (n : Nat) (k : Nat → R α)

def R.bind {α β : Type} : R α → (α → Hs → R β) → R β
  | .ok a h, f => f a h
  | .ex c w h, _ => .ex c w h
  | .no, _ => .no
  | .dr n k, f => .dr n fun i => (k i).bind f

-- GsEv1
/-- a plain tuple -/
def W.weak : W → W
  | .ftup ws => .tup ws
  | w => w
mutual
/-- no address within -/
def W.pure : W → Bool
  | .obj _ => false
  | .tup ws => W.pures ws
  | .ch ws => W.pures ws
  | .ftup ws => W.pures ws
  | _ => true
def W.pures : List W → Bool
  | [] => true
  | w :: ws => w.pure && W.pures ws
end
mutual
/-- addresses n higher -/
def W.shift (n : Nat) : W → W
  | .obj a => .obj (n + a)
  | .tup ws => .tup (W.shifts n ws)
  | .ch ws => .ch (W.shifts n ws)
  | .ftup ws => .ftup (W.shifts n ws)
  | w => w
def W.shifts (n : Nat) : List W → List W
  | [] => []
  | w :: ws => w.shift n :: W.shifts n ws
end
def O.shift (n : Nat) : O → O
  | .lst ws => .lst (W.shifts n ws)
  | .dct kvs => .dct (kvs.map fun p => (p.1.shift n, p.2.shift n))
  | .dk kvs => .dk (kvs.map fun p => (p.1.shift n, p.2.shift n))
  | .bag => .bag
  | .ins c fs => .ins c (fs.map fun o => o.map (W.shift n))
mutual
/-- the same tree -/
def W.same : W → W → Bool
  | .non, .non => true
  | .bl a, .bl b => a == b
  | .int i, .int j => decide (i = j)
  | .str x, .str y => decide (x = y)
  | .tup ws, .tup us => W.sames ws us
  | .obj a, .obj b => decide (a = b)
  | .any, .any => true
  | .sl a, .sl b => decide (a = b)
  | .ls a, .ls b => decide (a = b)
  | .ch ws, .ch us => W.sames ws us
  | .ftup ws, .ftup us => W.sames ws us
  | .aint, .aint => true
  | .rint a, .rint b => decide (a = b)
  | .srep a i, .srep b j => decide (a = b) && decide (i = j)
  | _, _ => false
def W.sames : List W → List W → Bool
  | [], [] => true
  | w :: ws, u :: us => w.same u && W.sames ws us
  | _, _ => false
end
mutual
theorem W.same_eq : ∀ {a b : W}, a.same b = true → a = b
  | .non, b, h => by cases b <;> first | rfl | (simp [W.same] at h)
  | .bl a, b, h => by cases b <;> first | (simp [W.same] at h; done) | (simp [W.same] at h; rw [h])
  | .int a, b, h => by cases b <;> first | (simp [W.same] at h; done) | (simp [W.same] at h; rw [h])
  | .str a, b, h => by cases b <;> first | (simp [W.same] at h; done) | (simp [W.same] at h; rw [h])
  | .tup ws, b, h => by cases b <;> first | (simp [W.same] at h; done) | (rw [W.same] at h; rw [W.sames_eq h])
  | .obj a, b, h => by cases b <;> first | (simp [W.same] at h; done) | (simp [W.same] at h; rw [h])
  | .any, b, h => by cases b <;> first | rfl | (simp [W.same] at h)
  | .sl a, b, h => by cases b <;> first | (simp [W.same] at h; done) | (simp [W.same] at h; rw [h])
  | .ls a, b, h => by cases b <;> first | (simp [W.same] at h; done) | (simp [W.same] at h; rw [h])
  | .ch ws, b, h => by cases b <;> first | (simp [W.same] at h; done) | (rw [W.same] at h; rw [W.sames_eq h])
  | .ftup ws, b, h => by cases b <;> first | (simp [W.same] at h; done) | (rw [W.same] at h; rw [W.sames_eq h])
  | .aint, b, h => by cases b <;> first | rfl | (simp [W.same] at h)
  | .rint a, b, h => by cases b <;> first | (simp [W.same] at h; done) | (simp [W.same] at h; rw [h])
  | .srep a i, b, h => by cases b <;> first | (simp [W.same] at h; done) | (simp [W.same] at h; rw [h.1, h.2])
theorem W.sames_eq : ∀ {a b : List W}, W.sames a b = true → a = b
  | [], [], _ => rfl
  | [], _ :: _, h => by simp [W.sames] at h
  | _ :: _, [], h => by simp [W.sames] at h
  | a :: as, b :: bs, h => by
    rw [W.sames, Bool.and_eq_true] at h
    rw [W.same_eq h.1, W.sames_eq h.2]
end
def kvSame : List (W × W) → List (W × W) → Bool
  | [], [] => true
  | p :: r, q :: s => p.1.same q.1 && p.2.same q.2 && kvSame r s
  | _, _ => false
theorem kvSame_eq : ∀ {a b : List (W × W)}, kvSame a b = true → a = b
  | [], [], _ => rfl
  | [], _ :: _, h => by simp [kvSame] at h
  | _ :: _, [], h => by simp [kvSame] at h
  | (a, b) :: r, (c, d) :: s, h => by
    rw [kvSame, Bool.and_eq_true, Bool.and_eq_true] at h
    have h1 : a = c := W.same_eq h.1.1
    have h2 : b = d := W.same_eq h.1.2
    rw [h1, h2, kvSame_eq h.2]
def optSame : List (Option W) → List (Option W) → Bool
  | [], [] => true
  | none :: r, none :: s => optSame r s
  | some a :: r, some b :: s => a.same b && optSame r s
  | _, _ => false
theorem optSame_eq : ∀ {a b : List (Option W)}, optSame a b = true → a = b
  | [], [], _ => rfl
  | [], _ :: _, h => by simp [optSame] at h
  | none :: _, [], h => by simp [optSame] at h
  | some _ :: _, [], h => by simp [optSame] at h
  | none :: r, none :: s, h => by rw [optSame] at h; rw [optSame_eq h]
  | none :: r, some b :: s, h => by simp [optSame] at h
  | some a :: r, none :: s, h => by simp [optSame] at h
  | some a :: r, some b :: s, h => by
    rw [optSame, Bool.and_eq_true] at h
    rw [W.same_eq h.1, optSame_eq h.2]
def O.same : O → O → Bool
  | .ins c r, .ins d s => decide (c = d) && optSame r s
  | .lst ws, .lst us => W.sames ws us
  | .dct r, .dct s => kvSame r s
  | .dk r, .dk s => kvSame r s
  | .bag, .bag => true
  | _, _ => false
theorem O.same_eq {a b : O} (h : a.same b = true) : a = b := by
  cases a <;> cases b <;> first
    | rfl
    | (simp [O.same] at h; done)
    | (simp only [O.same] at h; rw [W.sames_eq h])
    | (simp only [O.same] at h; rw [kvSame_eq h])
    | (simp only [O.same, Bool.and_eq_true, decide_eq_true_eq] at h; rw [h.1, optSame_eq h.2])
def osSame : List O → List O → Bool
  | [], [] => true
  | a :: r, b :: s => a.same b && osSame r s
  | _, _ => false
theorem osSame_eq : ∀ {a b : List O}, osSame a b = true → a = b
  | [], [], _ => rfl
  | [], _ :: _, h => by simp [osSame] at h
  | _ :: _, [], h => by simp [osSame] at h
  | a :: as, b :: bs, h => by
    rw [osSame, Bool.and_eq_true] at h
    rw [O.same_eq h.1, osSame_eq h.2]
/-- the older objects are as they were -/
def Hs.keeps (h h' : Hs) : Bool := Nat.ble h.n h'.n && osSame (h'.c.drop (h'.n - h.n)) h.c
/-- behind a call upon a heap of its own -/
def Hs.join (h h' : Hs) : Hs := ⟨h.n + h'.n, h'.c.map (O.shift h.n) ++ h.c⟩

/-- a value as a datum (lists read) -/
def toDs (f : W → Option PyData) : List W → Option (List PyData)
  | [] => some []
  | w :: ws => match f w with
    | some d => (match toDs f ws with
      | some ds => some (d :: ds)
      | none => none)
    | none => none
def toD (h : Hs) : Nat → W → Option PyData
  | 0, _ => none
  | n + 1, w => match w with
    | .non => some .none
    | .bl b => some (.bool b)
    | .int i => some (.int i)
    | .str x => some (.str x)
    | .any => none
    | .sl _ => none
    | .ls _ => none
    | .ch _ => none
    | .aint => none
    | .rint _ => none
    | .srep _ _ => none
    | .tup ws => (toDs (toD h n) ws).map .tuple
    | .ftup ws => (toDs (toD h n) ws).map .tuple
    | .obj a => (match h.get a with
      | some (.lst ws) => (toDs (toD h n) ws).map .list
      | _ => none)
/-- the depth that is read -/
def dpth : Nat := 16

inductive BOp where
  | add | sub | mul | fdiv | mod | pow
inductive COp where
  | eq | ne | lt | le | gt | ge | isIn | notIn | is | isNot

def okLen {α : Type} (ws : List α) : Bool := decide (ws.length ≤ sizeLine)
def small (i : Int) : Bool := decide (-18446744073709551616 < i) && decide (i < 18446744073709551616)
def mulOk (i j : Int) : Bool := small i || small j || decide (i.natAbs.log2 + j.natAbs.log2 < 1000000)

/-- n signs c -/
def repS (c n : Nat) : Str := ⟨(List.replicate n c).toArray⟩
def repL (l : List Nat) : Nat → List Nat
  | 0 => []
  | n + 1 => l ++ repL l n
def mkS (l : List Nat) : Str := ⟨l.toArray⟩
def mulS (x : Str) (k : Int) : Option W := match x.cps.toList with
  | [c] => if 1000 < k ∧ k ≤ 1000000 then some (.srep c k.toNat) else if 2 ≤ k ∧ k ≤ 1000 then some (.str (repS c k.toNat)) else none
  | l => if 2 ≤ k ∧ k ≤ 1000 ∧ 2 ≤ x.length ∧ x.length ≤ 1000 then some (.str (mkS (repL l k.toNat))) else none
def repW (ws : List W) : Nat → List W
  | 0 => []
  | n + 1 => ws ++ repW ws n

def binW : BOp → W → W → Hs → R W
  | .add, .int i, .int j, h => .ok (.int (i + j)) h
  | .add, .str x, .str y, h => if x.length + y.length ≤ sizeLine then .ok (.str (x ++ y)) h else .no
  | .add, .tup xs, .tup ys, h => if xs.length + ys.length ≤ sizeLine then .ok (.tup (xs ++ ys)) h else .no
  | .add, .obj a, .obj b, h => (match h.get a, h.get b with
    | some (.lst xs), some (.lst ys) => if xs.length + ys.length ≤ sizeLine then .ok (.obj h.n) (h.push (.lst (xs ++ ys))) else .no
    | _, _ => .no)
  | .sub, .int i, .int j, h => .ok (.int (i - j)) h
  | .mul, .int i, .int j, h => if mulOk i j = true then .ok (.int (i * j)) h else .no
  | .mul, .tup xs, .int k, h => if 2 ≤ k ∧ k ≤ 1000 ∧ xs.length ≤ 1000 ∧ xs.isEmpty = false then .ok (.tup (repW xs k.toNat)) h else .no
  | .mul, .obj a, .int k, h => (match h.get a with
    | some (.lst xs) => if 0 ≤ k ∧ k ≤ 1000 ∧ xs.length ≤ 1000 then .ok (.obj h.n) (h.push (.lst (repW xs k.toNat))) else .no
    | _ => .no)
  | .mul, .str x, .int k, h => (match mulS x k with
    | some w => .ok w h
    | none => .no)
  | .fdiv, .int i, .int j, h => if 0 < j ∧ j.natAbs.log2 < 9000 then .ok (.int (i / j)) h else .no
  | .mod, .int i, .int j, h => if 0 < j then .ok (.int (i % j)) h else .no
  | .pow, .int i, .int j, h => if 0 ≤ j ∧ j ≤ 1000 ∧ i.natAbs.log2 < 9000 then .ok (.int (i ^ j.toNat)) h else .no
  | _, _, _, _ => .no

/-- op= on ints and texts -/
def augW : BOp → W → W → Hs → R W
  | .add, .int i, .int j, h => .ok (.int (i + j)) h
  | .add, .str x, .str y, h => if x.length + y.length ≤ sizeLine then .ok (.str (x ++ y)) h else .no
  | .sub, .int i, .int j, h => .ok (.int (i - j)) h
  | .mul, .int i, .int j, h => if small i || small j then .ok (.int (i * j)) h else .no
  | .fdiv, .int i, .int j, h => if 0 < j ∧ j < 1073741824 then .ok (.int (i / j)) h else .no
  | .mod, .int i, .int j, h => if 0 < j then .ok (.int (i % j)) h else .no
  | _, _, _, _ => .no
/-- data compared -/
def eqW (h : Hs) (a b : W) : Option Bool := match toD h dpth a, toD h dpth b with
  | some d, some e => if SeqAt.shaped d = true ∧ SeqAt.shaped e = true then some (PyData.eqv d e) else none
  | _, _ => none
def ltW (h : Hs) (a b : W) : Option Bool := match toD h dpth a, toD h dpth b with
  | some d, some e => if PySem.W.alike d e = true then some (PySem.W.dataLt d e) else none
  | _, _ => none
/-- the text of a list, a tuple -/
def reprW (h : Hs) (w : W) : Option Str := match toD h dpth w with
  | some d => if d.showable && !d.hasDict && decide (d.depth ≤ 30) && decide (d.shown.length ≤ sizeLine) then some d.shown else none
  | none => none
def notNon : W → Bool
  | .non => false
  | _ => true
def isAny : W → Bool
  | .any => true
  | .ch _ => true
  | _ => false
def anyEq (d : PyData) : List PyData → Bool
  | [] => false
  | e :: r => PyData.eqv e d || anyEq d r
/-- x in c -/
def inW (h : Hs) (x c : W) : Option Bool := match toD h dpth x, toD h dpth c with
  | some d, some (.tuple ds) => if SeqAt.shaped d = true ∧ SeqAt.shaped (.tuple ds) = true then some (anyEq d ds) else none
  | some d, some (.list ds) => if SeqAt.shaped d = true ∧ SeqAt.shaped (.list ds) = true then some (anyEq d ds) else none
  | _, _ => none
def okB (o : Option Bool) (h : Hs) : R W := match o with
  | some b => .ok (.bl b) h
  | none => .no
def cmpW : COp → W → W → Hs → R W
  | .eq, .int i, .int j, h => .ok (.bl (decide (i = j))) h
  | .eq, a, b, h => okB (eqW h a b) h
  | .ne, .int i, .int j, h => .ok (.bl (!decide (i = j))) h
  | .ne, a, b, h => okB ((eqW h a b).map not) h
  | .lt, .int i, .int j, h => .ok (.bl (decide (i < j))) h
  | .lt, a, b, h => if notNon a = true then okB (ltW h a b) h else .no
  | .le, .int i, .int j, h => .ok (.bl (decide (i ≤ j))) h
  | .gt, .int i, .int j, h => .ok (.bl (decide (j < i))) h
  | .ge, .int i, .int j, h => .ok (.bl (decide (j ≤ i))) h
  | .isIn, a, b, h => okB (inW h a b) h
  | .notIn, a, b, h => okB ((inW h a b).map not) h
  | .is, a, .non, h => if isAny a = true then .no else .ok (.bl (!notNon a)) h
  | .is, .bl a, .bl b, h => .ok (.bl (decide (a = b))) h
  | .isNot, a, .non, h => if isAny a = true then .no else .ok (.bl (notNon a)) h
  | .isNot, .bl a, .bl b, h => .ok (.bl (!decide (a = b))) h
  | _, _, _, _ => .no

/-- signs of one kind, written out -/
def unrep : W → W
  | .srep c n => .str (repS c n)
  | w => w
def farS (n : Nat) : W → Bool
  | .str y => !Nat.beq y.length n && PySem.PyData.strOk y
  | _ => false
def smallN (n : Nat) : Bool := Nat.ble n 1000000
/-- what a list, a tuple holds -/
def seqOf (h : Hs) : W → Option (List W)
  | .tup ws => some ws
  | .ftup ws => some ws
  | .obj a => (match h.get a with
    | some (.lst ws) => some ws
    | _ => none)
  | _ => none
/-- many signs of one kind and another text -/
def repC : COp → W → W → Hs → Option (R W)
  | .eq, .srep c n, b, h => if Nat.blt c 256 && farS n b then some (.ok (.bl false) h) else none
  | .ne, .srep c n, b, h => if Nat.blt c 256 && farS n b then some (.ok (.bl true) h) else none
  | .isIn, .srep c n, t, h => (match t with
    | .tup ws => if Nat.blt c 256 && ws.all (farS n) then some (.ok (.bl false) h) else none
    | _ => none)
  | _, _, _, _ => none
def ixN (n : Nat) (i : Int) : Option Nat := if 0 ≤ i then (if i < n then some i.toNat else none) else if -(n : Int) ≤ i then some (i + n).toNat else none
def okO (o : Option W) (h : Hs) : R W := match o with
  | some w => .ok w h
  | none => .no
def lsOf : W → Option (List Int)
  | .ls ns => some ns
  | _ => none
def ixW : W → W → Hs → R W
  | a, .int i, h => (match lsOf a with
    | some ns => (match ixN ns.length i with
      | some j => okO (ns[j]?.map W.int) h
      | none => .no)
    | none => (match seqOf h a with
      | some ws => (match ixN ws.length i with
        | some j => okO ws[j]? h
        | none => .no)
      | none => .no))
  | _, _, _ => .no
/-- the place of a slice's end -/
def sIx (n d : Nat) : Option Int → Nat
  | none => d
  | some v => if v < 0 then (v + n).toNat else min v.toNat n
def cutW (ws : List W) (lo hi : Option Int) : List W := (ws.drop (sIx ws.length 0 lo)).take (sIx ws.length ws.length hi - sIx ws.length 0 lo)
def slW : W → Option Int → Option Int → Hs → R W
  | .tup ws, lo, hi, h => .ok (.tup (cutW ws lo hi)) h
  | .obj a, lo, hi, h => (match h.get a with
    | some (.lst ws) => .ok (.obj h.n) (h.push (.lst (cutW ws lo hi)))
    | _ => .no)
  | _, _, _, _ => .no

-- GsEv1
inductive Ty where
  | int | bool | str | tuple
def Ty.name : Ty → String
  | .int => "int" | .bool => "bool" | .str => "str" | .tuple => "tuple"
def isaW (h : Hs) : W → Ty → Option Bool
  | .non, _ => some false
  | .bl _, .int => some true
  | .bl _, .bool => some true
  | .bl _, _ => some false
  | .int _, .int => some true
  | .int _, _ => some false
  | .srep _ _, .str => some true
  | .srep _ _, _ => some false
  | .str _, .str => some true
  | .str _, _ => some false
  | .tup _, .tuple => some true
  | .tup _, _ => some false
  | .ftup _, .tuple => some true
  | .ftup _, _ => some false
  | .any, _ => none
  | .sl _, _ => none
  | .ls _, _ => none
  | .ch _, _ => none
  | .aint, _ => none
  | .rint _, _ => none
  | .obj a, _ => (match h.get a with
    | some (.lst _) => some false
    | some (.dct _) => some false
    | some (.dk _) => some false
    | _ => none)

def blsOf : List W → Option (List Bool)
  | [] => some []
  | .bl b :: r => (blsOf r).map (b :: ·)
  | _ :: _ => none
def intsOf : List W → Option (List Int)
  | [] => some []
  | .int i :: r => (intsOf r).map (i :: ·)
  | _ :: _ => none
def maxI (m : Int) : List Int → Int
  | [] => m
  | x :: r => maxI (if m < x then x else m) r
def minI (m : Int) : List Int → Int
  | [] => m
  | x :: r => minI (if x < m then x else m) r
/-- places a datum, behind those that are not greater -/
def ins1 {α : Type} (x : PyData × α) : List (PyData × α) → List (PyData × α)
  | [] => [x]
  | y :: r => if PySem.W.dataLt x.1 y.1 = true then x :: y :: r else y :: ins1 x r
def insAll {α : Type} : List (PyData × α) → List (PyData × α) → List (PyData × α)
  | acc, [] => acc
  | acc, x :: r => insAll (ins1 x acc) r
def pairUp : List PyData → List W → List (PyData × W)
  | d :: ds, w :: ws => (d, w) :: pairUp ds ws
  | _, _ => []
def alikes : List PyData → Bool
  | [] => true
  | [d] => PySem.W.alike d d
  | d :: e :: r => PySem.W.alike d d && PySem.W.alike d e && PySem.W.alike e d && alikes (e :: r)
/-- all of one kind: ints, or tuples not empty of one shape -/
def sortable : List PyData → Bool
  | ds => ds.all (fun d => match d with | .int _ => true | _ => false) || ds.all (fun d => match d with | .tuple (_ :: _) => true | _ => false) || (Nat.ble ds.length 1 && ds.all (fun d => match d with | .none => false | _ => true))
def alikeAll2 (ds : List PyData) : Bool := ds.all fun d => ds.all fun e => PySem.W.alike d e
def sortW (h : Hs) (ws : List W) : Option (List W) := match toDs (toD h dpth) ws with
  | some ds => if sortable ds = true ∧ alikeAll2 ds = true then some ((insAll [] (pairUp ds ws)).map (·.2)) else none
  | none => none

inductive Bi where
  | len | abs | all | any | sum | sorted | max | min | max2 | min2 | tuple | list | int | listRange | tupRange | str
def okL (o : Option (List W)) (h : Hs) : R W := match o with
  | some ws => .ok (.obj h.n) (h.push (.lst ws))
  | none => .no
def lenW (h : Hs) : W → Option Nat
  | .str x => if x.length ≤ sizeLine then some x.length else none
  | .obj a => (match h.get a with
    | some (.lst ws) => some ws.length
    | _ => none)
  | .tup ws => some ws.length
  | .ftup ws => some ws.length
  | .sl n => some n
  | .ls ns => some ns.length
  | .srep _ n => if n ≤ sizeLine then some n else none
  | _ => none
def keysOf (h : Hs) (w : W) : Option (List W) := seqOf h w
def rangeW (lo : Int) : Nat → List W
  | 0 => []
  | n + 1 => .int lo :: rangeW (lo + 1) n
def biW : Bi → List W → Hs → R W
  | .len, [a], h => (match lenW h a with
    | some n => .ok (.int n) h
    | none => .no)
  | .abs, [.int i], h => .ok (.int (if i < 0 then -i else i)) h
  | .all, [.obj a], h => (match h.get a with
    | some (.lst ws) => (match blsOf ws with
      | some bs => .ok (.bl (bs.all id)) h
      | none => .no)
    | _ => .no)
  | .any, [.obj a], h => (match h.get a with
    | some (.lst ws) => (match blsOf ws with
      | some bs => .ok (.bl (bs.any id)) h
      | none => .no)
    | _ => .no)
  | .sum, [.obj a], h => (match h.get a with
    | some (.lst ws) => (match intsOf ws with
      | some ns => .ok (.int ns.sum) h
      | none => .no)
    | _ => .no)
  | .max, [.obj a], h => (match h.get a with
    | some (.lst ws) => (match intsOf ws with
      | some (m :: ns) => .ok (.int (maxI m ns)) h
      | _ => .no)
    | _ => .no)
  | .min, [.obj a], h => (match h.get a with
    | some (.lst ws) => (match intsOf ws with
      | some (m :: ns) => .ok (.int (minI m ns)) h
      | _ => .no)
    | _ => .no)
  | .max2, [.int i, .int j], h => .ok (.int (if j > i then j else i)) h
  | .min2, [.int i, .int j], h => .ok (.int (if j < i then j else i)) h
  | .sorted, [a], h => (match keysOf h a with
    | some ws => okL (sortW h ws) h
    | none => .no)
  | .tuple, [a], h => (match seqOf h a with
    | some ws => .ok (.tup ws) h
    | none => .no)
  | .list, [a], h => okL (seqOf h a) h
  | .int, [.int i], h => .ok (.int i) h
  | .int, [.bl b], h => .ok (.int (if b = true then 1 else 0)) h
  | .str, [.str x], h => .ok (.str x) h
  | .str, [.int i], h => if i.natAbs.log2 < 1920 then .ok (.str (toString i)) h else .no
  | .tupRange, [.int j], h => if -1000 < j ∧ j < 1000 then .ok (.tup (rangeW 0 j.toNat)) h else .no
  | .tupRange, [.int i, .int j], h => if -1000 < i ∧ i < 1000 ∧ -1000 < j ∧ j < 1000 then .ok (.tup (rangeW i (j - i).toNat)) h else .no
  | .listRange, [.int j], h => if -1000 < j ∧ j < 1000 then okL (some (rangeW 0 j.toNat)) h else .no
  | .listRange, [.int i, .int j], h => if -1000 < i ∧ i < 1000 ∧ -1000 < j ∧ j < 1000 then okL (some (rangeW i (j - i).toNat)) h else .no
  | _, _, _ => .no

inductive Me where
  | append | extend | pop
def meW : Me → W → List W → Hs → R W
  | .append, .obj a, [w], h => (match h.get a with
    | some (.lst ws) => if ws.length < sizeLine then .ok .non (h.set a (.lst (ws ++ [w]))) else .no
    | _ => .no)
  | .extend, .obj a, [.obj b], h => (match h.get a, h.get b with
    | some (.lst ws), some (.lst xs) => if ws.length + xs.length ≤ sizeLine then .ok .non (h.set a (.lst (ws ++ xs))) else .no
    | _, _ => .no)
  | .pop, .obj a, [], h => (match h.get a with
    | some (.lst ws) => (match ws[ws.length - 1]? with
      | some w => .ok w (h.set a (.lst ws.dropLast))
      | none => .no)
    | _ => .no)
  | _, _, _, _ => .no

-- GsEv1
inductive Sm where
  | split | partition | join
/-- cut at each d -/
def spl1 (d : Nat) : List Nat → List (List Nat)
  | [] => [[]]
  | c :: r => match Nat.beq c d with
    | true => [] :: spl1 d r
    | false => (match spl1 d r with
      | p :: q => (c :: p) :: q
      | [] => [[c]])
def par1 (d : Nat) : List Nat → Option (List Nat × List Nat)
  | [] => none
  | c :: r => match Nat.beq c d with
    | true => some ([], r)
    | false => (par1 d r).map fun p => (c :: p.1, p.2)
def joinN (S : List Nat) : List (List Nat) → List Nat
  | [] => []
  | [p] => p
  | p :: q :: r => p ++ (S ++ joinN S (q :: r))
def strsOf : List W → Option (List Str)
  | [] => some []
  | .str x :: r => (strsOf r).map (x :: ·)
  | _ :: _ => none
def sep1 (b : Str) : Option Nat := match b.cps.toList with
  | [d] => if d < 256 then some d else none
  | _ => none
def strW (x : Str) : W := .str x
def smW : Sm → W → List W → Hs → R W
  | .split, .str a, [.str b], h => (match sep1 b with
    | some d => if a.length + 2 ≤ sizeLine then okL (some ((spl1 d a.cps.toList).map fun l => .str (mkS l))) h else .no
    | none => .no)
  | .split, .srep c n, [.str b], h => (match sep1 b with
    | some d => if (smallN n && !Nat.beq c d) = true then okL (some [.srep c n]) h else .no
    | none => .no)
  | .partition, .str a, [.str b], h => (match sep1 b with
    | some d => if a.length ≤ sizeLine then (match par1 d a.cps.toList with
      | some (l, r) => .ok (.tup [.str (mkS l), .str b, .str (mkS r)]) h
      | none => .ok (.tup [.str a, .str Str.empty, .str Str.empty]) h) else .no
    | none => .no)
  | .join, .str a, [c], h => (match seqOf h c with
    | some ws => (match strsOf ws with
      | some ys => if (ys.map (·.length)).sum + ys.length * a.length ≤ 16777216 then .ok (.str (mkS (joinN a.cps.toList (ys.map fun y => y.cps.toList)))) h else .no
      | none => .no)
    | none => .no)
  | _, _, _, _ => .no
def isS : W → Bool
  | .str _ => true
  | .srep _ _ => true
  | _ => false
/-- a part of f'..' -/
def fmtW (w : W) (h : Hs) : R W := match w with
  | .str x => if x.length ≤ 100000 then .ok (.str x) h else .no
  | .int i => if i.natAbs.log2 < 1920 ∧ (toString i : Str).length ≤ 100000 then .ok (.str (toString i)) h else .no
  | _ => .no
def fstW (ws : List W) (h : Hs) : R W := match strsOf ws with
  | some ys => .ok (.str (ys.foldl (· ++ ·) Str.empty)) h
  | none => .no
/-- a list of ours -/
def isL (h : Hs) : W → Bool
  | .obj a => (match h.get a with
    | some (.lst _) => true
    | _ => false)
  | _ => false
/-- (k1, k2, ..).index(k) -/
def tixW : List W → W → Hs → R W
  | ws, .int k, h => (match intsOf ws with
    | some ns => if k ∈ ns then .ok (.int (ns.idxOf k : Nat)) h else .no
    | none => .no)
  | _, _, _ => .no
/-- the key of a dict: a number, a text -/
def flatW : W → Bool
  | .int _ => true
  | .str _ => true
  | _ => false
def eqFlat : W → W → Bool
  | .int i, .int j => decide (i = j)
  | .str x, .str y => decide (x = y)
  | _, _ => false
def dkGet : List (W × W) → W → Option W
  | [], _ => none
  | p :: r, k => if eqFlat p.1 k = true then some p.2 else dkGet r k
def dkPut (kvs : List (W × W)) (k v : W) : List (W × W) := if kvs.any (fun p => eqFlat p.1 k) = true then kvs.map (fun p => if eqFlat p.1 k = true then (p.1, v) else p) else kvs ++ [(k, v)]
/-- d[k] -/
def dixW : W → W → Hs → R W
  | .obj a, k, h => (match h.get a with
    | some (.dk kvs) => if flatW k = true then okO (dkGet kvs k) h else .no
    | _ => .no)
  | _, _, _ => .no
/-- an instance of the class c -/
def insOf (c : Nat) (w : W) (h : Hs) : Option (Nat × List (Option W)) := match w with
  | .obj n => (match h.get n with
    | some (.ins d fs) => if Nat.beq d c = true then some (n, fs) else none
    | _ => none)
  | _ => none
def isIns (c : Nat) (w : W) (h : Hs) : Bool := (insOf c w h).isSome
def attW (c i : Nat) (w : W) (h : Hs) : R W := match insOf c w h with
  | some (_, fs) => (match fs[i]? with
    | some (some x) => .ok x h
    | _ => .no)
  | none => .no
def putF (i : Nat) (w : W) (fs : List (Option W)) : List (Option W) := (fs ++ List.replicate (i + 1 - fs.length) none).set i (some w)
def asetW (c i : Nat) (o w : W) (h : Hs) : R Unit := match insOf c o h with
  | some (n, fs) => .ok () (h.set n (.ins c (putF i w fs)))
  | none => .no
def madeW (n : Nat) (r : W) (h : Hs) : R W := match r with
  | .non => .ok (.obj n) h
  | _ => .no
/-- d[k] = w -/
def dsetW : W → W → W → Hs → R Unit
  | .obj a, k, w, h => (match h.get a with
    | some (.dk kvs) => if flatW k = true ∧ kvs.length < sizeLine then .ok () (h.set a (.dk (dkPut kvs k w))) else .no
    | _ => .no)
  | _, _, _, _ => .no
/-- some int -/
def W.wide : W → W
  | .rint _ => .aint
  | w => w
/-- o[i] = w -/
def setW : W → W → W → Hs → R Unit
  | .obj a, .int i, w, h => (match h.get a with
    | some (.lst ws) => (match ixN ws.length i with
      | some j => .ok () (h.set a (.lst (ws.set j w.wide)))
      | none => .no)
    | _ => .no)
  | _, _, _, _ => .no
-- GsEv1
def isI : W → Bool
  | .int _ => true
  | .aint => true
  | .rint _ => true
  | _ => false
def isAb : W → Bool
  | .aint => true
  | .rint _ => true
  | _ => false
def absB (a b : W) : Bool := match isAb a with
  | true => isI b
  | false => isAb b && isI a
def smallA : W → Bool
  | .int i => small i
  | .rint n => Nat.blt n 18446744073709551616
  | _ => false
def binA : BOp → W → W → Hs → R W
  | .add, _, _, h => .ok .aint h
  | .sub, _, _, h => .ok .aint h
  | .mul, a, b, h => if (smallA a || smallA b) = true then .ok .aint h else .no
  | .fdiv, _, .int j, h => if 0 < j ∧ j.natAbs.log2 < 9000 then .ok .aint h else .no
  | .mod, _, .int j, h => if 0 < j then .ok (.rint j.toNat) h else .no
  | _, _, _, _ => .no
def binX (o : BOp) (a b : W) (h : Hs) : R W := match absB a b with
  | true => binA o a b h
  | false => binW o a b h
def cmpA (o : COp) (h : Hs) : R W := match o with
  | .lt => .dr 2 fun i => .ok (.bl (Nat.beq i 0)) h
  | .le => .dr 2 fun i => .ok (.bl (Nat.beq i 0)) h
  | .gt => .dr 2 fun i => .ok (.bl (Nat.beq i 0)) h
  | .ge => .dr 2 fun i => .ok (.bl (Nat.beq i 0)) h
  | _ => .no
def cmpX (o : COp) (a b : W) (h : Hs) : R W := match absB a b with
  | true => cmpA o h
  | false => (match repC o a b h with
    | some r => r
    | none => cmpW o a b h)
/-- one of the items of a sequence, an int of a list -/
def ixA (a : W) (b : W) (h : Hs) : Option (R W) := match b with
  | .rint n => some (match seqOf h a with
    | some ws => if 0 < n ∧ n ≤ ws.length then .ok (.ch ws) h else .no
    | none => .no)
  | .int i => (match a with
    | .sl n => some (match ixN n i with
      | some _ => .ok .aint h
      | none => .no)
    | _ => none)
  | _ => none
def ixX (a b : W) (h : Hs) : R W := match ixA a b h with
  | some r => r
  | none => ixW a b h
def biA : Bi → List W → Option W
  | .abs, [a] => if isAb a = true then some .aint else none
  | .int, [a] => if isAb a = true then some a else none
  | .max2, [a, b] => if absB a b = true then some .aint else none
  | .min2, [a, b] => if absB a b = true then some .aint else none
  | _, _ => none
def biX (b : Bi) (ws : List W) (h : Hs) : R W := match biA b ws with
  | some w => .ok w h
  | none => biW b ws h
-- GsEv1
def Hs.same (h h' : Hs) : Bool := Nat.beq h.n h'.n && osSame h.c h'.c
def whSame : W × Hs → W × Hs → Bool
  | (w, h), (u, k) => w.same u && h.same k
def joinAll (f : Nat → Option (W × Hs)) : Nat → Option (W × Hs)
  | 0 => none
  | 1 => f 0
  | n + 2 => match joinAll f (n + 1), f (n + 1) with
    | some a, some b => if whSame a b = true then some a else none
    | _, _ => none
def joinR : R W → Option (W × Hs)
  | .ok w h => some (w, h)
  | .ex _ _ _ => none
  | .no => none
  | .dr n k => joinAll (fun i => joinR (k i)) n
end GS
-- GsEv2
namespace GS
open PySem

inductive Tg where
  | one (i : Nat) | many (is : List Nat)
mutual
inductive Ex where
  | var (i : Nat) | cst (w : W)
  | tup (es : Exs) | lst (es : Exs)
  | bin (o : BOp) (a b : Ex) | neg (a : Ex) | nt (a : Ex)
  | cmp (o : COp) (a b : Ex) | cmp2 (o o' : COp) (a b c : Ex)
  | and (a b : Ex) | or (a b : Ex) | ite (c a b : Ex)
  | ix (a i : Ex) | sl (a : Ex) (lo hi : Exs)
  | isa (a : Ex) (t : Ty)
  | bi (b : Bi) (es : Exs) | me (m : Me) (o : Ex) (es : Exs)
  | tix (es : Exs) (e : Ex)
  | call (f : Nat) (es : Exs)
  | lc (elt : Ex) (tg : Tg) (it : It) (ifs : Exs) (own : List Nat)
  | lc2 (elt : Ex) (tg : Tg) (it : It) (ifs : Exs) (tg1 : Tg) (it1 : It) (ifs1 : Exs) (own own1 : List Nat)
  /-- sorted({k: True for ..}), len({k: True for ..}) -/
  | dc (b : Bool) (k : Ex) (tg : Tg) (it : It) (own : List Nat)
  | met (e : Ex)
  | metD (own : List Nat) (e : Ex)
  | rp (e : Ex)
  | dnew
  /-- {} for ints and texts, o[k] of such a dict, o.index(k) of a tuple of ints -/
  | dnewK | dix (o k : Ex) | tixv (o k : Ex)
  /-- x.f a slot, a property (f its def), x.m(..), C(..) with its __init__ -/
  | att (c i : Nat) (x : Ex) | prp (c f : Nat) (x : Ex) | mth (c f : Nat) (x : Ex) (es : Exs) | mk (c f : Nat) (es : Exs)
  /-- a method of texts, f'..', a call of an instance -/
  | sm (m : Sm) (o : Ex) (es : Exs) | fst (es : Exs) | fmtE (e : Ex) | icall (c f : Nat) (x : Ex) (es : Exs)
  /-- all ways end alike -/
  | join (e : Ex)
  /-- a name's value as it is, a display told as what it is -/
  | varF (i : Nat) | tupF (es : Exs)
  /-- e at every choice of these names; all tell the same -/
  | fork (is : List Nat) (e : Ex)
inductive Exs where
  | nil | cons (e : Ex) (r : Exs) | star (e : Ex) (r : Exs)
inductive It where
  | seq (e : Ex) | rng (es : Exs) | enm (e : Ex) | zip (a b : Ex)
end
inductive At where
  | nm (i : Nat) | ix (o i : Ex)
mutual
inductive St where
  | set (i : Nat) (e : Ex) | setT (is : List Nat) (e : Ex) | par (is : List Nat) (es : Exs) | asg (ts : List At) (e : Ex) | setIx (o i e : Ex) | setDx (o i e : Ex) | setA (c i : Nat) (o e : Ex)
  | aug (o : BOp) (i : Nat) (e : Ex) | drop (e : Ex) | ret (e : Ex) | retN | pass | brk | cnt
  | ifS (c : Ex) (a b : Sts) | whl (c : Ex) (b : Sts) | for (tg : Tg) (it : It) (b : Sts)
  | rse (c : Nat) (e : Ex)
  /-- try, nothing is raised within -/
  | tryN (b : Sts)
inductive Sts where
  | nil | cons (s : St) (r : Sts)
  /-- b at every choice of these names: all go on, or all end alike; own: what b stores -/
  | fork (is own : List Nat) (b r : Sts)
end

abbrev Env := List (Option W)
inductive Fl where
  | nx (v : Env) | rt (w : W) | bk (v : Env) | ct (v : Env)
/-- what calls, what runs a lambda within the law's own catcher -/
structure Cl where
  call : Nat → List W → Hs → R W
  met : Ex → Env → Hs → R W

def asB (w : W) (h : Hs) : R Bool := match w with
  | .bl b => .ok b h
  | _ => .no
def negW (w : W) (h : Hs) : R W := match w with
  | .int i => .ok (.int (-i)) h
  | _ => .no
def isT : W → Bool
  | .tup _ => true
  | _ => false
def zipOk (h : Hs) (x y : W) : Bool := (isL h x || isT x) && (isL h y || isT y)
/-- nothing is let out -/
def R.noEx {α : Type} : R α → R α
  | .ok a h => .ok a h
  | .ex _ _ _ => .no
  | .no => .no
  | .dr n k => .dr n fun i => (k i).noEx
inductive ItV where
  | sq (w : W) | rg (lo : Int) (n : Nat) | en (w : W) | zp (a b : W)
/-- the item at a turn: none: stuck, some none: the end -/
def itAt : ItV → Nat → Hs → Option (Option W)
  | .sq w, i, h => (match seqOf h w with
    | some ws => some ws[i]?
    | none => none)
  | .rg lo n, i, _ => some (if i < n then some (.int (lo + i)) else none)
  | .en w, i, h => (match seqOf h w with
    | some ws => some (match ws[i]? with
      | some x => some (.tup [.int i, x])
      | none => none)
    | none => none)
  | .zp a b, i, h => (match seqOf h a, seqOf h b with
    | some xs, some ys => some (match xs[i]?, ys[i]? with
      | some x, some y => some (.tup [x, y])
      | _, _ => none)
    | _, _ => none)
def rngV : List W → Option ItV
  | [.int j] => if -1000000 < j ∧ j < 1000000 then some (.rg 0 j.toNat) else none
  | [.int i, .int j] => if -1000000 < i ∧ i < 1000000 ∧ -1000000 < j ∧ j < 1000000 then some (.rg i (j - i).toNat) else none
  | _ => none
def setMany : List Nat → List W → Env → Option Env
  | [], [], v => some v
  | i :: is, w :: ws, v => if i < v.length then setMany is ws (v.set i (some w)) else none
  | _, _, _ => none
def setTg : Tg → W → Env → Option Env
  | .one i, w, v => if i < v.length then some (v.set i (some w)) else none
  | .many is, .tup ws, v => setMany is ws v
  | _, _, _ => none
def wipeE (v : Env) : List Nat → Env
  | [] => v
  | i :: is => (wipeE v is).set i none
/-- the key of a dict: a tuple of numbers, texts -/
def tkey : W → Bool
  | .tup ws => ws.all flatW
  | _ => false
def eqFlats : List W → List W → Bool
  | [], [] => true
  | x :: xs, y :: ys => eqFlat x y && eqFlats xs ys
  | _, _ => false
def eqKey : W → W → Bool
  | .tup xs, .tup ys => eqFlats xs ys
  | _, _ => false
/-- one more key: of a tuple, or of an int or a text -/
def addK (b : Bool) (a : W) (acc : List (W × W)) : Option (List (W × W)) := if acc.length < sizeLine then (match b with
  | true => if tkey a = true then some (if acc.any (fun p => eqKey p.1 a) = true then acc else acc ++ [(a, .bl true)]) else none
  | false => if flatW a = true then some (dkPut acc a (.bl true)) else none) else none
def dcEnd : Bool → List (W × W) → Hs → R W
  | true, acc, h => if acc.length ≤ sizeLine then okL (sortW h (acc.map (·.1))) h else .no
  | false, acc, h => .ok (.int acc.length) h

/-- all choices of these names -/
def splits : List Nat → Env → List Env
  | [], v => [v]
  | i :: is, v => match v[i]? with
    | some (some (.ch ws)) => ws.flatMap fun w => splits is (v.set i (some w))
    | _ => splits is v
/-- what all tell -/
def oneW (h : Hs) : List (R W) → Option W
  | [] => none
  | [.ok w h'] => if w.pure && h.keeps h' then some w else none
  | .ok w h' :: r => if w.pure && h.keeps h' then (match oneW h r with
    | some u => if w.same u then some u else none
    | none => none) else none
  | _ => none
def envSame : List Nat → Nat → Env → Env → Bool
  | _, _, [], [] => true
  | own, i, a :: v, b :: v' => (own.contains i || (match a, b with
    | none, none => true
    | some w, some u => w.same u
    | _, _ => false)) && envSame own (i + 1) v v'
  | _, _, _, _ => false
inductive FO where
  | nx | rt (w : W)
def FO.same : FO → FO → Bool
  | .nx, .nx => true
  | .rt a, .rt b => a.same b
  | _, _ => false
def flOut (own : List Nat) (v : Env) (h : Hs) : R Fl → Option FO
  | .ok (.nx v') h' => if envSame own 0 v v' && h.keeps h' then some .nx else none
  | .ok (.rt w) h' => if w.pure && h.keeps h' then some (.rt w) else none
  | _ => none
def oneF (own : List Nat) (h : Hs) (f : Env → R Fl) : List Env → Option FO
  | [] => none
  | [v] => flOut own v h (f v)
  | v :: r => match flOut own v h (f v) with
    | some a => (match oneF own h f r with
      | some b => if a.same b then some b else none
      | none => none)
    | none => none

mutual
def rE (C : Cl) : Nat → Ex → Env → Hs → R W
  | 0, _, _, _ => .no
  | n + 1, e, v, h => match e with
    | .var i => (match v[i]? with
      | some (some w) => .ok w.weak h
      | _ => .no)
    | .varF i => (match v[i]? with
      | some (some w) => .ok w h
      | _ => .no)
    | .tupF es => (rEs C n es v h).bind fun ws h => if okLen ws = true then .ok (.ftup ws) h else .no
    | .cst w => .ok w h
    | .tup es => (rEs C n es v h).bind fun ws h => if okLen ws = true then .ok (.tup ws) h else .no
    | .lst es => (rEs C n es v h).bind fun ws h => if okLen ws = true then .ok (.obj h.n) (h.push (.lst ws)) else .no
    | .bin o a b => (rE C n a v h).bind fun x h => (rE C n b v h).bind fun y h => binX o x y h
    | .neg a => (rE C n a v h).bind negW
    | .nt a => (rE C n a v h).bind fun w h => (asB w h).bind fun b h => .ok (.bl (!b)) h
    | .cmp o a b => (rE C n a v h).bind fun x h => (rE C n b v h).bind fun y h => cmpX o x y h
    | .cmp2 o o' a b c => (rE C n a v h).bind fun x h => (rE C n b v h).bind fun y h => (cmpX o x y h).bind fun r h => (asB r h).bind fun t h => match t with
      | true => (rE C n c v h).bind fun z h => cmpX o' y z h
      | false => .ok (.bl false) h
    | .and a b => (rE C n a v h).bind fun w h => (asB w h).bind fun t h => match t with
      | true => rE C n b v h
      | false => .ok (.bl false) h
    | .or a b => (rE C n a v h).bind fun w h => (asB w h).bind fun t h => match t with
      | true => .ok (.bl true) h
      | false => rE C n b v h
    | .ite c a b => (rE C n c v h).bind fun w h => (asB w h).bind fun t h => match t with
      | true => rE C n a v h
      | false => rE C n b v h
    | .ix a i => (rE C n a v h).bind fun x h => (rE C n i v h).bind fun y h => ixX x y h
    | .sl a lo hi => (rE C n a v h).bind fun x h => (rO C n lo v h).bind fun l h => (rO C n hi v h).bind fun u h => slW x l u h
    | .isa a t => (rE C n a v h).bind fun x h => (match isaW h x t with
      | some b => .ok (.bl b) h
      | none => .no)
    | .bi b es => (rEs C n es v h).bind fun ws h => biX b ws h
    | .me m o es => (rE C n o v h).bind fun x h => if isL h x = true then (rEs C n es v h).bind fun ws h => meW m x ws h else .no
    | .tix es e => (rEs C n es v h).bind fun ws h => if okLen ws = true then (rE C n e v h).bind fun w h => tixW ws w h else .no
    | .call f es => (rEs C n es v h).bind fun ws h => C.call f ws h
    | .lc elt tg it ifs own => (rI C n it v h).bind fun I h => (rLc C n elt tg I ifs 0 0 (wipeE v own) h).noEx.bind fun ws h => .ok (.obj h.n) (h.push (.lst ws))
    | .lc2 elt tg it ifs tg1 it1 ifs1 own own1 => (rI C n it v h).bind fun I h => (rLc2 C n elt tg I ifs tg1 it1 ifs1 own1 0 0 (wipeE v own) h).noEx.bind fun ws h => .ok (.obj h.n) (h.push (.lst ws))
    | .dc b k tg it own => (rI C n it v h).bind fun I h => (rDc C n b k tg I 0 [] (wipeE v own) h).noEx.bind (dcEnd b)
    | .met e => C.met e v h
    | .metD own e => C.met e (wipeE v own) h
    | .rp e => (rE C n e v h).bind fun w h => (match reprW h w with
      | some t => .ok (.str t) h
      | none => .no)
    | .dnew => .ok (.obj h.n) (h.push (.dct []))
    | .dnewK => .ok (.obj h.n) (h.push (.dk []))
    | .dix a i => (rE C n a v h).bind fun x h => (rE C n i v h).bind fun y h => dixW x y h
    | .tixv a i => (rE C n a v h).bind fun x h => (match x with
      | .ftup ws => (rE C n i v h).bind fun y h => tixW ws y h
      | _ => .no)
    | .att c i x => (rE C n x v h).bind (attW c i)
    | .prp c f x => (rE C n x v h).bind fun o h => if isIns c o h = true then (C.call f [o] h).noEx else .no
    | .mth c f x es => (rE C n x v h).bind fun o h => if isIns c o h = true then (rEs C n es v h).bind fun ws h => C.call f (o :: ws) h else .no
    | .mk c f es => (rEs C n es v h).bind fun ws h => (C.call f (.obj h.n :: ws) (h.push (.ins c []))).bind (madeW h.n)
    | .sm m o es => (rE C n o v h).bind fun x h => if isS x = true then (rEs C n es v h).bind fun ws h => smW m x ws h else .no
    | .fst es => (rEs C n es v h).bind fstW
    | .fmtE e => (rE C n e v h).bind fmtW
    | .icall c f x es => (rE C n x v h).bind fun o h => if isIns c o h = true then (rEs C n es v h).bind fun ws h => if isIns c o h = true then C.call f (o :: ws) h else .no else .no
    | .join e => (match joinR (rE C n e v h) with
      | some (w, h) => .ok w h
      | none => .no)
    | .fork is e => (match oneW h ((splits is v).map fun v => rE C n e v h) with
      | some w => .ok w h
      | none => .no)
def rEs (C : Cl) : Nat → Exs → Env → Hs → R (List W)
  | 0, _, _, _ => .no
  | n + 1, es, v, h => match es with
    | .nil => .ok [] h
    | .cons e r => (rE C n e v h).bind fun w h => (rEs C n r v h).bind fun ws h => .ok (w :: ws) h
    | .star e r => (rE C n e v h).bind fun w h => (match seqOf h w with
      | some us => (rEs C n r v h).bind fun ws h => .ok (us ++ ws) h
      | none => .no)
def rO (C : Cl) : Nat → Exs → Env → Hs → R (Option Int)
  | 0, _, _, _ => .no
  | n + 1, es, v, h => match es with
    | .nil => .ok none h
    | .cons e .nil => (rE C n e v h).bind fun w h => (match w with
      | .int i => .ok (some i) h
      | _ => .no)
    | _ => .no
def rI (C : Cl) : Nat → It → Env → Hs → R ItV
  | 0, _, _, _ => .no
  | n + 1, it, v, h => match it with
    | .seq e => (rE C n e v h).bind fun w h => (match seqOf h w with
      | some _ => .ok (.sq w.weak) h
      | none => .no)
    | .rng es => (rEs C n es v h).bind fun ws h => (match rngV ws with
      | some I => .ok I h
      | none => .no)
    | .enm e => (rE C n e v h).bind fun w h => if (isL h w.weak || isT w.weak) = true then .ok (.en w.weak) h else .no
    | .zip a b => (rE C n a v h).bind fun x h => (rE C n b v h).bind fun y h => if zipOk h x.weak y.weak = true then .ok (.zp x.weak y.weak) h else .no
/-- the tests of a comprehension -/
def rT (C : Cl) : Nat → Exs → Env → Hs → R Bool
  | 0, _, _, _ => .no
  | n + 1, es, v, h => match es with
    | .nil => .ok true h
    | .cons e .nil => (rE C n e v h).bind fun w h => asB w h
    | _ => .no
def rLc (C : Cl) : Nat → Ex → Tg → ItV → Exs → Nat → Nat → Env → Hs → R (List W)
  | 0, _, _, _, _, _, _, _, _ => .no
  | n + 1, elt, tg, I, ifs, i, k, v, h => match itAt I i h with
    | none => .no
    | some none => .ok [] h
    | some (some x) => (match setTg tg x v with
      | none => .no
      | some v2 => (rT C n ifs v2 h).bind fun t h => (match t with
        | true => (rE C n elt v2 h).bind fun w h => if k < sizeLine then (rLc C n elt tg I ifs (i + 1) (k + 1) v h).bind fun ws h => .ok (w :: ws) h else .no
        | false => rLc C n elt tg I ifs (i + 1) k v h))
def rLc2 (C : Cl) : Nat → Ex → Tg → ItV → Exs → Tg → It → Exs → List Nat → Nat → Nat → Env → Hs → R (List W)
  | 0, _, _, _, _, _, _, _, _, _, _, _, _ => .no
  | n + 1, elt, tg, I, ifs, tg1, it1, ifs1, own1, i, k, v, h => match itAt I i h with
    | none => .no
    | some none => .ok [] h
    | some (some x) => (match setTg tg x v with
      | none => .no
      | some v2 => (rT C n ifs v2 h).bind fun t h => (match t with
        | true => (rI C n it1 v2 h).bind fun J h => (rLc C n elt tg1 J ifs1 0 k (wipeE v2 own1) h).bind fun ws h => (rLc2 C n elt tg I ifs tg1 it1 ifs1 own1 (i + 1) (k + ws.length) v h).bind fun us h => .ok (ws ++ us) h
        | false => rLc2 C n elt tg I ifs tg1 it1 ifs1 own1 (i + 1) k v h))
def rDc (C : Cl) : Nat → Bool → Ex → Tg → ItV → Nat → List (W × W) → Env → Hs → R (List (W × W))
  | 0, _, _, _, _, _, _, _, _ => .no
  | n + 1, b, k, tg, I, i, acc, v, h => match itAt I i h with
    | none => .no
    | some none => .ok acc h
    | some (some y) => (match setTg tg y v with
      | none => .no
      | some v2 => (rE C n k v2 h).bind fun a h => (match addK b a acc with
        | some acc => rDc C n b k tg I (i + 1) acc v h
        | none => .no))
end
def setAt (C : Cl) (n : Nat) : At → W → Env → Hs → R Env
  | .nm i, w, v, h => if i < v.length then .ok (v.set i (some w)) h else .no
  | .ix o i, w, v, h => (rE C n o v h).bind fun x h => (rE C n i v h).bind fun y h => (setW x y w h).bind fun _ h => .ok v h
def setAts (C : Cl) (n : Nat) : List At → List W → Env → Hs → R Env
  | [], [], v, h => .ok v h
  | t :: ts, w :: ws, v, h => (setAt C n t w v h).bind fun v h => setAts C n ts ws v h
  | _, _, _, _ => .no
mutual
def rS (C : Cl) : Nat → St → Env → Hs → R Fl
  | 0, _, _, _ => .no
  | n + 1, s, v, h => match s with
    | .set i e => (rE C n e v h).bind fun w h => if i < v.length then .ok (.nx (v.set i (some w))) h else .no
    | .setT is e => (rE C n e v h).bind fun w h => (match setTg (.many is) w v with
      | some v2 => .ok (.nx v2) h
      | none => .no)
    | .par is es => (rEs C n es v h).bind fun ws h => (match setMany is ws v with
      | some v2 => .ok (.nx v2) h
      | none => .no)
    | .asg ts e => (rE C n e v h).bind fun w h => (match w with
      | .tup ws => if ws.length = ts.length then (setAts C n ts ws v h).bind fun v h => .ok (.nx v) h else .no
      | _ => .no)
    | .setIx o i e => (rE C n e v h).bind fun w h => (rE C n o v h).bind fun x h => (rE C n i v h).bind fun y h => (setW x y w h).bind fun _ h => .ok (.nx v) h
    | .setA c i o e => (rE C n e v h).bind fun w h => (rE C n o v h).bind fun x h => (asetW c i x w h).bind fun _ h => .ok (.nx v) h
    | .setDx o i e => (rE C n e v h).bind fun w h => (rE C n o v h).bind fun x h => (rE C n i v h).bind fun y h => (dsetW x y w h).bind fun _ h => .ok (.nx v) h
    | .aug o i e => (match v[i]? with
      | some (some x) => (rE C n e v h).bind fun y h => (augW o x y h).bind fun w h => .ok (.nx (v.set i (some w))) h
      | _ => .no)
    | .drop e => (rE C n e v h).bind fun _ h => .ok (.nx v) h
    | .ret e => (rE C n e v h).bind fun w h => .ok (.rt w) h
    | .retN => .ok (.rt .non) h
    | .pass => .ok (.nx v) h
    | .brk => .ok (.bk v) h
    | .cnt => .ok (.ct v) h
    | .ifS c a b => (rE C n c v h).bind fun w h => (asB w h).bind fun t h => (match t with
      | true => rSs C n a v h
      | false => rSs C n b v h)
    | .whl c b => rWh C n c b v h
    | .for tg it b => (rI C n it v h).bind fun I h => rFor C n tg I b 0 v h
    | .rse c e => (rE C n e v h).bind fun w h => if w.pure = true then .ex c w h else .no
    | .tryN b => (rSs C n b v h).noEx
def rSs (C : Cl) : Nat → Sts → Env → Hs → R Fl
  | 0, _, _, _ => .no
  | n + 1, ss, v, h => match ss with
    | .nil => .ok (.nx v) h
    | .cons s r => (rS C n s v h).bind fun f h => (match f with
      | .nx v => rSs C n r v h
      | f => .ok f h)
    | .fork is own b r => (match oneF own h (fun v => rSs C n b v h) (splits is v) with
      | some .nx => rSs C n r (wipeE v own) h
      | some (.rt w) => .ok (.rt w) h
      | none => .no)
def rWh (C : Cl) : Nat → Ex → Sts → Env → Hs → R Fl
  | 0, _, _, _, _ => .no
  | n + 1, c, b, v, h => (rE C n c v h).bind fun w h => (asB w h).bind fun t h => (match t with
    | true => (rSs C n b v h).bind fun f h => (match f with
      | .nx v => rWh C n c b v h
      | .ct v => rWh C n c b v h
      | .bk v => .ok (.nx v) h
      | .rt w => .ok (.rt w) h)
    | false => .ok (.nx v) h)
def rFor (C : Cl) : Nat → Tg → ItV → Sts → Nat → Env → Hs → R Fl
  | 0, _, _, _, _, _, _ => .no
  | n + 1, tg, I, b, i, v, h => match itAt I i h with
    | none => .no
    | some none => .ok (.nx v) h
    | some (some x) => (match setTg tg x v with
      | none => .no
      | some v2 => (rSs C n b v2 h).bind fun f h => (match f with
        | .nx v => rFor C n tg I b (i + 1) v h
        | .ct v => rFor C n tg I b (i + 1) v h
        | .bk v => .ok (.nx v) h
        | .rt w => .ok (.rt w) h))
end

/-- a def: its parameters, whether the last one takes the rest, its slots, its body -/
structure FnI where
  np : Nat
  star : Bool
  ns : Nat
  body : Sts
structure Pg where
  fns : Nat → Option FnI
  ext : Nat → Nat → List W → Hs → R W
  hnd : Nat → W → Option W
  fine : W
  fuel : Nat
  /-- defs that want no guard around them -/
  hot : Nat → Bool
def bindW (F : FnI) (ws : List W) : Option Env :=
  if F.star = true then (if F.np ≤ ws.length ∧ ws.length ≤ 1000 then some ((ws.take F.np).map some ++ [some (.tup (ws.drop F.np))] ++ List.replicate (F.ns - F.np - 1) none) else none)
  else (if ws.length = F.np then some (ws.map some ++ List.replicate (F.ns - F.np) none) else none)
def retOf : R Fl → R W
  | .ok (.rt w) h => .ok w h
  | .ok (.nx _) h => .ok .non h
  | .ok _ _ => .no
  | .ex c w h => .ex c w h
  | .no => .no
  | .dr n k => .dr n fun i => retOf (k i)
/-- what comes out of a call upon a heap of its own -/
def outOf (h : Hs) : R W → R W
  | .ok w h' => if w.pure = true then .ok w h else .ok (w.shift h.n) (h.join h')
  | .ex c w _ => if w.pure = true then .ex c w h else .no
  | .no => .no
  | .dr n k => .dr n fun i => outOf h (k i)
def metW (P : Pg) : R W → R W
  | .ok _ h => .ok P.fine h
  | .ex c w h => (match P.hnd c w with
    | some x => .ok x h
    | none => .no)
  | .no => .no
  | .dr n k => .dr n fun i => metW P (k i)
def runF (P : Pg) (C : Cl) (F : FnI) (ws : List W) (h : Hs) : R W := match bindW F ws with
  | some v => if W.pures ws = true then outOf h (retOf (rSs C P.fuel F.body v .nil)) else retOf (rSs C P.fuel F.body v h)
  | none => .no
def rC (P : Pg) : Nat → Cl
  | 0 => ⟨fun _ _ _ => .no, fun _ _ _ => .no⟩
  | 1 => ⟨fun f ws h => match P.fns f with
    | some F => runF P ⟨fun _ _ _ => .no, fun _ _ _ => .no⟩ F ws h
    | none => P.ext 1 f ws h, fun _ _ _ => .no⟩
  | k + 2 => ⟨fun f ws h => match P.fns f with
    | some F => runF P (rC P (k + 1)) F ws h
    | none => P.ext (k + 2) f ws h, fun e v h => metW P (rE (rC P k) P.fuel e v h)⟩
end GS
-- GsFast
namespace GS
open PySem

structure Rec where
  e : Ex → Env → Hs → R W
  es : Exs → Env → Hs → R (List W)
  o : Exs → Env → Hs → R (Option Int)
  i : It → Env → Hs → R ItV
  t : Exs → Env → Hs → R Bool
  lc : Ex → Tg → ItV → Exs → Nat → Nat → Env → Hs → R (List W)
  lc2 : Ex → Tg → ItV → Exs → Tg → It → Exs → List Nat → Nat → Nat → Env → Hs → R (List W)
  dc : Bool → Ex → Tg → ItV → Nat → List (W × W) → Env → Hs → R (List (W × W))
def Rec.bot : Rec := ⟨fun _ _ _ => .no, fun _ _ _ => .no, fun _ _ _ => .no, fun _ _ _ => .no, fun _ _ _ => .no, fun _ _ _ _ _ _ _ _ => .no, fun _ _ _ _ _ _ _ _ _ _ _ _ => .no, fun _ _ _ _ _ _ _ _ => .no⟩

def aVar (v : Env) (i : Nat) (h : Hs) : R W := match v[i]? with
  | some (some w) => .ok w.weak h
  | _ => .no
def aVarF (v : Env) (i : Nat) (h : Hs) : R W := match v[i]? with
  | some (some w) => .ok w h
  | _ => .no
def kTup (ws : List W) (h : Hs) : R W := if okLen ws = true then .ok (.tup ws) h else .no
def kTupF (ws : List W) (h : Hs) : R W := if okLen ws = true then .ok (.ftup ws) h else .no
def kLst (ws : List W) (h : Hs) : R W := if okLen ws = true then .ok (.obj h.n) (h.push (.lst ws)) else .no
def aBin (o : BOp) (r : R W) (q : Hs → R W) : R W := r.bind fun x h => (q h).bind fun y h => binX o x y h
def aCmp (o : COp) (r : R W) (q : Hs → R W) : R W := r.bind fun x h => (q h).bind fun y h => cmpX o x y h
def aCmp2 (o o' : COp) (r : R W) (q s : Hs → R W) : R W := r.bind fun x h => (q h).bind fun y h => (cmpX o x y h).bind fun r h => (asB r h).bind fun t h => match t with
  | true => (s h).bind fun z h => cmpX o' y z h
  | false => .ok (.bl false) h
def kNt (w : W) (h : Hs) : R W := (asB w h).bind fun b h => .ok (.bl (!b)) h
def aAnd (r : R W) (q : Hs → R W) : R W := r.bind fun w h => (asB w h).bind fun t h => match t with
  | true => q h
  | false => .ok (.bl false) h
def aOr (r : R W) (q : Hs → R W) : R W := r.bind fun w h => (asB w h).bind fun t h => match t with
  | true => .ok (.bl true) h
  | false => q h
def aIte (r : R W) (q s : Hs → R W) : R W := r.bind fun w h => (asB w h).bind fun t h => match t with
  | true => q h
  | false => s h
def aIx (r : R W) (q : Hs → R W) : R W := r.bind fun x h => (q h).bind fun y h => ixX x y h
def aDix (r : R W) (q : Hs → R W) : R W := r.bind fun x h => (q h).bind fun y h => dixW x y h
def aSl (r : R W) (q s : Hs → R (Option Int)) : R W := r.bind fun x h => (q h).bind fun l h => (s h).bind fun u h => slW x l u h
def kIsa (t : Ty) (x : W) (h : Hs) : R W := match isaW h x t with
  | some b => .ok (.bl b) h
  | none => .no
def aMe (m : Me) (r : R W) (q : Hs → R (List W)) : R W := r.bind fun x h => if isL h x = true then (q h).bind fun ws h => meW m x ws h else .no
def aSm (m : Sm) (r : R W) (q : Hs → R (List W)) : R W := r.bind fun x h => if isS x = true then (q h).bind fun ws h => smW m x ws h else .no
def aTix (r : R (List W)) (q : Hs → R W) : R W := r.bind fun ws h => if okLen ws = true then (q h).bind fun w h => tixW ws w h else .no
def aTixv (r : R W) (q : Hs → R W) : R W := r.bind fun x h => (match x with
  | .ftup ws => (q h).bind fun y h => tixW ws y h
  | _ => .no)
def aPrp (C : Cl) (c f : Nat) (o : W) (h : Hs) : R W := if isIns c o h = true then (C.call f [o] h).noEx else .no
def aMth (C : Cl) (c f : Nat) (r : R W) (q : Hs → R (List W)) : R W := r.bind fun o h => if isIns c o h = true then (q h).bind fun ws h => C.call f (o :: ws) h else .no
def aIcall (C : Cl) (c f : Nat) (r : R W) (q : Hs → R (List W)) : R W := r.bind fun o h => if isIns c o h = true then (q h).bind fun ws h => if isIns c o h = true then C.call f (o :: ws) h else .no else .no
def kMk (C : Cl) (c f : Nat) (ws : List W) (h : Hs) : R W := (C.call f (.obj h.n :: ws) (h.push (.ins c []))).bind (madeW h.n)
def kNew (ws : List W) (h : Hs) : R W := .ok (.obj h.n) (h.push (.lst ws))
def kNewD (kvs : List (W × W)) (h : Hs) : R W := if okLen kvs = true then .ok (.obj h.n) (h.push (.dct kvs)) else .no
def kRp (w : W) (h : Hs) : R W := match reprW h w with
  | some t => .ok (.str t) h
  | none => .no
def aOne (h : Hs) (l : List (R W)) : R W := match oneW h l with
  | some w => .ok w h
  | none => .no
def aJoin (r : R W) : R W := match joinR r with
  | some (w, h) => .ok w h
  | none => .no
def stepE (C : Cl) (r : Rec) : Ex → Env → Hs → R W
  | .var i, v, h => aVar v i h
  | .varF i, v, h => aVarF v i h
  | .tupF es, v, h => (r.es es v h).bind kTupF
  | .cst w, _, h => .ok w h
  | .tup es, v, h => (r.es es v h).bind kTup
  | .lst es, v, h => (r.es es v h).bind kLst
  | .bin o a b, v, h => aBin o (r.e a v h) (r.e b v)
  | .neg a, v, h => (r.e a v h).bind negW
  | .nt a, v, h => (r.e a v h).bind kNt
  | .cmp o a b, v, h => aCmp o (r.e a v h) (r.e b v)
  | .cmp2 o o' a b c, v, h => aCmp2 o o' (r.e a v h) (r.e b v) (r.e c v)
  | .and a b, v, h => aAnd (r.e a v h) (r.e b v)
  | .or a b, v, h => aOr (r.e a v h) (r.e b v)
  | .ite c a b, v, h => aIte (r.e c v h) (r.e a v) (r.e b v)
  | .ix a i, v, h => aIx (r.e a v h) (r.e i v)
  | .sl a lo hi, v, h => aSl (r.e a v h) (r.o lo v) (r.o hi v)
  | .isa a t, v, h => (r.e a v h).bind (kIsa t)
  | .bi b es, v, h => (r.es es v h).bind (biX b)
  | .me m o es, v, h => aMe m (r.e o v h) (r.es es v)
  | .tix es e, v, h => aTix (r.es es v h) (r.e e v)
  | .call f es, v, h => (r.es es v h).bind (C.call f)
  | .lc elt tg it ifs own, v, h => (r.i it v h).bind fun I h => (r.lc elt tg I ifs 0 0 (wipeE v own) h).noEx.bind kNew
  | .lc2 elt tg it ifs tg1 it1 ifs1 own own1, v, h => (r.i it v h).bind fun I h => (r.lc2 elt tg I ifs tg1 it1 ifs1 own1 0 0 (wipeE v own) h).noEx.bind kNew
  | .dc b k tg it own, v, h => (r.i it v h).bind fun I h => (r.dc b k tg I 0 [] (wipeE v own) h).noEx.bind (dcEnd b)
  | .met e, v, h => C.met e v h
  | .metD own e, v, h => C.met e (wipeE v own) h
  | .rp e, v, h => (r.e e v h).bind kRp
  | .dnew, _, h => .ok (.obj h.n) (h.push (.dct []))
  | .dnewK, _, h => .ok (.obj h.n) (h.push (.dk []))
  | .dix a i, v, h => aDix (r.e a v h) (r.e i v)
  | .tixv a i, v, h => aTixv (r.e a v h) (r.e i v)
  | .att c i x, v, h => (r.e x v h).bind (attW c i)
  | .prp c f x, v, h => (r.e x v h).bind (aPrp C c f)
  | .mth c f x es, v, h => aMth C c f (r.e x v h) (r.es es v)
  | .mk c f es, v, h => (r.es es v h).bind (kMk C c f)
  | .sm m o es, v, h => aSm m (r.e o v h) (r.es es v)
  | .fst es, v, h => (r.es es v h).bind fstW
  | .fmtE e, v, h => (r.e e v h).bind fmtW
  | .icall c f x es, v, h => aIcall C c f (r.e x v h) (r.es es v)
  | .join e, v, h => aJoin (r.e e v h)
  | .fork is e, v, h => aOne h ((splits is v).map fun v => r.e e v h)
def aCons (r : R W) (q : Hs → R (List W)) : R (List W) := r.bind fun w h => (q h).bind fun ws h => .ok (w :: ws) h
def aStar (r : R W) (q : Hs → R (List W)) : R (List W) := r.bind fun w h => (match seqOf h w with
  | some us => (q h).bind fun ws h => .ok (us ++ ws) h
  | none => .no)
def stepEs (r : Rec) : Exs → Env → Hs → R (List W)
  | .nil, _, h => .ok [] h
  | .cons e q, v, h => aCons (r.e e v h) (r.es q v)
  | .star e q, v, h => aStar (r.e e v h) (r.es q v)
def kO (w : W) (h : Hs) : R (Option Int) := match w with
  | .int i => .ok (some i) h
  | _ => .no
def stepO (r : Rec) : Exs → Env → Hs → R (Option Int)
  | .nil, _, h => .ok none h
  | .cons e .nil, v, h => (r.e e v h).bind kO
  | _, _, _ => .no
def kSeq (w : W) (h : Hs) : R ItV := match seqOf h w with
  | some _ => .ok (.sq w.weak) h
  | none => .no
def kRng (ws : List W) (h : Hs) : R ItV := match rngV ws with
  | some I => .ok I h
  | none => .no
def kEnm (w : W) (h : Hs) : R ItV := if (isL h w.weak || isT w.weak) = true then .ok (.en w.weak) h else .no
def aZip (r : R W) (q : Hs → R W) : R ItV := r.bind fun x h => (q h).bind fun y h => if zipOk h x.weak y.weak = true then .ok (.zp x.weak y.weak) h else .no
def stepI (r : Rec) : It → Env → Hs → R ItV
  | .seq e, v, h => (r.e e v h).bind kSeq
  | .rng es, v, h => (r.es es v h).bind kRng
  | .enm e, v, h => (r.e e v h).bind kEnm
  | .zip a b, v, h => aZip (r.e a v h) (r.e b v)
def stepT (r : Rec) : Exs → Env → Hs → R Bool
  | .nil, _, h => .ok true h
  | .cons e .nil, v, h => (r.e e v h).bind asB
  | _, _, _ => .no
def kKeep (k : Nat) (go : Hs → R (List W)) (w : W) (h : Hs) : R (List W) := if k < sizeLine then (go h).bind fun ws h => .ok (w :: ws) h else .no
def kTest (y n : Hs → R (List W)) (t : Bool) (h : Hs) : R (List W) := match t with
  | true => y h
  | false => n h
def stepLc (r : Rec) (elt : Ex) (tg : Tg) (I : ItV) (ifs : Exs) (i k : Nat) (v : Env) (h : Hs) : R (List W) := match itAt I i h with
  | none => .no
  | some none => .ok [] h
  | some (some x) => (match setTg tg x v with
    | none => .no
    | some v2 => (r.t ifs v2 h).bind (kTest (fun h => (r.e elt v2 h).bind (kKeep k (r.lc elt tg I ifs (i + 1) (k + 1) v))) (r.lc elt tg I ifs (i + 1) k v)))
def kMore (go : Nat → Hs → R (List W)) (k : Nat) (ws : List W) (h : Hs) : R (List W) := (go (k + ws.length) h).bind fun us h => .ok (ws ++ us) h
def stepLc2 (r : Rec) (elt : Ex) (tg : Tg) (I : ItV) (ifs : Exs) (tg1 : Tg) (it1 : It) (ifs1 : Exs) (own1 : List Nat) (i k : Nat) (v : Env) (h : Hs) : R (List W) := match itAt I i h with
  | none => .no
  | some none => .ok [] h
  | some (some x) => (match setTg tg x v with
    | none => .no
    | some v2 => (r.t ifs v2 h).bind (kTest (fun h => (r.i it1 v2 h).bind fun J h => (r.lc elt tg1 J ifs1 0 k (wipeE v2 own1) h).bind (kMore (fun k => r.lc2 elt tg I ifs tg1 it1 ifs1 own1 (i + 1) k v) k)) (r.lc2 elt tg I ifs tg1 it1 ifs1 own1 (i + 1) k v)))
def kAdd (go : List (W × W) → Hs → R (List (W × W))) (b : Bool) (acc : List (W × W)) (a : W) (h : Hs) : R (List (W × W)) := match addK b a acc with
  | some acc => go acc h
  | none => .no
def stepDc (r : Rec) (b : Bool) (k : Ex) (tg : Tg) (I : ItV) (i : Nat) (acc : List (W × W)) (v : Env) (h : Hs) : R (List (W × W)) := match itAt I i h with
  | none => .no
  | some none => .ok acc h
  | some (some y) => (match setTg tg y v with
    | none => .no
    | some v2 => (r.e k v2 h).bind (kAdd (fun acc h => r.dc b k tg I (i + 1) acc v h) b acc))
def recN (C : Cl) : Nat → Rec
  | 0 => .bot
  | n + 1 => ⟨stepE C (recN C n), stepEs (recN C n), stepO (recN C n), stepI (recN C n), stepT (recN C n), stepLc (recN C n), stepLc2 (recN C n), stepDc (recN C n)⟩
theorem recN_eq (C : Cl) : ∀ n, recN C n = ⟨rE C n, rEs C n, rO C n, rI C n, rT C n, rLc C n, rLc2 C n, rDc C n⟩
  | 0 => by
    rw [recN, Rec.bot]
    congr 1
    all_goals (repeat (funext _)); first | rw [rE] | rw [rEs] | rw [rO] | rw [rI] | rw [rT] | rw [rLc] | rw [rLc2] | rw [rDc]
  | n + 1 => by
    rw [recN, recN_eq C n]
    congr 1
    · funext e v h; cases e <;> (rw [rE.eq_def]; rfl)
    · funext e v h; cases e <;> (rw [rEs.eq_def]; rfl)
    · funext e v h; rw [rO.eq_def]; cases e with
      | nil => rfl
      | cons a r => cases r <;> rfl
      | star a r => rfl
    · funext e v h; cases e <;> (rw [rI.eq_def]; rfl)
    · funext e v h; rw [rT.eq_def]; cases e with
      | nil => rfl
      | cons a r => cases r <;> rfl
      | star a r => rfl
    · funext a b c d e f g h; rw [rLc]; rfl
    · funext a b c d e f g h i j k l; rw [rLc2]; rfl
    · funext a b c d e f g h; rw [rDc]; rfl
def qE (C : Cl) (n : Nat) : Ex → Env → Hs → R W := (recN C n).e
def qEs (C : Cl) (n : Nat) : Exs → Env → Hs → R (List W) := (recN C n).es
def qI (C : Cl) (n : Nat) : It → Env → Hs → R ItV := (recN C n).i
theorem qE_eq (C : Cl) (n : Nat) : qE C n = rE C n := by unfold qE; rw [recN_eq]
theorem qEs_eq (C : Cl) (n : Nat) : qEs C n = rEs C n := by unfold qEs; rw [recN_eq]
theorem qI_eq (C : Cl) (n : Nat) : qI C n = rI C n := by unfold qI; rw [recN_eq]
structure RecS where
  s : St → Env → Hs → R Fl
  ss : Sts → Env → Hs → R Fl
  wh : Ex → Sts → Env → Hs → R Fl
  fr : Tg → ItV → Sts → Nat → Env → Hs → R Fl
def RecS.bot : RecS := ⟨fun _ _ _ => .no, fun _ _ _ => .no, fun _ _ _ _ => .no, fun _ _ _ _ _ _ => .no⟩
def kSet (v : Env) (i : Nat) (w : W) (h : Hs) : R Fl := if i < v.length then .ok (.nx (v.set i (some w))) h else .no
def kSetT (v : Env) (is : List Nat) (w : W) (h : Hs) : R Fl := match setTg (.many is) w v with
  | some v2 => .ok (.nx v2) h
  | none => .no
def kPar (v : Env) (is : List Nat) (ws : List W) (h : Hs) : R Fl := match setMany is ws v with
  | some v2 => .ok (.nx v2) h
  | none => .no
def kAsg (C : Cl) (n : Nat) (ts : List At) (v : Env) (w : W) (h : Hs) : R Fl := match w with
  | .tup ws => if ws.length = ts.length then (setAts C n ts ws v h).bind fun v h => .ok (.nx v) h else .no
  | _ => .no
def aSetIx (v : Env) (r : R W) (q s : Hs → R W) : R Fl := r.bind fun w h => (q h).bind fun x h => (s h).bind fun y h => (setW x y w h).bind fun _ h => .ok (.nx v) h
def aSetDx (v : Env) (r : R W) (q s : Hs → R W) : R Fl := r.bind fun w h => (q h).bind fun x h => (s h).bind fun y h => (dsetW x y w h).bind fun _ h => .ok (.nx v) h
def aAug (o : BOp) (i : Nat) (v : Env) (r : R W) : R Fl := match v[i]? with
  | some (some x) => r.bind fun y h => (augW o x y h).bind fun w h => .ok (.nx (v.set i (some w))) h
  | _ => .no
def kDrop (v : Env) (w : W) (h : Hs) : R Fl := .ok (.nx v) h
def kRet (w : W) (h : Hs) : R Fl := .ok (.rt w) h
def aIf (r : R W) (q s : Hs → R Fl) : R Fl := r.bind fun w h => (asB w h).bind fun t h => (match t with
  | true => q h
  | false => s h)
def kRse (c : Nat) (w : W) (h : Hs) : R Fl := if w.pure = true then .ex c w h else .no
def aSetA (v : Env) (c i : Nat) (r : R W) (q : Hs → R W) : R Fl := r.bind fun w h => (q h).bind fun x h => (asetW c i x w h).bind fun _ h => .ok (.nx v) h
def stepS (C : Cl) (n : Nat) (r : RecS) : St → Env → Hs → R Fl
  | .set i e, v, h => (qE C n e v h).bind (kSet v i)
  | .setT is e, v, h => (qE C n e v h).bind (kSetT v is)
  | .par is es, v, h => (qEs C n es v h).bind (kPar v is)
  | .asg ts e, v, h => (qE C n e v h).bind (kAsg C n ts v)
  | .setIx o i e, v, h => aSetIx v (qE C n e v h) (qE C n o v) (qE C n i v)
  | .setDx o i e, v, h => aSetDx v (qE C n e v h) (qE C n o v) (qE C n i v)
  | .setA c i o e, v, h => aSetA v c i (qE C n e v h) (qE C n o v)
  | .aug o i e, v, h => aAug o i v (qE C n e v h)
  | .drop e, v, h => (qE C n e v h).bind (kDrop v)
  | .ret e, v, h => (qE C n e v h).bind kRet
  | .retN, v, h => .ok (.rt .non) h
  | .pass, v, h => .ok (.nx v) h
  | .brk, v, h => .ok (.bk v) h
  | .cnt, v, h => .ok (.ct v) h
  | .ifS c a b, v, h => aIf (qE C n c v h) (r.ss a v) (r.ss b v)
  | .whl c b, v, h => r.wh c b v h
  | .for tg it b, v, h => (qI C n it v h).bind fun I h => r.fr tg I b 0 v h
  | .rse c e, v, h => (qE C n e v h).bind (kRse c)
  | .tryN b, v, h => (r.ss b v h).noEx
def kNext (go : Env → Hs → R Fl) (f : Fl) (h : Hs) : R Fl := match f with
  | .nx v => go v h
  | f => .ok f h
def kTurn (go : Env → Hs → R Fl) (f : Fl) (h : Hs) : R Fl := match f with
  | .nx v => go v h
  | .ct v => go v h
  | .bk v => .ok (.nx v) h
  | .rt w => .ok (.rt w) h
def stepSs (r : RecS) : Sts → Env → Hs → R Fl
  | .nil, v, h => .ok (.nx v) h
  | .cons s q, v, h => (r.s s v h).bind (kNext (r.ss q))
  | .fork is own b q, v, h => match oneF own h (fun v => r.ss b v h) (splits is v) with
    | some .nx => r.ss q (wipeE v own) h
    | some (.rt w) => .ok (.rt w) h
    | none => .no
def stepWh (C : Cl) (n : Nat) (r : RecS) (c : Ex) (b : Sts) (v : Env) (h : Hs) : R Fl := aIf (qE C n c v h) (fun h => (r.ss b v h).bind (kTurn (r.wh c b))) (fun h => .ok (.nx v) h)
def stepFr (r : RecS) (tg : Tg) (I : ItV) (b : Sts) (i : Nat) (v : Env) (h : Hs) : R Fl := match itAt I i h with
  | none => .no
  | some none => .ok (.nx v) h
  | some (some x) => (match setTg tg x v with
    | none => .no
    | some v2 => (r.ss b v2 h).bind (kTurn (r.fr tg I b (i + 1))))
def recS (C : Cl) : Nat → RecS
  | 0 => .bot
  | n + 1 => ⟨stepS C n (recS C n), stepSs (recS C n), stepWh C n (recS C n), stepFr (recS C n)⟩
theorem recS_eq (C : Cl) : ∀ n, recS C n = ⟨rS C n, rSs C n, rWh C n, rFor C n⟩
  | 0 => by
    rw [recS, RecS.bot]
    congr 1
    all_goals (repeat (funext _)); first | rw [rS] | rw [rSs] | rw [rWh] | rw [rFor]
  | n + 1 => by
    rw [recS, recS_eq C n]
    congr 1
    · funext s v h; unfold stepS; rw [qE_eq, qEs_eq, qI_eq]; cases s <;> (rw [rS.eq_def]; try rfl)
    · funext s v h; cases s <;> (rw [rSs.eq_def]; try rfl)
    · funext c b v h; rw [rWh]; unfold stepWh; rw [qE_eq]; rfl
def qSs (C : Cl) (n : Nat) : Sts → Env → Hs → R Fl := (recS C n).ss
theorem qSs_eq (C : Cl) (n : Nat) : qSs C n = rSs C n := by unfold qSs; rw [recS_eq]
def qF (P : Pg) (C : Cl) (F : FnI) (ws : List W) (h : Hs) : R W := match bindW F ws with
  | some v => if W.pures ws = true then outOf h (retOf (qSs C P.fuel F.body v .nil)) else retOf (qSs C P.fuel F.body v h)
  | none => .no
theorem qF_eq (P : Pg) (C : Cl) (F : FnI) (ws : List W) (h : Hs) : qF P C F ws h = runF P C F ws h := by unfold qF runF; rw [qSs_eq] <;> rfl
def Cl.bot : Cl := ⟨fun _ _ _ => .no, fun _ _ _ => .no⟩
def callQ (P : Pg) (k : Nat) (C : Cl) (f : Nat) (ws : List W) (h : Hs) : R W := match P.fns f with
  | some F => qF P C F ws h
  | none => P.ext k f ws h
/-- the level k, and the one below -/
def qC2 (P : Pg) : Nat → Cl × Cl
  | 0 => (.bot, .bot)
  | k + 1 => (⟨callQ P (k + 1) (qC2 P k).1, if k = 0 then fun _ _ _ => .no else fun e v h => metW P (qE (qC2 P k).2 P.fuel e v h)⟩, (qC2 P k).1)
def qC (P : Pg) (k : Nat) : Cl := (qC2 P k).1
theorem qC2_eq (P : Pg) : ∀ k, (qC2 P k).1 = rC P k ∧ (qC2 P (k + 1)).2 = rC P k
  | 0 => by
    have e : (qC2 P 0).1 = rC P 0 := by rw [qC2, rC]; rfl
    exact ⟨e, e⟩
  | 1 => by
    have e : (qC2 P 1).1 = rC P 1 := by
      show (⟨callQ P 1 (qC2 P 0).1, fun _ _ _ => .no⟩ : Cl) = _
      rw [rC]
      congr 1
      funext f ws h
      unfold callQ
      cases P.fns f with
      | none => rfl
      | some F => exact qF_eq P _ F ws h
    exact ⟨e, e⟩
  | k + 2 => by
    have ih := qC2_eq P (k + 1)
    have ih0 := (qC2_eq P k).2
    have e : (qC2 P (k + 2)).1 = rC P (k + 2) := by
      show (⟨callQ P (k + 2) (qC2 P (k + 1)).1, fun e v h => metW P (qE (qC2 P (k + 1)).2 P.fuel e v h)⟩ : Cl) = _
      rw [rC, ih.1, ih0, qE_eq]
      congr 1
      funext f ws h
      unfold callQ
      cases P.fns f with
      | none => rfl
      | some F => exact qF_eq P _ F ws h
    exact ⟨e, e⟩
theorem qC_eq (P : Pg) (k : Nat) : qC P k = rC P k := (qC2_eq P k).1
end GS
-- GsEv3
namespace GS
open PySem PySem.Spec PyProof.Rows L2

abbrev Mp := Nat → Option Addr
/-- what is fixed through a law: the tables of code objects, what is true of a bag's items, the exceptions' classes (the field that keeps the argument, if any) -/
structure Gl0 where
  T : List (Addr × Str)
  B : List V → Prop
  cls : Nat → Option (Addr × Option Str)
  icls : Nat → Option Addr

/-- a list that stays as it is -/
def StL (K : PySem.W.Frag) (H : Hp) (a : Addr) (xs : List V) : Prop := (∃ o, H a = some (.frz o (.lst xs))) ∨ ∃ (o : Obj) (its : Array Value) (n : Nat), K.lookup a = some o ∧ o.cls = .type "list" ∧ o.dict = none ∧ o.data = .seq its n ∧ its.size ≤ sizeLine ∧ Vals xs its.toList
theorem StL.sq {K : PySem.W.Frag} {H : Hp} {a : Addr} {xs : List V} (h : StL K H a xs) : SqL K H a xs := h.elim (fun z => .inl (.inr z)) .inr
inductive SK where
  | t | s | f
/-- what stays as it is -/
def Sq (K : PySem.W.Frag) (H : Hp) (b : SK) (a : Addr) (xs : List V) : Prop := match b with
  | .t => SqT K H a xs
  | .s => StL K H a xs
  | .f => ∃ o, H a = some (.frz o (.tup xs)) ∧ o.dict = none
mutual
/-- all addresses within are there -/
def W.dom (m : Mp) : W → Prop
  | .obj n => ∃ a, m n = some a
  | .tup ws => W.doms m ws
  | .ch ws => W.doms m ws
  | .ftup ws => W.doms m ws
  | _ => True
def W.doms (m : Mp) : List W → Prop
  | [] => True
  | w :: ws => w.dom m ∧ W.doms m ws
end
mutual
inductive RW (K : PySem.W.Frag) (m : Mp) (H : Hp) : W → V → Prop
  | non : RW K m H .non .non
  | bl (b : Bool) : RW K m H (.bl b) (.bl b)
  | int (i : Int) : RW K m H (.int i) (.int i)
  | str (x : Str) : RW K m H (.str x) (.str x)
  | tup {a : Addr} {vs : List V} {ws : List W} : SqT K H a vs → RWs K m H ws vs → RW K m H (.tup ws) (.ref a)
  | obj {n : Nat} {a : Addr} : m n = some a → RW K m H (.obj n) (.ref a)
  | any (x : V) : RW K m H .any x
  | sl {a : Addr} {n : Nat} {ns : List Int} : StL K H a (ns.map V.int) → ns.length = n → RW K m H (.sl n) (.ref a)
  | ls {a : Addr} {ns : List Int} : StL K H a (ns.map V.int) → RW K m H (.ls ns) (.ref a)
  | ch {ws : List W} {w : W} {v : V} : w ∈ ws → W.doms m ws → RW K m H w v → RW K m H (.ch ws) v
  | aint (i : Int) : RW K m H .aint (.int i)
  | rint {n : Nat} {i : Int} : 0 ≤ i → i < n → RW K m H (.rint n) (.int i)
  | srep (c n : Nat) : RW K m H (.srep c n) (.str (repS c n))
  | ftup {a : Addr} {vs : List V} {ws : List W} : Sq K H .f a vs → RWs K m H ws vs → RW K m H (.ftup ws) (.ref a)
inductive RWs (K : PySem.W.Frag) (m : Mp) (H : Hp) : List W → List V → Prop
  | nil : RWs K m H [] []
  | cons {w : W} {v : V} {ws : List W} {vs : List V} : RW K m H w v → RWs K m H ws vs → RWs K m H (w :: ws) (v :: vs)
end

mutual
theorem W.dom.mono {m m' : Mp} (hm : ∀ n a, m n = some a → m' n = some a) : ∀ {w : W}, w.dom m → w.dom m'
  | .obj n, h => by rw [W.dom] at h ⊢; obtain ⟨a, e⟩ := h; exact ⟨a, hm _ _ e⟩
  | .tup ws, h => by rw [W.dom] at h ⊢; exact W.doms.mono hm h
  | .ch ws, h => by rw [W.dom] at h ⊢; exact W.doms.mono hm h
  | .ftup ws, h => by rw [W.dom] at h ⊢; exact W.doms.mono hm h
  | .non, _ => by rw [W.dom.eq_def]; trivial
  | .bl _, _ => by rw [W.dom.eq_def]; trivial
  | .int _, _ => by rw [W.dom.eq_def]; trivial
  | .str _, _ => by rw [W.dom.eq_def]; trivial
  | .any, _ => by rw [W.dom.eq_def]; trivial
  | .aint, _ => by rw [W.dom.eq_def]; trivial
  | .rint _, _ => by rw [W.dom.eq_def]; trivial
  | .srep _ _, _ => by rw [W.dom.eq_def]; trivial
  | .sl _, _ => by rw [W.dom.eq_def]; trivial
  | .ls _, _ => by rw [W.dom.eq_def]; trivial
theorem W.doms.mono {m m' : Mp} (hm : ∀ n a, m n = some a → m' n = some a) : ∀ {ws : List W}, W.doms m ws → W.doms m' ws
  | [], _ => trivial
  | w :: ws, h => by rw [W.doms] at h ⊢; exact ⟨W.dom.mono hm h.1, W.doms.mono hm h.2⟩
end
mutual
theorem W.dom.ofPure {m : Mp} : ∀ {w : W}, w.pure = true → w.dom m
  | .obj n, h => by rw [W.pure] at h; cases h
  | .tup ws, h => by rw [W.pure] at h; rw [W.dom]; exact W.doms.ofPure h
  | .ch ws, h => by rw [W.pure] at h; rw [W.dom]; exact W.doms.ofPure h
  | .ftup ws, h => by rw [W.pure] at h; rw [W.dom]; exact W.doms.ofPure h
  | .non, _ => by rw [W.dom.eq_def]; trivial
  | .bl _, _ => by rw [W.dom.eq_def]; trivial
  | .int _, _ => by rw [W.dom.eq_def]; trivial
  | .str _, _ => by rw [W.dom.eq_def]; trivial
  | .any, _ => by rw [W.dom.eq_def]; trivial
  | .aint, _ => by rw [W.dom.eq_def]; trivial
  | .rint _, _ => by rw [W.dom.eq_def]; trivial
  | .srep _ _, _ => by rw [W.dom.eq_def]; trivial
  | .sl _, _ => by rw [W.dom.eq_def]; trivial
  | .ls _, _ => by rw [W.dom.eq_def]; trivial
theorem W.doms.ofPure {m : Mp} : ∀ {ws : List W}, W.pures ws = true → W.doms m ws
  | [], _ => trivial
  | w :: ws, h => by rw [W.pures, Bool.and_eq_true] at h; rw [W.doms]; exact ⟨W.dom.ofPure h.1, W.doms.ofPure h.2⟩
end
mutual
theorem W.dom.shift {m m' : Mp} {n : Nat} (hm : ∀ i a, m i = some a → m' (n + i) = some a) : ∀ {w : W}, w.dom m → (w.shift n).dom m'
  | .obj i, h => by rw [W.dom] at h; obtain ⟨a, e⟩ := h; rw [W.shift, W.dom]; exact ⟨a, hm _ _ e⟩
  | .tup ws, h => by rw [W.dom] at h; rw [W.shift, W.dom]; exact W.doms.shift hm h
  | .ch ws, h => by rw [W.dom] at h; rw [W.shift, W.dom]; exact W.doms.shift hm h
  | .ftup ws, h => by rw [W.dom] at h; rw [W.shift, W.dom]; exact W.doms.shift hm h
  | .non, _ => by rw [W.shift.eq_def, W.dom.eq_def]; trivial
  | .bl _, _ => by rw [W.shift.eq_def, W.dom.eq_def]; trivial
  | .int _, _ => by rw [W.shift.eq_def, W.dom.eq_def]; trivial
  | .str _, _ => by rw [W.shift.eq_def, W.dom.eq_def]; trivial
  | .any, _ => by rw [W.shift.eq_def, W.dom.eq_def]; trivial
  | .aint, _ => by rw [W.shift.eq_def, W.dom.eq_def]; trivial
  | .rint _, _ => by rw [W.shift.eq_def, W.dom.eq_def]; trivial
  | .srep _ _, _ => by rw [W.shift.eq_def, W.dom.eq_def]; trivial
  | .sl _, _ => by rw [W.shift.eq_def, W.dom.eq_def]; trivial
  | .ls _, _ => by rw [W.shift.eq_def, W.dom.eq_def]; trivial
theorem W.doms.shift {m m' : Mp} {n : Nat} (hm : ∀ i a, m i = some a → m' (n + i) = some a) : ∀ {ws : List W}, W.doms m ws → W.doms m' (W.shifts n ws)
  | [], _ => by rw [W.shifts]; trivial
  | w :: ws, h => by rw [W.doms] at h; rw [W.shifts, W.doms]; exact ⟨W.dom.shift hm h.1, W.doms.shift hm h.2⟩
end
theorem W.doms.mem {m : Mp} {w : W} : ∀ {ws : List W}, W.doms m ws → w ∈ ws → w.dom m
  | _ :: _, h, hm => by
    rw [W.doms] at h
    rcases List.mem_cons.mp hm with rfl | hm
    · exact h.1
    · exact W.doms.mem h.2 hm
theorem pures_mem {w : W} : ∀ {ws : List W}, W.pures ws = true → w ∈ ws → w.pure = true
  | _ :: _, h, hm => by
    rw [W.pures, Bool.and_eq_true] at h
    rcases List.mem_cons.mp hm with rfl | hm
    · exact h.1
    · exact pures_mem h.2 hm
theorem shifts_mem {w : W} {n : Nat} : ∀ {ws : List W}, w ∈ ws → w.shift n ∈ W.shifts n ws
  | _ :: _, hm => by
    rw [W.shifts]
    rcases List.mem_cons.mp hm with rfl | hm
    · exact List.mem_cons_self ..
    · exact List.mem_cons_of_mem _ (shifts_mem hm)
section
variable {K : PySem.W.Frag} {m m' : Mp} {H H' : Hp}
mutual
theorem RW.mono (hm : ∀ n a, m n = some a → m' n = some a) (ht : ∀ b a vs, Sq K H b a vs → Sq K H' b a vs) : ∀ {w : W} {v : V}, RW K m H w v → RW K m' H' w v
  | _, _, .non => .non
  | _, _, .bl b => .bl b
  | _, _, .int i => .int i
  | _, _, .str x => .str x
  | _, _, .tup s r => .tup (ht .t _ _ s) (RWs.mono hm ht r)
  | _, _, .obj e => .obj (hm _ _ e)
  | _, _, .any x => .any x
  | _, _, .aint i => .aint i
  | _, _, .rint a b => .rint a b
  | _, _, .srep a b => .srep a b
  | _, _, .sl s e => .sl (ht .s _ _ s) e
  | _, _, .ls s => .ls (ht .s _ _ s)
  | _, _, .ch e d r => .ch e (W.doms.mono hm d) (RW.mono hm ht r)
  | _, _, .ftup s r => .ftup (ht .f _ _ s) (RWs.mono hm ht r)
theorem RWs.mono (hm : ∀ n a, m n = some a → m' n = some a) (ht : ∀ b a vs, Sq K H b a vs → Sq K H' b a vs) : ∀ {ws : List W} {vs : List V}, RWs K m H ws vs → RWs K m' H' ws vs
  | _, _, .nil => .nil
  | _, _, .cons r rs => .cons (RW.mono hm ht r) (RWs.mono hm ht rs)
end
mutual
/-- a tree needs no addresses -/
theorem RW.ofPure (ht : ∀ b a vs, Sq K H b a vs → Sq K H' b a vs) : ∀ {w : W} {v : V}, RW K m H w v → w.pure = true → RW K m' H' w v
  | _, _, .non, _ => .non
  | _, _, .bl b, _ => .bl b
  | _, _, .int i, _ => .int i
  | _, _, .str x, _ => .str x
  | _, _, .tup s r, h => .tup (ht .t _ _ s) (RWs.ofPure ht r (by rw [W.pure] at h; exact h))
  | _, _, .any x, _ => .any x
  | _, _, .aint i, _ => .aint i
  | _, _, .rint a b, _ => .rint a b
  | _, _, .srep a b, _ => .srep a b
  | _, _, .sl s e, _ => .sl (ht .s _ _ s) e
  | _, _, .ls s, _ => .ls (ht .s _ _ s)
  | _, _, .ch e d r, h => .ch e (W.doms.ofPure (by rw [W.pure] at h; exact h)) (RW.ofPure ht r (pures_mem (by rw [W.pure] at h; exact h) e))
  | _, _, .ftup s r, h => .ftup (ht .f _ _ s) (RWs.ofPure ht r (by rw [W.pure] at h; exact h))
  | _, _, .obj e, h => by rw [W.pure] at h; cases h
theorem RWs.ofPure (ht : ∀ b a vs, Sq K H b a vs → Sq K H' b a vs) : ∀ {ws : List W} {vs : List V}, RWs K m H ws vs → W.pures ws = true → RWs K m' H' ws vs
  | _, _, .nil, _ => .nil
  | _, _, .cons r rs, h => by
    rw [W.pures, Bool.and_eq_true] at h
    exact .cons (RW.ofPure ht r h.1) (RWs.ofPure ht rs h.2)
end
mutual
theorem RW.shift {n : Nat} (hm : ∀ i a, m i = some a → m' (n + i) = some a) (ht : ∀ b a vs, Sq K H b a vs → Sq K H' b a vs) : ∀ {w : W} {v : V}, RW K m H w v → RW K m' H' (w.shift n) v
  | _, _, .non => by rw [W.shift.eq_def]; exact .non
  | _, _, .bl b => by rw [W.shift.eq_def]; exact .bl b
  | _, _, .int i => by rw [W.shift.eq_def]; exact .int i
  | _, _, .str x => by rw [W.shift.eq_def]; exact .str x
  | _, _, .tup s r => by rw [W.shift]; exact .tup (ht .t _ _ s) (RWs.shift hm ht r)
  | _, _, .any x => by rw [W.shift.eq_def]; exact .any x
  | _, _, .aint i => by rw [W.shift.eq_def]; exact .aint i
  | _, _, .rint a b => by rw [W.shift.eq_def]; exact .rint a b
  | _, _, .srep a b => by rw [W.shift.eq_def]; exact .srep a b
  | _, _, .sl s e => by rw [W.shift.eq_def]; exact .sl (ht .s _ _ s) e
  | _, _, .ls s => by rw [W.shift.eq_def]; exact .ls (ht .s _ _ s)
  | _, _, .ch e d r => by rw [W.shift]; exact .ch (shifts_mem e) (W.doms.shift hm d) (RW.shift hm ht r)
  | _, _, .ftup s r => by rw [W.shift]; exact .ftup (ht .f _ _ s) (RWs.shift hm ht r)
  | _, _, .obj e => by rw [W.shift]; exact .obj (hm _ _ e)
theorem RWs.shift {n : Nat} (hm : ∀ i a, m i = some a → m' (n + i) = some a) (ht : ∀ b a vs, Sq K H b a vs → Sq K H' b a vs) : ∀ {ws : List W} {vs : List V}, RWs K m H ws vs → RWs K m' H' (W.shifts n ws) vs
  | _, _, .nil => by rw [W.shifts]; exact .nil
  | _, _, .cons r rs => by rw [W.shifts]; exact .cons (RW.shift hm ht r) (RWs.shift hm ht rs)
end
theorem RWs.length {ws : List W} {vs : List V} (r : RWs K m H ws vs) : ws.length = vs.length := by
  induction ws generalizing vs with
  | nil => cases r; rfl
  | cons w ws ih => cases r with | cons _ rs => simp [ih rs]
theorem RWs.append {ws us : List W} {vs xs : List V} (r : RWs K m H ws vs) (q : RWs K m H us xs) : RWs K m H (ws ++ us) (vs ++ xs) := by
  induction ws generalizing vs with
  | nil => cases r; exact q
  | cons w ws ih => cases r with | cons h rs => exact .cons h (ih rs)
theorem RWs.get {ws : List W} {vs : List V} (r : RWs K m H ws vs) {i : Nat} {w : W} (h : ws[i]? = some w) : ∃ v, vs[i]? = some v ∧ RW K m H w v := by
  induction ws generalizing vs i with
  | nil => simp at h
  | cons x ws ih =>
    cases r with
    | cons q rs =>
      cases i with
      | zero => simp at h; subst h; exact ⟨_, rfl, q⟩
      | succ i => simpa using ih rs (by simpa using h)
theorem RWs.none {ws : List W} {vs : List V} (r : RWs K m H ws vs) {i : Nat} (h : ws[i]? = Option.none) : vs[i]? = Option.none := by
  have e := r.length
  rw [List.getElem?_eq_none_iff] at h ⊢
  omega
theorem RWs.set {ws : List W} {vs : List V} {w : W} {v : V} (r : RWs K m H ws vs) (q : RW K m H w v) (i : Nat) : RWs K m H (ws.set i w) (vs.set i v) := by
  induction ws generalizing vs i with
  | nil => cases r; exact .nil
  | cons x ws ih =>
    cases r with
    | cons p rs =>
      cases i with
      | zero => exact .cons q rs
      | succ i => exact .cons p (ih rs i)
theorem RWs.drop {ws : List W} {vs : List V} (r : RWs K m H ws vs) (i : Nat) : RWs K m H (ws.drop i) (vs.drop i) := by
  induction ws generalizing vs i with
  | nil => cases r; simp; exact .nil
  | cons x ws ih =>
    cases r with
    | cons p rs =>
      cases i with
      | zero => exact .cons p rs
      | succ i => exact ih rs i
theorem RWs.take {ws : List W} {vs : List V} (r : RWs K m H ws vs) (i : Nat) : RWs K m H (ws.take i) (vs.take i) := by
  induction ws generalizing vs i with
  | nil => cases r; simp; exact .nil
  | cons x ws ih =>
    cases r with
    | cons p rs =>
      cases i with
      | zero => exact .nil
      | succ i => exact .cons p (ih rs i)
theorem RWs.dropLast {ws : List W} {vs : List V} (r : RWs K m H ws vs) : RWs K m H ws.dropLast vs.dropLast := by
  rw [List.dropLast_eq_take, List.dropLast_eq_take, r.length]
  exact r.take _
end

section
variable {K : PySem.W.Frag} {m m' : Mp} {H H' : Hp}
mutual
theorem RW.dom : ∀ {w : W} {v : V}, RW K m H w v → w.dom m
  | _, _, .obj e => by rw [W.dom]; exact ⟨_, e⟩
  | _, _, .tup _ r => by rw [W.dom]; exact RWs.doms r
  | _, _, .ch _ d _ => by rw [W.dom]; exact d
  | _, _, .ftup _ r => by rw [W.dom]; exact RWs.doms r
  | _, _, .non => by rw [W.dom.eq_def]; trivial
  | _, _, .bl _ => by rw [W.dom.eq_def]; trivial
  | _, _, .int _ => by rw [W.dom.eq_def]; trivial
  | _, _, .str _ => by rw [W.dom.eq_def]; trivial
  | _, _, .any _ => by rw [W.dom.eq_def]; trivial
  | _, _, .aint _ => by rw [W.dom.eq_def]; trivial
  | _, _, .rint _ _ => by rw [W.dom.eq_def]; trivial
  | _, _, .srep _ _ => by rw [W.dom.eq_def]; trivial
  | _, _, .sl _ _ => by rw [W.dom.eq_def]; trivial
  | _, _, .ls _ => by rw [W.dom.eq_def]; trivial
theorem RWs.doms : ∀ {ws : List W} {vs : List V}, RWs K m H ws vs → W.doms m ws
  | _, _, .nil => trivial
  | _, _, .cons r rs => by rw [W.doms]; exact ⟨RW.dom r, RWs.doms rs⟩
end
mutual
/-- back to fewer addresses -/
theorem RW.back (hm : ∀ n a, m n = some a → m' n = some a) : ∀ {w : W} {v : V}, RW K m' H w v → w.dom m → RW K m H w v
  | _, _, .obj e, d => by
    rw [W.dom] at d
    obtain ⟨b, eb⟩ := d
    have := hm _ _ eb
    rw [e] at this; cases this
    exact .obj eb
  | _, _, .tup s r, d => .tup s (RWs.back hm r (by rw [W.dom] at d; exact d))
  | _, _, .ch e _ r, d => .ch e (by rw [W.dom] at d; exact d) (RW.back hm r (W.doms.mem (by rw [W.dom] at d; exact d) e))
  | _, _, .ftup s r, d => .ftup s (RWs.back hm r (by rw [W.dom] at d; exact d))
  | _, _, .non, _ => .non
  | _, _, .bl b, _ => .bl b
  | _, _, .int i, _ => .int i
  | _, _, .str x, _ => .str x
  | _, _, .any x, _ => .any x
  | _, _, .aint i, _ => .aint i
  | _, _, .rint a b, _ => .rint a b
  | _, _, .srep a b, _ => .srep a b
  | _, _, .sl s e, _ => .sl s e
  | _, _, .ls s, _ => .ls s
theorem RWs.back (hm : ∀ n a, m n = some a → m' n = some a) : ∀ {ws : List W} {vs : List V}, RWs K m' H ws vs → W.doms m ws → RWs K m H ws vs
  | _, _, .nil, _ => .nil
  | _, _, .cons r rs, d => by
    rw [W.doms] at d
    exact .cons (RW.back hm r d.1) (RWs.back hm rs d.2)
end
end

/-- the key of a dict -/
def keyRel : W → Key → Prop
  | .int i, k => k = .inl i
  | .str x, k => k = .inr x
  | _, _ => False
inductive KR (K : PySem.W.Frag) (m : Mp) (H : Hp) : List (W × W) → List (List Key × V) → Prop
  | nil : KR K m H [] []
  | cons {ws : List W} {ks : List Key} {w : W} {v : V} {r : List (W × W)} {s : List (List Key × V)} : Paired keyRel ws ks → RW K m H w v → KR K m H r s → KR K m H ((.tup ws, w) :: r) ((ks, v) :: s)
/-- a dict by ints and texts -/
inductive KN (K : PySem.W.Frag) (m : Mp) (H : Hp) : List (W × W) → List (Key × V) → Prop
  | nil : KN K m H [] []
  | cons {k w : W} {x : Key} {v : V} {r : List (W × W)} {s : List (Key × V)} : keyRel k x → RW K m H w v → KN K m H r s → KN K m H ((k, w) :: r) ((x, v) :: s)
def ORel (K : PySem.W.Frag) (G : Gl0) (m : Mp) (H : Hp) (a : Addr) : O → Prop
  | .lst ws => ∃ vs, H a = some (.lst vs) ∧ RWs K m H ws vs
  | .dct kvs => ∃ ks, H a = some (.dT ks) ∧ KR K m H kvs ks
  | .dk kvs => ∃ ks, H a = some (.dK ks) ∧ KN K m H kvs ks
  | .bag => ∃ vs, H a = some (.lst vs) ∧ G.B vs
  | .ins c fs => ∃ C dx us, G.icls c = some C ∧ SlX.Slt H a C dx us ∧ (H dx = some (.own a) ∨ H dx = some (.xd [])) ∧ ∀ (i : Nat) (w : W), fs[i]? = some (some w) → ∃ v, us[i]? = some (some v) ∧ RW K m H w v
section
variable {K : PySem.W.Frag} {G : Gl0} {m m' : Mp} {H H' : Hp}
theorem RWs.mapW (f : ∀ w x, RW K m H w x → RW K m' H' w x) {ws : List W} {vs : List V} (q : RWs K m H ws vs) : RWs K m' H' ws vs := by
  induction ws generalizing vs with
  | nil => cases q; exact .nil
  | cons w ws ih => cases q with | cons r rs => exact .cons (f _ _ r) (ih rs)
theorem ORel.mapW {a : Addr} {o : O} (e : H' a = H a) (ex : ∀ b, H b = some (.xd []) → H' b = some (.xd [])) (eo : ∀ b y, H b = some (.own y) → H' b = some (.own y) ∨ H' b = some (.xd [])) (f : ∀ w x, RW K m H w x → RW K m' H' w x) (r : ORel K G m H a o) : ORel K G m' H' a o := by
  cases o with
  | lst ws => obtain ⟨vs, e1, q⟩ := r; exact ⟨vs, by rw [e, e1], q.mapW f⟩
  | bag => obtain ⟨vs, e1, q⟩ := r; exact ⟨vs, by rw [e, e1], q⟩
  | ins c fs =>
    obtain ⟨C, dx, us, hc, s, d, q⟩ := r
    refine ⟨C, dx, us, hc, ?_, d.elim (eo _ _) (fun z => .inr (ex _ z)), fun i w hi => by obtain ⟨v, e1, q1⟩ := q i w hi; exact ⟨v, e1, f _ _ q1⟩⟩
    rcases s with ⟨s1, s2⟩ | ⟨s1, s2⟩
    · exact .inl ⟨by rw [e, s1], s2⟩
    · exact .inr ⟨by rw [e, s1], ex _ s2⟩
  | dct kvs =>
    obtain ⟨ks, e1, q⟩ := r
    refine ⟨ks, by rw [e, e1], ?_⟩
    clear e1
    induction q with
    | nil => exact .nil
    | cons k q _ ih => exact .cons k (f _ _ q) ih
  | dk kvs =>
    obtain ⟨ks, e1, q⟩ := r
    refine ⟨ks, by rw [e, e1], ?_⟩
    clear e1
    induction q with
    | nil => exact .nil
    | cons k q _ ih => exact .cons k (f _ _ q) ih
end
structure HR (K : PySem.W.Frag) (G : Gl0) (m : Mp) (h : Hs) (H : Hp) : Prop where
  len : h.c.length = h.n
  dom : ∀ n, n < h.n → ∃ a, m n = some a
  dom' : ∀ n a, m n = some a → n < h.n
  inj : ∀ i j a, m i = some a → m j = some a → i = j
  ob : ∀ n a o, m n = some a → h.get n = some o → ORel K G m H a o
  tab : LamX.Tabs G.T H
/-- one state behind another: what is not ours stays, but the tables may grow -/
structure Stp (m : Mp) (H : Hp) (m' : Mp) (H' : Hp) : Prop where
  le : ∀ n a, m n = some a → m' n = some a
  kp : ∀ a o, H a = some o → (∀ n, m n ≠ some a) → (∀ ps, o ≠ .tbl ps) → (∀ y, o ≠ .own y) → H' a = some o
  fr : ∀ n a, m' n = some a → m n = some a ∨ ∀ o, H a = some o → ∃ ps, o = .tbl ps
  al : ∀ a o, H a = some o → (∀ ps, o ≠ .tbl ps) → ∃ o', H' a = some o' ∧ ∀ ps, o' ≠ .tbl ps
  ko : ∀ a y, H a = some (.own y) → (∀ n, m n ≠ some a) → H' a = some (.own y) ∨ H' a = some (.xd [])
theorem Stp.refl {m : Mp} {H : Hp} : Stp m H m H := ⟨fun _ _ e => e, fun _ _ e _ _ _ => e, fun _ _ e => .inl e, fun _ o e n => ⟨o, e, n⟩, fun _ _ e _ => .inl e⟩
theorem Stp.trans {m m1 m2 : Mp} {H H1 H2 : Hp} (a : Stp m H m1 H1) (b : Stp m1 H1 m2 H2) : Stp m H m2 H2 where
  le := fun n x e => b.le n x (a.le n x e)
  kp := fun x o e hn ht hw => b.kp x o (a.kp x o e hn ht hw) (fun n q => by
    rcases a.fr n x q with z | z
    · exact hn n z
    · obtain ⟨ps, z⟩ := z o e
      exact ht ps z) ht hw
  fr := fun n x e => by
    rcases b.fr n x e with z | z
    · exact a.fr n x z
    · right
      intro o q
      refine Classical.byContradiction fun hc => ?_
      obtain ⟨o', e', hn⟩ := a.al x o q fun ps z => hc ⟨ps, z⟩
      obtain ⟨ps, z⟩ := z o' e'
      exact hn ps z
  al := fun x o e ht => by
    obtain ⟨o', e', hn⟩ := a.al x o e ht
    exact b.al x o' e' hn
  ko := fun x y e hn => by
    have hn1 : ∀ n, m1 n ≠ some x := fun n q => by
      rcases a.fr n x q with z | z
      · exact hn n z
      · obtain ⟨ps, z⟩ := z _ e
        cases z
    rcases a.ko x y e hn with z | z
    · exact b.ko x y z hn1
    · exact .inr (b.kp x _ z hn1 (fun _ q => by cases q) (fun _ q => by cases q))

theorem get_lt {h : Hs} (hl : h.c.length = h.n) {n : Nat} (hn : n < h.n) : ∃ o, h.get n = some o := by
  unfold Hs.get
  rw [if_pos hn]
  have : h.n - 1 - n < h.c.length := by omega
  exact ⟨_, List.getElem?_eq_getElem this⟩
section
variable {K : PySem.W.Frag} {G : Gl0} {m m' : Mp} {h h' : Hs} {H H' : Hp}
theorem ORel.mut {a : Addr} {o : O} (r : ORel K G m H a o) : ∃ u, H a = some u ∧ Mut (some u) := by
  cases o with
  | lst ws => obtain ⟨vs, e, _⟩ := r; exact ⟨_, e, trivial⟩
  | dct kvs => obtain ⟨ks, e, _⟩ := r; exact ⟨_, e, trivial⟩
  | dk kvs => obtain ⟨ks, e, _⟩ := r; exact ⟨_, e, trivial⟩
  | bag => obtain ⟨vs, e, _⟩ := r; exact ⟨_, e, trivial⟩
  | ins c fs => obtain ⟨C, dx, us, _, s, _, _⟩ := r; rcases s with ⟨s, _⟩ | ⟨s, _⟩ <;> exact ⟨_, s, trivial⟩
theorem HR.mut (r : HR K G m h H) {n : Nat} {a : Addr} (e : m n = some a) : ∃ u, H a = some u ∧ Mut (some u) := by
  obtain ⟨o, q⟩ := get_lt r.len (r.dom' n a e)
  exact (r.ob n a o e q).mut
theorem HR.not (r : HR K G m h H) {n : Nat} {a : Addr} {u : HO} (e : H a = some u) (hu : ¬ Mut (some u)) : m n ≠ some a := fun z => by
  obtain ⟨u', e', q⟩ := r.mut z
  rw [e] at e'; cases e'
  exact hu q
theorem HR.sqt (r : HR K G m h H) (s : Stp m H m' H') {a : Addr} {vs : List V} (q : SqT K H a vs) : SqT K H' a vs := by
  rcases q with (q | ⟨o, q⟩) | q
  · exact .inl (.inl (s.kp a _ q (fun n => r.not q (fun z => z)) (fun _ z => by cases z) (fun _ z => by cases z)))
  · exact .inl (.inr ⟨o, s.kp a _ q (fun n => r.not q (fun z => z)) (fun _ z => by cases z) (fun _ z => by cases z)⟩)
  · exact .inr q
theorem HR.sq (r : HR K G m h H) (s : Stp m H m' H') (b : SK) {a : Addr} {vs : List V} (q : Sq K H b a vs) : Sq K H' b a vs := by
  cases b with
  | t => exact r.sqt s q
  | s =>
    rcases q with ⟨o, q⟩ | q
    · exact .inl ⟨o, s.kp a _ q (fun n => r.not q (fun z => z)) (fun _ z => by cases z) (fun _ z => by cases z)⟩
    · exact .inr q
  | f =>
    obtain ⟨o, q, hd⟩ := q
    exact ⟨o, s.kp a _ q (fun n => r.not q (fun z => z)) (fun _ z => by cases z) (fun _ z => by cases z), hd⟩
theorem sqf {K : PySem.W.Frag} {H : Hp} {a : Addr} {vs : List V} (q : Sq K H .f a vs) : SqT K H a vs := by
  obtain ⟨o, q, _⟩ := q
  exact .inl (.inr ⟨o, q⟩)
theorem RW.weak {K : PySem.W.Frag} {m : Mp} {H : Hp} {w : W} {x : V} (q : RW K m H w x) : RW K m H w.weak x := by
  cases q with
  | ftup s r => exact .tup (sqf s) r
  | non => exact .non
  | bl b => exact .bl b
  | int i => exact .int i
  | str x => exact .str x
  | tup s r => exact .tup s r
  | obj e => exact .obj e
  | any x => exact .any x
  | aint i => exact .aint i
  | rint a b => exact .rint a b
  | srep a b => exact .srep a b
  | sl s e => exact .sl s e
  | ls s => exact .ls s
  | ch e d r => exact .ch e d r
theorem RW.wide {K : PySem.W.Frag} {m : Mp} {H : Hp} {w : W} {x : V} (q : RW K m H w x) : RW K m H w.wide x := by
  cases q with
  | rint a b => exact .aint _
  | ftup s r => exact .ftup s r
  | non => exact .non
  | bl b => exact .bl b
  | int i => exact .int i
  | str x => exact .str x
  | tup s r => exact .tup s r
  | obj e => exact .obj e
  | any x => exact .any x
  | aint i => exact .aint i
  | srep a b => exact .srep a b
  | sl s e => exact .sl s e
  | ls s => exact .ls s
  | ch e d r => exact .ch e d r
theorem HR.rw (r : HR K G m h H) (s : Stp m H m' H') {w : W} {v : V} (q : RW K m H w v) : RW K m' H' w v := q.mono s.le fun b _ _ => r.sq s b
theorem HR.rws (r : HR K G m h H) (s : Stp m H m' H') {ws : List W} {vs : List V} (q : RWs K m H ws vs) : RWs K m' H' ws vs := q.mono s.le fun b _ _ => r.sq s b
theorem HR.lst (r : HR K G m h H) {n : Nat} {ws : List W} {a : Addr} (e : m n = some a) (q : h.get n = some (.lst ws)) : ∃ vs, H a = some (.lst vs) ∧ RWs K m H ws vs := r.ob n a _ e q
end
/-- what a sequence is -/
theorem RW.seq {K : PySem.W.Frag} {G : Gl0} {m : Mp} {h : Hs} {H : Hp} {w : W} {v : V} {ws : List W} (r : HR K G m h H) (q : RW K m H w v) (e : seqOf h w = some ws) :
    ∃ a vs, v = .ref a ∧ (SqL K H a vs ∨ SqT K H a vs) ∧ RWs K m H ws vs := by
  cases q with
  | tup s rs => simp [seqOf] at e; subst e; exact ⟨_, _, rfl, .inr s, rs⟩
  | ftup s rs => simp [seqOf] at e; subst e; exact ⟨_, _, rfl, .inr (sqf s), rs⟩
  | @obj n a q =>
    simp only [seqOf] at e
    split at e
    · rename_i us hu
      simp at e; subst e
      obtain ⟨vs, e1, r1⟩ := r.lst q hu
      exact ⟨_, _, rfl, .inl (.of e1), r1⟩
    · cases e
  | _ => simp [seqOf] at e

/-- the frame -/
structure FR (K : PySem.W.Frag) (m : Mp) (H : Hp) (v : Env) (σ : L2.St) : Prop where
  len : v.length = σ.length
  at_ : ∀ (i : Nat) (w : W), v[i]? = some (some w) → ∃ x, σ[i]? = some (some x) ∧ RW K m H w x
theorem FR.mono {K : PySem.W.Frag} {G : Gl0} {m m' : Mp} {h : Hs} {H H' : Hp} {v : Env} {σ : L2.St} (f : FR K m H v σ) (r : HR K G m h H) (s : Stp m H m' H') : FR K m' H' v σ :=
  ⟨f.len, fun i w e => by obtain ⟨x, e1, q⟩ := f.at_ i w e; exact ⟨x, e1, r.rw s q⟩⟩
theorem FR.set {K : PySem.W.Frag} {m : Mp} {H : Hp} {v : Env} {σ : L2.St} {w : W} {x : V} (f : FR K m H v σ) (i : Nat) (q : RW K m H w x) : FR K m H (v.set i (some w)) (σ.set i (some x)) := by
  refine ⟨by simp [f.len], fun j u e => ?_⟩
  by_cases hj : i = j
  · subst hj
    by_cases hl : i < v.length
    · rw [List.getElem?_set_self hl] at e
      cases e
      exact ⟨x, by rw [List.getElem?_set_self (by rw [← f.len]; exact hl)], q⟩
    · rw [List.getElem?_eq_none (by simpa using hl)] at e; cases e
  · rw [List.getElem?_set_ne hj] at e ⊢
    exact f.at_ j u e
theorem FR.none {K : PySem.W.Frag} {m : Mp} {H : Hp} {v : Env} {σ : L2.St} (f : FR K m H v σ) (i : Nat) : FR K m H (v.set i none) (σ.set i none) := by
  refine ⟨by simp [f.len], fun j u e => ?_⟩
  by_cases hj : i = j
  · subst hj
    by_cases hl : i < v.length
    · rw [List.getElem?_set_self hl] at e; cases e
    · rw [List.getElem?_eq_none (by simpa using hl)] at e; cases e
  · rw [List.getElem?_set_ne hj] at e ⊢
    exact f.at_ j u e
theorem FR.wipe {K : PySem.W.Frag} {m : Mp} {H : Hp} {v : Env} {σ : L2.St} (f : FR K m H v σ) : ∀ is : List Nat, FR K m H (wipeE v is) (wipe σ is)
  | [] => f
  | i :: is => (FR.wipe f is).none i

-- GsEv3
def R.post {α : Type} (Qo : α → Hs → Prop) (Qe : Nat → W → Hs → Prop) : R α → Prop
  | .ok a h => Qo a h
  | .ex c w h => Qe c w h
  | .no => False
  | .dr n k => ∀ i, i < n → (k i).post Qo Qe
theorem post_bind {α β : Type} {Qo : β → Hs → Prop} {Qe : Nat → W → Hs → Prop} {f : α → Hs → R β} : ∀ {r : R α}, (r.bind f).post Qo Qe → r.post (fun a h => (f a h).post Qo Qe) Qe
  | .ok _ _, p => p
  | .ex _ _ _, p => p
  | .no, p => p
  | .dr _ k, p => fun i hi => post_bind (r := k i) (p i hi)
theorem post_mono {α : Type} {Qo Qo' : α → Hs → Prop} {Qe Qe' : Nat → W → Hs → Prop} (ho : ∀ a h, Qo a h → Qo' a h) (he : ∀ c w h, Qe c w h → Qe' c w h) : ∀ {r : R α}, r.post Qo Qe → r.post Qo' Qe'
  | .ok _ _, p => ho _ _ p
  | .ex _ _ _, p => he _ _ _ p
  | .no, p => p
  | .dr _ k, p => fun i hi => post_mono ho he (r := k i) (p i hi)

/-- an exception of the class c with w, over H -/
def ExE (K : PySem.W.Frag) (G : Gl0) (E : XK) (c : Nat) (w : W) (m : Mp) (H : Hp) : Prop := match G.cls c with
  | some (C, none) => E (.ref C) none H
  | some (C, some f) => ∀ d v, H d = none → RW K m H w v → E (.ref C) (some d) (upd H d (.xd [(f, v)]))
  | none => False
def OkP (K : PySem.W.Frag) (G : Gl0) (m : Mp) (H : Hp) (Q : VK) : W → Hs → Prop := fun w h' => ∀ m' H' x, Stp m H m' H' → HR K G m' h' H' → RW K m' H' w x → Q x H'
def ExP (K : PySem.W.Frag) (G : Gl0) (E : XK) (m : Mp) (H : Hp) : Nat → W → Hs → Prop := fun c w h' => ∀ m' H', Stp m H m' H' → HR K G m' h' H' → ExE K G E c w m' H'
/-- the reading of an expression by its run -/
def TR (K : PySem.W.Frag) (G : Gl0) (E : XK) (r : Env → Hs → R W) : TE := fun σ H Q => ∃ m v h, FR K m H v σ ∧ HR K G m h H ∧ (r v h).post (OkP K G m H Q) (ExP K G E m H)
theorem ExP.later {K : PySem.W.Frag} {G : Gl0} {E : XK} {m m' : Mp} {H H' : Hp} (s : Stp m H m' H') {c : Nat} {w : W} {h : Hs} (p : ExP K G E m H c w h) : ExP K G E m' H' c w h := fun m2 H2 s2 r2 => p m2 H2 (s.trans s2) r2
theorem OkP.later {K : PySem.W.Frag} {G : Gl0} {Q : VK} {m m' : Mp} {H H' : Hp} (s : Stp m H m' H') {w : W} {h : Hs} (p : OkP K G m H Q w h) : OkP K G m' H' Q w h := fun m2 H2 x s2 r2 q => p m2 H2 x (s.trans s2) r2 q

-- GsEv3
section
variable {K : PySem.W.Frag} {G : Gl0} {E : XK} {m : Mp} {h : Hs} {H : Hp} {v : Env} {σ : L2.St} {Q : VK}
theorem later {α : Type} {Qo Qo' : α → Hs → Prop} {m m' : Mp} {H H' : Hp} (s : Stp m H m' H') (ho : ∀ a h, Qo a h → Qo' a h) {r : R α} (p : r.post Qo (ExP K G E m H)) : r.post Qo' (ExP K G E m' H') := post_mono ho (fun _ _ _ => ExP.later s) p
theorem TR.of {r : Env → Hs → R W} {f : W → Hs → R W} {P : VK} (fr : FR K m H v σ) (hr : HR K G m h H) (p : ((r v h).bind f).post (OkP K G m H Q) (ExP K G E m H))
    (k : ∀ m1 H1 w h1 x, Stp m H m1 H1 → HR K G m1 h1 H1 → RW K m1 H1 w x → FR K m1 H1 v σ → (f w h1).post (OkP K G m1 H1 Q) (ExP K G E m1 H1) → P x H1) : TR K G E r σ H P :=
  ⟨m, v, h, fr, hr, post_mono (fun w h1 p1 m1 H1 x s r q => k m1 H1 w h1 x s r q (fr.mono hr s) (later s (fun _ _ => OkP.later s) p1)) (fun _ _ _ z => z) (post_bind p)⟩
/-- any end -/
theorem TR.of' {α : Type} {Qo : Mp → Hp → α → Hs → Prop} {r : Env → Hs → R W} {f : W → Hs → R α} {P : VK} (fr : FR K m H v σ) (hr : HR K G m h H) (hq : ∀ {m1 H1}, Stp m H m1 H1 → ∀ a h, Qo m H a h → Qo m1 H1 a h) (p : ((r v h).bind f).post (Qo m H) (ExP K G E m H))
    (k : ∀ m1 H1 w h1 x, Stp m H m1 H1 → HR K G m1 h1 H1 → RW K m1 H1 w x → FR K m1 H1 v σ → (f w h1).post (Qo m1 H1) (ExP K G E m1 H1) → P x H1) : TR K G E r σ H P :=
  ⟨m, v, h, fr, hr, post_mono (fun w h1 p1 m1 H1 x s r q => k m1 H1 w h1 x s r q (fr.mono hr s) (later s (hq s) p1)) (fun _ _ _ z => z) (post_bind p)⟩

-- GsEv3
theorem tabs_upd {T : List (Addr × Str)} {a : Addr} {o : HO} (ht : LamX.Tabs T H) (ha : ∀ u, H a = some u → (∃ xs, u = .lst xs) ∨ (∃ ks, u = .dT ks) ∨ ∃ ks, u = .dK ks) : LamX.Tabs T (upd H a o) := fun p hp => by
  obtain ⟨ps, h1, h2, h3⟩ := ht p hp
  refine ⟨ps, ?_, h2, fun pos cv hc => ?_⟩
  · rw [upd_ne]; exact h1
    intro z; rw [z] at h1
    rcases ha _ h1 with ⟨_, e⟩ | ⟨_, e⟩ | ⟨_, e⟩ <;> cases e
  · obtain ⟨c, e1, e2⟩ := h3 pos cv hc
    refine ⟨c, e1, ?_⟩
    rw [upd_ne]; exact e2
    intro z; rw [z] at e2
    rcases ha _ e2 with ⟨_, e⟩ | ⟨_, e⟩ | ⟨_, e⟩ <;> (unfold LamX.CodeO at e; cases e)
theorem Stp.tup {p : Addr} {o : HO} (hp : H p = none) : Stp m H m (upd H p o) where
  le := fun _ _ e => e
  kp := fun a u e _ _ _ => by rw [upd_ne (ne_of_none e hp)]; exact e
  fr := fun _ _ e => .inl e
  al := fun a u e n => ⟨u, by rw [upd_ne (ne_of_none e hp)]; exact e, n⟩
  ko := fun a y e _ => .inl (by rw [upd_ne (ne_of_none e hp)]; exact e)
theorem ORel.step {m' : Mp} {H' : Hp} (hr : HR K G m h H) (s : Stp m H m' H') {a : Addr} {o : O} (e : H' a = H a) (r : ORel K G m H a o) : ORel K G m' H' a o := r.mapW e (fun b z => s.kp b _ z (fun n => hr.not z (fun y => y)) (fun _ y => by cases y) (fun _ y => by cases y)) (fun b y z => s.ko b y z (fun n => hr.not z (fun y => y))) fun _ _ q => hr.rw s q
theorem HR.tup (hr : HR K G m h H) {p : Addr} {vs : List V} (hp : H p = none) : HR K G m h (upd H p (.tup vs)) where
  len := hr.len
  dom := hr.dom
  dom' := hr.dom'
  inj := hr.inj
  ob := fun n a o e q => by
    obtain ⟨u, hu, _⟩ := hr.mut e
    exact (hr.ob n a o e q).step hr (.tup hp) (by rw [upd_ne (ne_of_none hu hp)])
  tab := tabs_upd hr.tab fun u e => by rw [hp] at e; cases e
/-- a map with one more -/
def mpush (m : Mp) (n : Nat) (p : Addr) : Mp := fun i => if i = n then some p else m i
theorem Stp.push (hr : HR K G m h H) {p : Addr} {o : HO} (hp : H p = none) : Stp m H (mpush m h.n p) (upd H p o) where
  le := fun n a e => by
    have := hr.dom' n a e
    unfold mpush
    rw [if_neg (by omega)]; exact e
  kp := fun a u e _ _ _ => by rw [upd_ne (ne_of_none e hp)]; exact e
  fr := fun n a e => by
    unfold mpush at e
    split at e
    · cases e; exact .inr fun o q => by rw [hp] at q; cases q
    · exact .inl e
  al := fun a u e n => ⟨u, by rw [upd_ne (ne_of_none e hp)]; exact e, n⟩
  ko := fun a y e _ => .inl (by rw [upd_ne (ne_of_none e hp)]; exact e)
theorem get_push {h : Hs} {o : O} (hl : h.c.length = h.n) (n : Nat) : (h.push o).get n = if n = h.n then some o else h.get n := by
  unfold Hs.push Hs.get
  by_cases e : n = h.n
  · subst e; simp
  · rw [if_neg e]
    by_cases hn : n < h.n
    · rw [if_pos (show n < h.n + 1 by omega), if_pos hn]
      have e2 : h.n + 1 - 1 - n = (h.n - 1 - n) + 1 := by omega
      simp only [e2, List.getElem?_cons_succ]
    · rw [if_neg (show ¬ n < h.n + 1 by omega), if_neg hn]
theorem HR.pushO (hr : HR K G m h H) {p : Addr} {o : O} {u : HO} (hp : H p = none) (hs : ORel K G (mpush m h.n p) (upd H p u) p o) : HR K G (mpush m h.n p) (h.push o) (upd H p u) where
  len := by simp [Hs.push, hr.len]
  dom := fun n hn => by
    unfold mpush
    by_cases e : n = h.n
    · exact ⟨p, by rw [if_pos e]⟩
    · rw [if_neg e]; exact hr.dom n (by simp [Hs.push] at hn; omega)
  dom' := fun n a e => by
    unfold mpush at e
    split at e
    · simp [Hs.push]; omega
    · have := hr.dom' n a e; simp [Hs.push]; omega
  inj := fun i j a e1 e2 => by
    unfold mpush at e1 e2
    split at e1 <;> split at e2
    · omega
    · cases e1
      obtain ⟨u, hu, _⟩ := hr.mut e2
      rw [hp] at hu; cases hu
    · cases e2
      obtain ⟨u, hu, _⟩ := hr.mut e1
      rw [hp] at hu; cases hu
    · exact hr.inj i j a e1 e2
  ob := fun n a o' e q => by
    rw [get_push hr.len] at q
    unfold mpush at e
    split at e
    · rename_i en
      rw [if_pos en] at q
      cases q; cases e
      exact hs
    · rename_i en
      rw [if_neg en] at q
      obtain ⟨x, hx, _⟩ := hr.mut e
      exact (hr.ob n a o' e q).step hr (.push hr hp) (by rw [upd_ne (ne_of_none hx hp)])
  tab := tabs_upd hr.tab fun u e => by rw [hp] at e; cases e
theorem HR.push (hr : HR K G m h H) {p : Addr} {ws : List W} {vs : List V} (hp : H p = none) (q : RWs K m H ws vs) : HR K G (mpush m h.n p) (h.push (.lst ws)) (upd H p (.lst vs)) :=
  hr.pushO hp ⟨vs, upd_same, hr.rws (.push hr hp) q⟩
theorem mpush_self {n : Nat} {p : Addr} : mpush m n p n = some p := by unfold mpush; rw [if_pos rfl]
/-- a new list has come -/
theorem ok_new (hr : HR K G m h H) {ws : List W} {vs : List V} (q : RWs K m H ws vs) (p : OkP K G m H Q (.obj h.n) (h.push (.lst ws))) : ∀ a, H a = none → Q (.ref a) (upd H a (.lst vs)) := fun a ha =>
  p _ _ _ (.push hr ha) (hr.push ha q) (.obj mpush_self)
theorem ok_tup (hr : HR K G m h H) {ws : List W} {vs : List V} (q : RWs K m H ws vs) (p : OkP K G m H Q (.tup ws) h) : ∀ a, H a = none → Q (.ref a) (upd H a (.tup vs)) := fun a ha =>
  p _ _ _ (.tup ha) (hr.tup ha) (.tup (.of upd_same) (hr.rws (.tup ha) q))
/-- a value that stands -/
theorem ok_val {w : W} {x : V} (hr : HR K G m h H) (q : RW K m H w x) (p : OkP K G m H Q w h) : Q x H := p _ _ _ .refl hr q
/-- a list of ours is changed -/
theorem Stp.set (hr : HR K G m h H) {n : Nat} {a : Addr} {vs us : List V} (e : m n = some a) (hq : H a = some (.lst vs)) : Stp m H m (upd H a (.lst us)) where
  le := fun _ _ e => e
  kp := fun b u eb hn _ _ => by rw [upd_ne]; exact eb; intro z; subst z; exact hn n e
  fr := fun _ _ e => .inl e
  al := fun b u eb n => by
    by_cases hb : b = a
    · exact ⟨_, by rw [hb, upd_same], fun ps z => by cases z⟩
    · exact ⟨u, by rw [upd_ne hb]; exact eb, n⟩
  ko := fun b y eb hn => .inl (by rw [upd_ne]; exact eb; intro z; subst z; exact hn n e)
theorem get_set {h : Hs} {o : O} (hl : h.c.length = h.n) {n : Nat} (hn : n < h.n) (i : Nat) (hi : i < h.n) : (h.set n o).get i = if i = n then some o else h.get i := by
  unfold Hs.set Hs.get
  simp only
  rw [if_pos hi, if_pos hi]
  by_cases e : i = n
  · subst e
    rw [if_pos rfl, List.getElem?_set_self (by omega)]
  · rw [if_neg e, List.getElem?_set_ne (by omega)]
theorem HR.set (hr : HR K G m h H) {n : Nat} {a : Addr} {vs us : List V} {ws : List W} (e : m n = some a) (hq : H a = some (.lst vs)) (q : RWs K m H ws us) : HR K G m (h.set n (.lst ws)) (upd H a (.lst us)) where
  len := by simp [Hs.set, hr.len]
  dom := hr.dom
  dom' := hr.dom'
  inj := hr.inj
  ob := fun i b o ei qi => by
    rw [get_set hr.len (hr.dom' n a e) i (hr.dom' i b ei)] at qi
    split at qi
    · rename_i hi
      subst hi
      rw [e] at ei; cases ei; cases qi
      exact ⟨us, upd_same, hr.rws (.set hr e hq) q⟩
    · rename_i hi
      have hb : b ≠ a := fun z => by subst z; exact hi (hr.inj i n b ei e)
      exact (hr.ob i b o ei qi).step hr (.set hr e hq) (by rw [upd_ne hb])
  tab := tabs_upd hr.tab fun u eu => by rw [hq] at eu; cases eu; exact .inl ⟨_, rfl⟩
end
end GS
-- GsEv4
namespace GS
open PySem PySem.Spec PyProof.Rows L2

def BOp.op : BOp → Operator
  | .add => .Add | .sub => .Sub | .mul => .Mult | .fdiv => .FloorDiv | .mod => .Mod | .pow => .Pow
def COp.op : COp → CmpOp
  | .eq => .Eq | .ne => .NotEq | .lt => .Lt | .le => .LtE | .gt => .Gt | .ge => .GtE | .isIn => .In | .notIn => .NotIn | .is => .Is | .isNot => .IsNot

theorem rep_flat {α : Type} (xs : List α) : ∀ n : Nat, (List.replicate n xs).flatten = Nat.rec [] (fun _ r => xs ++ r) n
  | 0 => rfl
  | n + 1 => by rw [List.replicate_succ, List.flatten_cons, rep_flat xs n]
theorem repW_eq (ws : List W) : ∀ n : Nat, repW ws n = (List.replicate n ws).flatten
  | 0 => rfl
  | n + 1 => by rw [List.replicate_succ, List.flatten_cons, ← repW_eq ws n]; rfl
section
variable {K : PySem.W.Frag} {G : Gl0} {E : XK} {m : Mp} {h : Hs} {H : Hp} {Q : VK}
theorem RWs.rep {ws : List W} {vs : List V} (r : RWs K m H ws vs) : ∀ n : Nat, RWs K m H (repW ws n) (List.replicate n vs).flatten
  | 0 => .nil
  | n + 1 => by rw [List.replicate_succ, List.flatten_cons]; exact r.append (RWs.rep r n)
/-- data -/
theorem toDs_dp {n : Nat} (ih : ∀ {w : W} {v : V} {d : PyData}, RW K m H w v → toD h n w = some d → Dp K H v d) : ∀ {ws : List W} {vs : List V} {ds : List PyData}, RWs K m H ws vs → toDs (toD h n) ws = some ds → DpAll K H vs ds
  | _, _, _, .nil, e => by simp [toDs] at e; subst e; exact .nil
  | _, _, _, .cons r rs, e => by
    simp only [toDs] at e
    split at e
    · rename_i d hd
      split at e
      · rename_i ds hds
        simp at e; subst e
        exact .cons (ih r hd) (toDs_dp ih rs hds)
      · cases e
    · cases e
theorem toD_dp (hr : HR K G m h H) (n : Nat) : ∀ {w : W} {v : V} {d : PyData}, RW K m H w v → toD h n w = some d → Dp K H v d := by
  induction n with
  | zero => intro w v d _ e; simp [toD] at e
  | succ n ih =>
    intro w v d q e
    cases q with
    | non => simp [toD] at e; subst e; exact .non
    | bl b => simp [toD] at e; subst e; exact .bl b
    | int i => simp [toD] at e; subst e; exact .int i
    | str x => simp [toD] at e; subst e; exact .str x
    | srep c n => simp [toD] at e
    | tup s r =>
      simp only [toD, Option.map_eq_some_iff] at e
      obtain ⟨ds, e1, rfl⟩ := e
      exact .tup s (toDs_dp ih r e1)
    | ftup s r =>
      simp only [toD, Option.map_eq_some_iff] at e
      obtain ⟨ds, e1, rfl⟩ := e
      exact .tup (sqf s) (toDs_dp ih r e1)
    | obj q =>
      simp only [toD] at e
      split at e
      · rename_i ws hw
        simp only [Option.map_eq_some_iff] at e
        obtain ⟨ds, e1, rfl⟩ := e
        obtain ⟨vs, e2, r⟩ := hr.lst q hw
        exact .lst (.of e2) (toDs_dp ih r e1)
      · cases e
    | any x => simp [toD] at e
    | sl s e' => simp [toD] at e
    | ls s => simp [toD] at e
    | ch _ _ _ => simp [toD] at e
    | aint _ => simp [toD] at e
    | rint _ _ => simp [toD] at e
theorem small_iff {i : Int} (e : small i = true) : -(2 ^ 64) < i ∧ i < 2 ^ 64 := by
  simp only [small, Bool.and_eq_true, decide_eq_true_eq] at e
  constructor <;> omega
theorem mulOk_ok {i j : Int} (e : mulOk i j = true) : IntMulOk i j := by
  simp only [mulOk, Bool.or_eq_true, decide_eq_true_eq] at e
  rcases e with (e | e) | e
  · exact CMul.ok (.inl (small_iff e))
  · exact CMul.ok (.inr (small_iff e))
  · exact CMulW.ok e
theorem post_if {α : Type} {c : Prop} [Decidable c] {r : R α} {Qo : α → Hs → Prop} {Qe : Nat → W → Hs → Prop} (p : (if c then r else .no).post Qo Qe) : c ∧ r.post Qo Qe := by
  split at p
  · exact ⟨by assumption, p⟩
  · exact p.elim
theorem nil_of {ws : List W} {vs : List V} (r : RWs K m H ws vs) : vs = [] ↔ ws = [] := by
  cases r <;> simp
end

/-- an operator by its run -/
def rB (K : PySem.W.Frag) (G : Gl0) (E : XK) (f : W → W → Hs → R W) : R2 := fun x y H Q => ∃ m h w u, HR K G m h H ∧ RW K m H w x ∧ RW K m H u y ∧ (f w u h).post (OkP K G m H Q) (ExP K G E m H)
theorem foldl_rep (a : Array Nat) : ∀ (n : Nat) (acc : Array Nat), ((List.replicate n a).foldl (· ++ ·) acc).toList = acc.toList ++ repL a.toList n
  | 0, acc => by simp [repL]
  | n + 1, acc => by
    rw [List.replicate_succ, List.foldl_cons, foldl_rep a n, Array.toList_append, repL, List.append_assoc]
theorem repL_len (l : List Nat) : ∀ n : Nat, (repL l n).length = n * l.length
  | 0 => by simp [repL]
  | n + 1 => by rw [repL, List.length_append, repL_len l n, Nat.succ_mul, Nat.add_comm]
theorem repL_one (c : Nat) : ∀ n : Nat, repL [c] n = List.replicate n c
  | 0 => rfl
  | n + 1 => by rw [repL, repL_one c n, List.replicate_succ]; rfl
theorem mulS_ok {K : PySem.W.Frag} {m : Mp} {H : Hp} {x : Str} {k : Int} {w : W} (e : mulS x k = some w) : 2 ≤ k ∧ 1 ≤ x.length ∧ (((x.length : Int) = 1 ∧ k ≤ 1000000) ∨ ((x.length : Int) ≤ 1000 ∧ k ≤ 1000)) ∧ RW K m H w (.str ⟨(List.replicate k.toNat x.cps).foldl (· ++ ·) #[]⟩) := by
  have key : ∀ n, (⟨(List.replicate n x.cps).foldl (· ++ ·) #[]⟩ : Str) = ⟨(repL x.cps.toList n).toArray⟩ := fun n => by
    congr 1
    apply Array.toList_inj.mp
    rw [foldl_rep]
    simp
  have hl : x.length = x.cps.toList.length := by simp [Str.length]
  rw [key]
  unfold mulS at e
  split at e
  · rename_i c hc
    rw [hc] at hl ⊢
    have hl : x.length = 1 := hl
    rw [repL_one]
    split at e
    · rename_i h
      cases e
      exact ⟨by omega, by omega, .inl ⟨by omega, h.2⟩, .srep _ _⟩
    · split at e
      · rename_i h
        cases e
        exact ⟨h.1, by omega, .inl ⟨by omega, by omega⟩, .str _⟩
      · cases e
  · split at e
    · rename_i h
      cases e
      exact ⟨h.1, by omega, .inr ⟨by omega, h.2.1⟩, .str _⟩
    · cases e

section
variable {X : Cx} {G : Gl0} {E : XK}
theorem bin_ok (o : BOp) : OpR X (binaryOp o.op) (rB X.K G E (binW o)) := by
  intro pins s σ H x y v u Q I rx ry p
  obtain ⟨m, h, w, z, hr, qx, qy, p⟩ := p
  cases o with
  | add =>
    cases qx <;> cases qy <;> first | exact (show False from p).elim | skip
    · exact op_add pins s σ H _ _ v u Q I rx ry ⟨_, _, rfl, rfl, ok_val hr (.int _) p⟩
    · obtain ⟨hz, p⟩ := post_if p
      exact op_add_str pins s σ H _ _ v u Q I rx ry ⟨_, _, rfl, rfl, hz, ok_val hr (.str _) p⟩
    · rename_i a vs ws sa ra b us xs sb rb
      obtain ⟨hz, p⟩ := post_if p
      refine op_catA pins s σ H _ _ v u Q I rx ry ⟨a, b, vs, us, rfl, rfl, sa, sb, by rw [← ra.length, ← rb.length]; exact hz, fun e => ?_, fun _ e => ?_, fun _ _ => ok_tup hr (ra.append rb) p⟩
      · rw [(nil_of ra).mp e, List.nil_append] at p
        exact ok_val hr (.tup sb rb) p
      · rw [(nil_of rb).mp e, List.append_nil] at p
        exact ok_val hr (.tup sa ra) p
    · rename_i i a ea j b eb
      simp only [binW] at p
      split at p
      · rename_i ws us h1 h2
        obtain ⟨hz, p⟩ := post_if p
        obtain ⟨vs, e1, r1⟩ := hr.lst ea h1
        obtain ⟨xs, e2, r2⟩ := hr.lst eb h2
        exact op_cat pins s σ H _ _ v u Q I rx ry ⟨a, b, vs, xs, rfl, rfl, e1, e2, by rw [← r1.length, ← r2.length]; exact hz, ok_new hr (r1.append r2) p⟩
      · exact p.elim
  | sub =>
    cases qx <;> cases qy <;> first | exact (show False from p).elim | skip
    exact op_sub pins s σ H _ _ v u Q I rx ry ⟨_, _, rfl, rfl, ok_val hr (.int _) p⟩
  | mul =>
    cases qx <;> cases qy <;> first | exact (show False from p).elim | skip
    · obtain ⟨hz, p⟩ := post_if p
      exact (opI (C := fun i j => mulOk i j = true) (g := fun i j => i * j) fun _ _ _ _ _ _ _ hc q => mul_int q (mulOk_ok hc)) pins s σ H _ _ v u Q I rx ry ⟨_, _, rfl, rfl, hz, ok_val hr (.int _) p⟩
    · rename_i x k
      simp only [binW] at p
      split at p
      · rename_i w hw
        obtain ⟨t, rfl⟩ := rx
        obtain ⟨t', rfl⟩ := ry
        obtain ⟨h1, h2, h3, rw1⟩ := mulS_ok (K := X.K) (m := m) (H := H) hw
        refine PySem.P.mul_str ?_ (fun _ _ => ?_) (fun _ _ => ?_) ?_
        · have a1 : ¬ k < -(2 ^ 63 : Int) := by omega
          have a2 : ¬ k ≥ 2 ^ 63 := by omega
          rw [decide_eq_false a1, decide_eq_false a2]
          rfl
        · have : (x.length : Int) ≤ (2 ^ 63 - 1) / k := by
            refine Int.le_ediv_of_mul_le (by omega) ?_
            rcases h3 with ⟨h3, h4⟩ | ⟨h3, h4⟩
            · rw [h3]; omega
            · exact Int.le_trans (Int.mul_le_mul h3 h4 (by omega) (by omega)) (by decide)
          omega
        · have h5 : x.length * k.toNat ≤ 1000000 := by
            rcases h3 with ⟨h3, h4⟩ | ⟨h3, h4⟩
            · have : x.length = 1 := by omega
              rw [this]; omega
            · have h6 : k.toNat ≤ 1000 := by omega
              have := Nat.mul_le_mul (show x.length ≤ 1000 by omega) h6
              omega
          unfold Builtin.Str.tooLong
          rw [sizeLine_eq]
          simp
          omega
        · have b1 : ¬ k < 1 := by omega
          have b2 : (k == 1 || x.length == 0) = false := by
            have c1 : (k == 1) = false := by simp; omega
            have c2 : (x.length == 0) = false := by simp; omega
            rw [c1, c2]; rfl
          rw [if_neg b1, b2]
          refine ⟨?_, .str _, H, I.tok _, ⟨_, rfl⟩, ok_val hr rw1 p⟩
          have h5 : x.length * k.toNat ≤ 1000000 := by
            rcases h3 with ⟨h3, h4⟩ | ⟨h3, h4⟩
            · have : x.length = 1 := by omega
              rw [this]; omega
            · have h6 : k.toNat ≤ 1000 := by omega
              have := Nat.mul_le_mul (show x.length ≤ 1000 by omega) h6
              omega
          have h6 : (⟨(List.replicate k.toNat x.cps).foldl (· ++ ·) #[]⟩ : Str).length = k.toNat * x.length := by
            show ((List.replicate k.toNat x.cps).foldl (· ++ ·) #[]).size = _
            rw [← Array.length_toList, foldl_rep, List.length_append, repL_len]
            simp [Str.length]
          show Str.length _ ≤ sizeLine
          rw [h6, sizeLine_eq, Nat.mul_comm]
          omega
      · exact p.elim
    · rename_i a vs ws sa ra k
      obtain ⟨⟨h1, h2, h3, h4⟩, p⟩ := post_if p
      refine op_repT pins s σ H _ _ v u Q I rx ry ⟨a, k, vs, rfl, rfl, sa, fun e => ?_, h1, h2, by rw [← ra.length]; exact h3, ok_tup hr (ra.rep _) p⟩
      rw [(nil_of ra).mp e] at h4; cases h4
    · rename_i i a ea k
      simp only [binW] at p
      split at p
      · rename_i ws h1
        obtain ⟨⟨h2, h3, h4⟩, p⟩ := post_if p
        obtain ⟨vs, e1, r1⟩ := hr.lst ea h1
        refine op_rep pins s σ H _ _ v u Q I rx ry ⟨a, k, vs, rfl, rfl, e1, by omega, by omega, ?_, ok_new hr (r1.rep _) p⟩
        rw [← r1.length]
        have h5 : k.toNat ≤ 1000 := by omega
        have := Nat.mul_le_mul h4 h5
        rw [sizeLine_eq]; omega
      · exact p.elim
  | fdiv =>
    cases qx <;> cases qy <;> first | exact (show False from p).elim | skip
    obtain ⟨hz, p⟩ := post_if p
    exact op_fdivW pins s σ H _ _ v u Q I rx ry ⟨_, _, rfl, rfl, hz, ok_val hr (.int _) p⟩
  | mod =>
    cases qx <;> cases qy <;> first | exact (show False from p).elim | skip
    obtain ⟨hz, p⟩ := post_if p
    exact op_mod pins s σ H _ _ v u Q I rx ry ⟨_, _, rfl, rfl, hz, ok_val hr (.int _) p⟩
  | pow =>
    cases qx <;> cases qy <;> first | exact (show False from p).elim | skip
    obtain ⟨⟨h1, h2, h3⟩, p⟩ := post_if p
    rename_i i j _
    obtain ⟨t, rfl⟩ := rx
    obtain ⟨t', rfl⟩ := ry
    refine PyProof.Rows.pow_int h1 ?_ ⟨.int _, H, I.tok _, ⟨_, rfl⟩, ok_val hr (.int _) p⟩
    have hb : (Builtin.Int.intBits i : Int) ≤ 9000 := by
      unfold Builtin.Int.intBits
      split
      · omega
      · omega
    have : (Builtin.Int.intBits i : Int) * j ≤ 9000 * 1000 := by
      refine Int.le_trans (Int.mul_le_mul_of_nonneg_right hb h1) ?_
      exact Int.mul_le_mul_of_nonneg_left h2 (by omega)
    omega
end
-- GsEv4
theorem toDs_depth {f : W → Option PyData} {n : Nat} (ih : ∀ w d, f w = some d → d.depth ≤ n) : ∀ {ws : List W} {ds : List PyData}, toDs f ws = some ds → PyData.depthAll ds ≤ n
  | [], _, e => by simp [toDs] at e; subst e; simp [PyData.depthAll]
  | w :: ws, _, e => by
    simp only [toDs] at e
    split at e
    · rename_i d hd
      split at e
      · rename_i ds hds
        simp at e; subst e
        have h1 := ih _ _ hd
        have h2 := toDs_depth ih hds
        simp only [PyData.depthAll]
        omega
      · cases e
    · cases e
theorem toD_depth {h : Hs} : ∀ (n : Nat) {w : W} {d : PyData}, toD h n w = some d → d.depth ≤ n
  | 0, _, _, e => by simp [toD] at e
  | n + 1, w, d, e => by
    cases w with
    | non => simp [toD] at e; subst e; simp [PyData.depth]
    | bl b => simp [toD] at e; subst e; simp [PyData.depth]
    | int i => simp [toD] at e; subst e; simp [PyData.depth]
    | str x => simp [toD] at e; subst e; simp [PyData.depth]
    | any => simp [toD] at e
    | sl n => simp [toD] at e
    | ls n => simp [toD] at e
    | ch n => simp [toD] at e
    | aint => simp [toD] at e
    | rint n => simp [toD] at e
    | srep _ _ => simp [toD] at e
    | ftup ws =>
      simp only [toD, Option.map_eq_some_iff] at e
      obtain ⟨ds, e1, rfl⟩ := e
      have := toDs_depth (fun w d => toD_depth n) e1
      simp only [PyData.depth]
      omega
    | tup ws =>
      simp only [toD, Option.map_eq_some_iff] at e
      obtain ⟨ds, e1, rfl⟩ := e
      have := toDs_depth (fun w d => toD_depth n) e1
      simp only [PyData.depth]
      omega
    | obj a =>
      simp only [toD] at e
      split at e
      · simp only [Option.map_eq_some_iff] at e
        obtain ⟨ds, e1, rfl⟩ := e
        have := toDs_depth (fun w d => toD_depth n) e1
        simp only [PyData.depth]
        omega
      · cases e
theorem anyEq_eq (d : PyData) : ∀ ds : List PyData, anyEq d ds = ds.any fun z => PyData.eqv z d
  | [] => rfl
  | e :: r => by simp only [anyEq, List.any_cons, anyEq_eq d r]
theorem okB_post {o : Option Bool} {h : Hs} {Qo : W → Hs → Prop} {Qe : Nat → W → Hs → Prop} (p : (okB o h).post Qo Qe) : ∃ b, o = some b ∧ Qo (.bl b) h := by
  cases o with
  | none => exact p.elim
  | some b => exact ⟨b, rfl, p⟩
theorem eqW_some {h : Hs} {a b : W} {r : Bool} (e : eqW h a b = some r) : ∃ d f, toD h dpth a = some d ∧ toD h dpth b = some f ∧ SeqAt.shaped d = true ∧ SeqAt.shaped f = true ∧ r = PyData.eqv d f := by
  unfold eqW at e
  split at e
  · rename_i d f hd hf
    split at e
    · rename_i hs
      cases e
      exact ⟨d, f, hd, hf, hs.1, hs.2, rfl⟩
    · cases e
  · cases e
section
variable {X : Cx} {G : Gl0} {E : XK}
/-- x in c, x not in c -/
theorem inW_ok (hu : X.A.units + 65 < cLine) {pins : List (Addr × Obj)} {s : Shared} {σ : L2.St} {H : Hp} {x y : V} {v u : Value} {m : Mp} {h : Hs} {w z : W} {r : Bool} (I : Inv X pins σ H s) (rx : RelV x v) (ry : RelV y u) (hr : HR X.K G m h H) (qx : RW X.K m H w x) (qy : RW X.K m H z y)
    (e : inW h w z = some r) {Q : Value → Shared → Prop} : (Q (.bool r) s → wpAny (model X.prog X.w) X.A (compareOp .In v u) Q X.xe s) ∧ (Q (.bool (!r)) s → wpAny (model X.prog X.w) X.A (compareOp .NotIn v u) Q X.xe s) := by
  unfold inW at e
  split at e
  · rename_i d ds hd hds
    split at e
    · rename_i hs
      cases e
      rw [anyEq_eq]
      obtain ⟨as, r1⟩ := Dp.reads I d x v (toD_dp hr _ qx hd) rx
      obtain ⟨bs, r2⟩ := Dp.reads I (.tuple ds) y u (toD_dp hr _ qy hds) ry
      exact ⟨fun q => SeqAt.in_tuple_reads r2 r1 (SeqAt.canLay_of_shaped hs.2) (SeqAt.canLay_of_shaped hs.1) (room_in_shaped hs.1 hu) q,
        fun q => SeqAt.notIn_tuple_reads r2 r1 (SeqAt.canLay_of_shaped hs.2) (SeqAt.canLay_of_shaped hs.1) (room_in_shaped hs.1 hu) q⟩
    · cases e
  · rename_i d ds hd hds
    split at e
    · rename_i hs
      cases e
      rw [anyEq_eq]
      obtain ⟨as, r1⟩ := Dp.reads I d x v (toD_dp hr _ qx hd) rx
      obtain ⟨bs, r2⟩ := Dp.reads I (.list ds) y u (toD_dp hr _ qy hds) ry
      exact ⟨fun q => SeqAt.in_list_reads r2 r1 (SeqAt.canLay_of_shaped hs.2) (SeqAt.canLay_of_shaped hs.1) (room_in_shaped hs.1 hu) q,
        fun q => SeqAt.notIn_list_reads r2 r1 (SeqAt.canLay_of_shaped hs.2) (SeqAt.canLay_of_shaped hs.1) (room_in_shaped hs.1 hu) q⟩
    · cases e
  · cases e
theorem notNon_of {K : PySem.W.Frag} {m : Mp} {H : Hp} {w : W} {x : V} (q : RW K m H w x) (ha : isAny w = false) : notNon w = !decide (x = .non) := by
  cases q <;> first
    | (simp [notNon]; done)
    | cases ha
theorem ltD_ok (hu : X.A.units + 65 < cLine) {pins : List (Addr × Obj)} {s : Shared} {σ : L2.St} {H : Hp} {x y : V} {v u : Value} {m : Mp} {h : Hs} {w z : W} {r : Bool} (I : Inv X pins σ H s) (rx : RelV x v) (ry : RelV y u) (hr : HR X.K G m h H) (qx : RW X.K m H w x) (qy : RW X.K m H z y)
    (hn : notNon w = true) (e : ltW h w z = some r) {Q : Value → Shared → Prop} (q : Q (.bool r) s) : wpAny (model X.prog X.w) X.A (compareOp .Lt v u) Q X.xe s := by
  unfold ltW at e
  split at e
  · rename_i d f hd hf
    split at e
    · rename_i ha
      cases e
      obtain ⟨as, r1⟩ := Dp.reads I d x v (toD_dp hr _ qx hd) rx
      obtain ⟨bs, r2⟩ := Dp.reads I f y u (toD_dp hr _ qy hf) ry
      have hd1 := toD_depth _ hd
      have hne : d ≠ .none := by
        intro z
        subst z
        cases qx with
        | non => cases hn
        | bl b => simp [toD, dpth] at hd
        | int i => simp [toD, dpth] at hd
        | str x => simp [toD, dpth] at hd
        | any x => simp [toD, dpth] at hd
        | sl s e => simp [toD, dpth] at hd
        | ls s => simp [toD, dpth] at hd
        | ch _ _ _ => simp [toD, dpth] at hd
        | aint _ => simp [toD, dpth] at hd
        | rint _ _ => simp [toD, dpth] at hd
        | srep _ _ => simp [toD, dpth] at hd
        | tup s r => simp [toD, dpth] at hd
        | ftup s r => simp [toD, dpth] at hd
        | obj e =>
          simp only [toD, dpth] at hd
          split at hd
          · simp at hd
          · cases hd
      exact PySem.W.rcLt_alike d f X.A s v u as bs r1 r2 ha hne (by unfold dpth at hd1; omega) _ _ _ _ q
    · cases e
  · cases e
theorem cmp_ok (hu : X.A.units + 65 < cLine) (o : COp) : OpR X (compareOp o.op) (rB X.K G E (cmpW o)) := by
  intro pins s σ H x y v u Q I rx ry p
  obtain ⟨m, h, w, z, hr, qx, qy, p⟩ := p
  have val : ∀ {b : Bool} {Qe : Nat → W → Hs → Prop}, (R.ok (.bl b) h).post (OkP X.K G m H Q) Qe → Q (.bl b) H := fun p => ok_val hr (.bl _) p
  have eqC : ∀ {r : Bool}, eqW h w z = some r → Q (.bl r) H → wpAny (model X.prog X.w) X.A (compareOp .Eq v u) (EP X pins σ Q) X.xe s := fun {r} e q => by
    obtain ⟨d, f, hd, hf, s1, s2, rfl⟩ := eqW_some e
    exact op_eqD (by omega) pins s σ H x y v u Q I rx ry ⟨d, f, toD_dp hr _ qx hd, toD_dp hr _ qy hf, s1, s2, q⟩
  have neC : ∀ {r : Bool}, eqW h w z = some r → Q (.bl (!r)) H → wpAny (model X.prog X.w) X.A (compareOp .NotEq v u) (EP X pins σ Q) X.xe s := fun {r} e q => by
    obtain ⟨d, f, hd, hf, s1, s2, rfl⟩ := eqW_some e
    exact op_neD (by omega) pins s σ H x y v u Q I rx ry ⟨d, f, toD_dp hr _ qx hd, toD_dp hr _ qy hf, s1, s2, q⟩
  cases o with
  | eq =>
    have gen : (okB (eqW h w z) h).post (OkP X.K G m H Q) (ExP X.K G E m H) → wpAny (model X.prog X.w) X.A (compareOp .Eq v u) (EP X pins σ Q) X.xe s := fun p => by
      obtain ⟨b, e, p⟩ := okB_post p
      exact eqC e (val (Qe := fun _ _ _ => True) p)
    cases qx <;> cases qy <;> first
      | exact gen p
      | exact op_eq pins s σ H _ _ v u Q I rx ry ⟨rfl, by rw [dec_int]; exact val (Qe := fun _ _ _ => True) (by rw [Bool.beq_eq_decide_eq]; exact p)⟩
  | ne =>
    have gen : (okB ((eqW h w z).map not) h).post (OkP X.K G m H Q) (ExP X.K G E m H) → wpAny (model X.prog X.w) X.A (compareOp .NotEq v u) (EP X pins σ Q) X.xe s := fun p => by
      obtain ⟨b, e, p⟩ := okB_post p
      simp only [Option.map_eq_some_iff] at e
      obtain ⟨a, e, rfl⟩ := e
      exact neC e (val (Qe := fun _ _ _ => True) p)
    cases qx <;> cases qy <;> first
      | exact gen p
      | exact op_ne pins s σ H _ _ v u Q I rx ry ⟨rfl, by rw [dec_int]; exact val (Qe := fun _ _ _ => True) (by rw [Bool.beq_eq_decide_eq]; exact p)⟩
  | lt =>
    have gen : (if notNon w = true then okB (ltW h w z) h else .no).post (OkP X.K G m H Q) (ExP X.K G E m H) → wpAny (model X.prog X.w) X.A (compareOp .Lt v u) (EP X pins σ Q) X.xe s := fun p => by
      obtain ⟨hn, p⟩ := post_if p
      obtain ⟨b, e, p⟩ := okB_post p
      exact ltD_ok hu I rx ry hr qx qy hn e ⟨.bl b, H, I, rfl, val (Qe := fun _ _ _ => True) p⟩
    cases qx <;> cases qy <;> first
      | exact gen p
      | exact op_lt pins s σ H _ _ v u Q I rx ry ⟨_, _, rfl, rfl, ok_val hr (.bl _) p⟩
  | le =>
    cases qx <;> cases qy <;> first | exact (show False from p).elim | skip
    exact op_le pins s σ H _ _ v u Q I rx ry ⟨_, _, rfl, rfl, ok_val hr (.bl _) p⟩
  | gt =>
    cases qx <;> cases qy <;> first | exact (show False from p).elim | skip
    exact op_gt pins s σ H _ _ v u Q I rx ry ⟨_, _, rfl, rfl, ok_val hr (.bl _) p⟩
  | ge =>
    cases qx <;> cases qy <;> first | exact (show False from p).elim | skip
    exact op_ge pins s σ H _ _ v u Q I rx ry ⟨_, _, rfl, rfl, ok_val hr (.bl _) p⟩
  | isIn =>
    have p : (okB (inW h w z) h).post (OkP X.K G m H Q) (ExP X.K G E m H) := by cases w <;> cases z <;> exact p
    obtain ⟨b, e, p⟩ := okB_post p
    exact (inW_ok hu I rx ry hr qx qy e).1 ⟨.bl b, H, I, rfl, val (Qe := fun _ _ _ => True) p⟩
  | notIn =>
    have p : (okB ((inW h w z).map not) h).post (OkP X.K G m H Q) (ExP X.K G E m H) := by cases w <;> cases z <;> exact p
    obtain ⟨b, e, p⟩ := okB_post p
    simp only [Option.map_eq_some_iff] at e
    obtain ⟨a, e, rfl⟩ := e
    exact (inW_ok hu I rx ry hr qx qy e).2 ⟨.bl (!a), H, I, rfl, val (Qe := fun _ _ _ => True) p⟩
  | is =>
    cases qy with
    | non =>
      have p : (if isAny w = true then R.no else R.ok (.bl (!notNon w)) h).post (OkP X.K G m H Q) (ExP X.K G E m H) := by cases w <;> exact p
      cases ha : isAny w with
      | true => rw [ha] at p; exact p.elim
      | false =>
      rw [ha] at p
      have p : (R.ok (.bl (!notNon w)) h).post (OkP X.K G m H Q) (ExP X.K G E m H) := p
      have hx := notNon_of qx ha
      exact op_isN pins s σ H _ _ v u Q I rx ry ⟨rfl, by have := val (Qe := fun _ _ _ => True) p; rw [hx, Bool.not_not] at this; exact this⟩
    | bl b =>
      cases qx with
      | bl a => exact op_isBl pins s σ H _ _ v u Q I rx ry ⟨_, _, rfl, rfl, ok_val hr (.bl _) p⟩
      | _ => exact (show False from p).elim
    | _ => cases w <;> exact (show False from p).elim
  | isNot =>
    cases qy with
    | non =>
      have p : (if isAny w = true then R.no else R.ok (.bl (notNon w)) h).post (OkP X.K G m H Q) (ExP X.K G E m H) := by cases w <;> exact p
      cases ha : isAny w with
      | true => rw [ha] at p; exact p.elim
      | false =>
      rw [ha] at p
      have p : (R.ok (.bl (notNon w)) h).post (OkP X.K G m H Q) (ExP X.K G E m H) := p
      have hx := notNon_of qx ha
      exact op_notN pins s σ H _ _ v u Q I rx ry ⟨rfl, by have := val (Qe := fun _ _ _ => True) p; rw [hx] at this; exact this⟩
    | bl b =>
      cases qx with
      | bl a => exact op_notBl pins s σ H _ _ v u Q I rx ry ⟨_, _, rfl, rfl, ok_val hr (.bl _) p⟩
      | _ => exact (show False from p).elim
    | _ => cases w <;> exact (show False from p).elim
end
end GS
-- GsEv5
namespace GS
open PySem PySem.Spec PyProof.Rows L2

-- GsEv5
section
variable {α β : Type}
abbrev leP (a b : PyData × α) : Bool := PySem.W.dataLe false (fun p : PyData × α => p.1) a b
theorem leP_eq (a b : PyData × α) : leP a b = !PySem.W.dataLt b.1 a.1 := rfl
theorem leP_total : PySem.W.TotalLe (leP (α := α)) := PySem.W.sortLe_total _ _ _
theorem leP_of {x y : PyData × α} (h : PySem.W.dataLt x.1 y.1 = true) : leP x y = true := by
  rcases leP_total.total x y with q | q
  · exact q
  · rw [leP_eq, h] at q; cases q
theorem mem_ins1 {x z : PyData × α} : ∀ {l : List (PyData × α)}, z ∈ ins1 x l → z = x ∨ z ∈ l
  | [], h => by simp [ins1] at h; exact .inl h
  | y :: r, h => by
    unfold ins1 at h
    split at h
    · simpa using h
    · rcases List.mem_cons.mp h with rfl | h
      · exact .inr (List.mem_cons_self ..)
      · rcases mem_ins1 h with h | h
        · exact .inl h
        · exact .inr (List.mem_cons_of_mem _ h)
theorem ins1_pw {x : PyData × α} : ∀ {l : List (PyData × α)}, l.Pairwise (fun a b => leP a b = true) → (ins1 x l).Pairwise (fun a b => leP a b = true)
  | [], _ => by simp [ins1]
  | y :: r, h => by
    unfold ins1
    split
    · rename_i hx
      refine List.pairwise_cons.mpr ⟨fun z hz => ?_, h⟩
      rcases List.mem_cons.mp hz with rfl | hz
      · exact leP_of hx
      · exact leP_total.trans _ _ _ (leP_of hx) ((List.pairwise_cons.mp h).1 z hz)
    · rename_i hx
      obtain ⟨h1, h2⟩ := List.pairwise_cons.mp h
      refine List.pairwise_cons.mpr ⟨fun z hz => ?_, ins1_pw h2⟩
      rcases mem_ins1 hz with rfl | hz
      · rw [leP_eq]; simpa using hx
      · exact h1 z hz
theorem ins1_fl {x : PyData × α} (c : PyData × α) : ∀ {l : List (PyData × α)}, l.Pairwise (fun a b => leP a b = true) → (ins1 x l).filter (PySem.W.sameRank leP c) = l.filter (PySem.W.sameRank leP c) ++ [x].filter (PySem.W.sameRank leP c)
  | [], _ => by simp [ins1]
  | y :: r, h => by
    unfold ins1
    split
    · rename_i hx
      by_cases hc : PySem.W.sameRank leP c x = true
      · have e : (y :: r).filter (PySem.W.sameRank leP c) = [] := by
          rw [List.filter_eq_nil_iff]
          intro z hz hs
          unfold PySem.W.sameRank at hc hs
          rw [Bool.and_eq_true] at hc hs
          have h1 : leP z x = true := leP_total.trans _ c _ hs.2 hc.1
          have h2 : leP y x = true := by
            rcases List.mem_cons.mp hz with rfl | hz
            · exact h1
            · exact leP_total.trans _ _ _ ((List.pairwise_cons.mp h).1 z hz) h1
          rw [leP_eq, hx] at h2; cases h2
        rw [List.filter_cons, if_pos hc, e, List.filter_cons, if_pos hc]
        rfl
      · rw [List.filter_cons, if_neg hc, List.filter_cons (x := x), if_neg hc]
        simp
    · rw [List.filter_cons, List.filter_cons, ins1_fl c (List.pairwise_cons.mp h).2]
      split <;> simp
theorem insAll_pw : ∀ {l acc : List (PyData × α)}, acc.Pairwise (fun a b => leP a b = true) → (insAll acc l).Pairwise (fun a b => leP a b = true)
  | [], _, h => h
  | x :: r, _, h => insAll_pw (l := r) (ins1_pw h)
theorem insAll_fl (c : PyData × α) : ∀ {l acc : List (PyData × α)}, acc.Pairwise (fun a b => leP a b = true) → (insAll acc l).filter (PySem.W.sameRank leP c) = acc.filter (PySem.W.sameRank leP c) ++ l.filter (PySem.W.sameRank leP c)
  | [], _, h => by simp [insAll]
  | x :: r, acc, h => by
    unfold insAll
    rw [insAll_fl c (l := r) (ins1_pw h), ins1_fl c h, List.append_assoc, ← List.filter_append]
    rfl
theorem insAll_sort (l : List (PyData × α)) : insAll [] l = l.mergeSort leP := PySem.W.sort_unique leP_total (insAll_pw .nil) fun c => by rw [insAll_fl c .nil]; simp
theorem ins1_map (f : α → β) (x : PyData × α) : ∀ l : List (PyData × α), (ins1 x l).map (fun p => (p.1, f p.2)) = ins1 (x.1, f x.2) (l.map fun p => (p.1, f p.2))
  | [] => rfl
  | y :: r => by
    show (if PySem.W.dataLt x.1 y.1 = true then x :: y :: r else y :: ins1 x r).map _ = if PySem.W.dataLt x.1 y.1 = true then _ else _
    split
    · rfl
    · rw [List.map_cons, ins1_map f x r]
theorem insAll_map (f : α → β) : ∀ l acc : List (PyData × α), (insAll acc l).map (fun p => (p.1, f p.2)) = insAll (acc.map fun p => (p.1, f p.2)) (l.map fun p => (p.1, f p.2))
  | [], _ => rfl
  | x :: r, acc => by
    unfold insAll
    rw [insAll_map f r, ins1_map]
    rfl
theorem mem_insAll {z : PyData × α} : ∀ {l acc : List (PyData × α)}, z ∈ insAll acc l → z ∈ acc ∨ z ∈ l
  | [], _, h => .inl h
  | x :: r, acc, h => by
    rcases mem_insAll (l := r) h with h | h
    · rcases mem_ins1 h with rfl | h
      · exact .inr (List.mem_cons_self ..)
      · exact .inl h
    · exact .inr (List.mem_cons_of_mem _ h)
end
section
variable {prog : Program} {w : World} {A : Around} {E : Value → Shared → Prop} {s : Shared}
/-- one value, or none -/
theorem sortsAt_one {vs : List Value} {ds : List PyData} (e : PySem.W.EachIs (fun v d => ∃ as, Reads s.heap v d as) vs ds) (hal : PySem.W.AllAlike ds) (hl : ds.length ≤ 1) (hn : ∀ d, d ∈ ds → d ≠ .none) (hu : ∀ d, d ∈ ds → A.units + d.depth < cLine) : PySem.W.SortsAt prog w A s (PySem.W.dataKind s.heap ds) vs := by
  refine ⟨fun v hv => ?_, general', ?_, fun h2 => ?_⟩
  · obtain ⟨d, hd, as, r⟩ := e.left v hv
    exact ⟨_, PySem.W.dataKind_some hal hd r⟩
  · intro E x y a b Q ha hb hq
    obtain ⟨d, as, hd, ra, rfl⟩ := PySem.W.dataKind_inv ha
    obtain ⟨d', as', hd', rb, rfl⟩ := PySem.W.dataKind_inv hb
    show wpAny _ _ (oneLt' false x y) _ _ _
    exact PySem.W.oneLt_alike (fun z => by cases z) ra rb (hal d hd d' hd') (hn d hd) (Nat.lt_of_le_of_lt (Nat.add_le_add_left (Nat.min_le_left _ _) _) (hu d hd)) hq
  · exfalso
    cases e with
    | nil => simp at h2
    | cons _ e =>
      cases e with
      | nil => simp at h2
      | cons _ e => simp at hl
/-- sorted of what gives its items in a row -/
theorem sorted_any {β : Type} {v : Value} {us : List Value} {bs : List β} {R : Value → β → Prop} {enc : β → PyData} {Q : Value → Shared → Prop}
    (hc : ∀ {Q' : List Value → Shared → Prop} {E' : Value → Shared → Prop}, (∀ h' tk, (∀ b o, s.heap.get? b = some o → h'.get? b = some o) → Q' us { s with heap := h', toks := tk }) → wpAny (model prog w) A.in1 (collect v) Q' E' s)
    (hL : us.length ≤ sizeLine) (e : PySem.W.EachIs R us bs) (er : PySem.W.EachIs (fun v b => ∃ as, Reads s.heap v (enc b) as) us bs) (hal : PySem.W.AllAlike (bs.map enc)) (hk : PySem.W.Sortable (bs.map enc) ∨ ((bs.map enc).length ≤ 1 ∧ ∀ d, d ∈ bs.map enc → d ≠ .none)) (hu : ∀ b, b ∈ bs → A.units + 2 + (enc b).depth < cLine)
    (h : ∀ (h1 h' : Heap) (tk : Nat) (out : List Value) (n : Nat), PySem.W.EachIs R out (bs.mergeSort (PySem.W.dataLe false enc)) → (∀ b o, s.heap.get? b = some o → h1.get? b = some o) → (∀ b o, h1.get? b = some o → h'.get? b = some o) → h'.get? h1.objs.size = some { cls := .type "list", data := .seq out.toArray n } → Q (.ref h1.objs.size) { s with heap := h', toks := tk }) :
    wpAny (model prog w) A (call (.builtin "sorted") [v]) Q E s := by
  refine Calls.call_function_entry PyProof.Rows.kind_sorted PyProof.Rows.plain_sorted PyProof.Rows.entry_sorted (PyProof.Rows.args_sorted1 _) ?_
  unfold Builtin.«sorted»
  refine wpAny_bind (m := checkCount "sorted" 1 1 _) (wpAny_pure ?_)
  refine wpAny_bind (hc fun h1 tk k1 => ?_)
  refine wpAny_bind (wpAny_newList ?_ hL)
  have hoL : (h1.push (seqObj "list" us.toArray 0)).get? h1.objs.size = some (seqObj "list" us.toArray 0) := Heap.get?_push_size _ rfl
  have k2 : ∀ b o, s.heap.get? b = some o → (PySem.W.sortingHeap (h1.push (seqObj "list" us.toArray 0)) h1.objs.size us).get? b = some o := fun b o q => by
    exact PySem.W.sortingHeap_old (Nat.ne_of_lt (Heap.lt_size (k1 b o q))) (Heap.get?_push_of_some _ (k1 b o q))
  have er' : PySem.W.EachIs (fun v b => ∃ as, Reads (PySem.W.sortingHeap (h1.push (seqObj "list" us.toArray 0)) h1.objs.size us) v (enc b) as) us bs := er.mono fun _ _ ⟨as, r⟩ => ⟨as, PyProof.Rows.Reads.keeps (fun _ _ => k2 _ _) r⟩
  show wpAny _ _ _ _ _ { s with heap := h1.push (seqObj "list" us.toArray 0), toks := tk }
  refine wpAny_bind (wpAny_holding (wpAny_call_entry PyProof.Rows.slot_list_sort ⟨_, hoL, rfl⟩ PyProof.Rows.entry_list_sort
    (PySem.W.list_sort_vals (s := { s with heap := h1.push (seqObj "list" us.toArray 0), toks := tk }) (κ := PySem.W.dataKind (PySem.W.sortingHeap (h1.push (seqObj "list" us.toArray 0)) h1.objs.size us) (bs.map enc)) hoL
      (hk.elim (fun hk => PySem.W.SortsAt.data (s := { s with heap := PySem.W.sortingHeap (h1.push (seqObj "list" us.toArray 0)) h1.objs.size us, toks := tk }) (PySem.W.each_map (R := fun v d => ∃ as, Reads (PySem.W.sortingHeap (h1.push (seqObj "list" us.toArray 0)) h1.objs.size us) v d as) enc er') hal hk (PySem.W.bound_map hu))
        fun hk => sortsAt_one (s := { s with heap := PySem.W.sortingHeap (h1.push (seqObj "list" us.toArray 0)) h1.objs.size us, toks := tk }) (PySem.W.each_map (R := fun v d => ∃ as, Reads (PySem.W.sortingHeap (h1.push (seqObj "list" us.toArray 0)) h1.objs.size us) v d as) enc er') hal hk.1 hk.2 (PySem.W.bound_map hu)) hL ⟨_, rfl, wpAny_pure ⟨_, rfl, ?_⟩⟩)
    (PyProof.Rows.args_list_sort _)))
  have eo := PySem.W.sortVals_data (h' := PySem.W.sortingHeap (h1.push (seqObj "list" us.toArray 0)) h1.objs.size us) false e er' hal
  obtain ⟨n, hn⟩ := PyProof.Rows.sortedHeap_at (vs := us) (out := (PySem.W.sortVals (PySem.W.dataKind (PySem.W.sortingHeap (h1.push (seqObj "list" us.toArray 0)) h1.objs.size us) (bs.map enc)) false us us).toArray) hoL
  refine h h1 _ tk _ n eo k1 (fun b o q => ?_) hn
  have hb : b < h1.objs.size := Heap.lt_size q
  rw [PyProof.Rows.sortedHeap_old (Nat.ne_of_lt hb) (by rw [size_push']; exact Nat.lt_succ_of_lt hb)]
  exact Heap.get?_push_of_some _ q
end
end GS
-- GsEv6
namespace GS
open PySem PySem.Spec PyProof.Rows L2

section
variable {X : Cx} {G : Gl0} {E : XK}
theorem ixN_eq (n : Nat) (i : Int) : ixN n i = L2.ixN n i := rfl
theorem ix_ok : IxR X (rB X.K G E ixW) := by
  intro value slice pins s σ H x y v u Q I rx ry p hs
  obtain ⟨m, h, w, z, hr, qx, qy, p⟩ := p
  cases qy with
  | int i =>
    simp only [ixW] at p
    split at p
    · rename_i ns hns
      have hw : w = .ls ns := by cases w <;> simp [lsOf] at hns; rw [hns]
      subst hw
      cases qx with
      | @ls a _ st =>
      split at p
      · rename_i j hj
        cases hg : ns[j]? with
        | none => rw [hg] at p; exact p.elim
        | some n =>
          rw [hg] at p
          have e : atI (ns.map V.int) i = some (.int n) := by
            unfold atI
            rw [List.length_map, ← ixN_eq, hj]
            simp [hg]
          exact ix_list value slice pins s σ H _ _ v u Q I rx ry ⟨_, _, i, _, rfl, rfl, st.sq, e, ok_val hr (.int n) p⟩ hs
      · exact p.elim
    split at p
    · rename_i ws hw
      split at p
      · rename_i j hj
        obtain ⟨a, vs, rfl, hq, rs⟩ := qx.seq hr hw
        cases hg : ws[j]? with
        | none => rw [hg] at p; exact p.elim
        | some w1 =>
          rw [hg] at p
          obtain ⟨x1, hx1, q1⟩ := rs.get hg
          have e : atI vs i = some x1 := by
            unfold atI
            rw [← rs.length, ← ixN_eq, hj]
            exact hx1
          have fin := ok_val hr q1 p
          rcases hq with hq | hq
          · exact ix_list value slice pins s σ H _ _ v u Q I rx ry ⟨a, vs, i, x1, rfl, rfl, hq, e, fin⟩ hs
          · exact ix_tup value slice pins s σ H _ _ v u Q I rx ry ⟨a, vs, i, x1, rfl, rfl, hq, e, fin⟩ hs
      · exact p.elim
    · exact p.elim
  | _ => cases w <;> exact (show False from p).elim

theorem sIx_eq (n d : Nat) (o : Option Int) : sIx n d o = HT.sIx n d o := by
  cases o with
  | none => rfl
  | some v =>
    unfold sIx HT.sIx
    rfl
theorem cut_rel {K : PySem.W.Frag} {m : Mp} {H : Hp} {ws : List W} {vs : List V} (r : RWs K m H ws vs) (lo hi : Option Int) : RWs K m H (cutW ws lo hi) (cutV vs lo hi) := by
  unfold cutW cutV
  rw [sIx_eq, sIx_eq, r.length]
  exact (r.drop _).take _
def rSl (K : PySem.W.Frag) (G : Gl0) (E : XK) : V → Option Int → Option Int → Hp → VK → Prop := fun x lo hi H Q => ∃ m h w, HR K G m h H ∧ RW K m H w x ∧ (slW w lo hi h).post (OkP K G m H Q) (ExP K G E m H)
theorem sl_ok : SlR X (rSl X.K G E) := by
  intro pins s σ H x v vl vu lo hi sl Q I rx hs pl pu p
  obtain ⟨m, h, w, hr, qx, p⟩ := p
  cases qx with
  | @tup a vs ws st rs =>
    refine sl_tupA pins s σ H _ v vl vu lo hi sl Q I rx hs pl pu ⟨a, vs, rfl, st, fun hw => ?_, fun hn => ok_tup hr (cut_rel rs lo hi) p⟩
    have e : cutW ws lo hi = ws := by
      unfold cutW
      rw [sIx_eq, sIx_eq, rs.length, hw.1, hw.2, ← rs.length]
      simp
    have p : OkP X.K G m H Q (.tup (cutW ws lo hi)) h := p
    rw [e] at p
    exact ok_val hr (.tup st rs) p
  | obj e =>
    simp only [slW] at p
    split at p
    · rename_i ws hw
      obtain ⟨vs, e1, rs⟩ := hr.lst e hw
      exact sl_list pins s σ H _ v vl vu lo hi sl Q I rx hs pl pu ⟨_, vs, rfl, .of e1, ok_new hr (cut_rel rs lo hi) p⟩
    · exact p.elim
  | _ => exact (show False from p).elim

-- GsEv6
def kitI (w : W) : Ty → Bool := fun t => match w, t with
  | .bl _, .int => true
  | .bl _, .bool => true
  | .int _, .int => true
  | .str _, .str => true
  | .tup _, .tuple => true
  | .ftup _, .tuple => true
  | _, _ => false
theorem isa_ok {H : Hp} {m : Mp} {h : Hs} {w : W} {x : V} {t : Ty} {b : Bool} (hr : HR X.K G m h H) (q : RW X.K m H w x) (e : isaW h w t = some b) : ∃ T : String, TyX X.K H x (.type T) ∧ kitB T t.name = some b := by
  cases q with
  | non => cases t <;> (simp only [isaW] at e; cases e; exact ⟨"NoneType", .base .non, by decide +kernel⟩)
  | bl k => cases t <;> (simp only [isaW] at e; cases e; exact ⟨"bool", .base (.bl k), by decide +kernel⟩)
  | int i => cases t <;> (simp only [isaW] at e; cases e; exact ⟨"int", .base (.int i), by decide +kernel⟩)
  | str y => cases t <;> (simp only [isaW] at e; cases e; exact ⟨"str", .base (.str y), by decide +kernel⟩)
  | srep y k => cases t <;> (simp only [isaW] at e; cases e; exact ⟨"str", .base (.str _), by decide +kernel⟩)
  | tup st rs =>
    have ty : ∀ {a : Addr} {vs : List V}, SqT X.K H a vs → TyX X.K H (.ref a) (.type "tuple") := fun st => by
      rcases st with (z | ⟨o, z⟩) | ⟨o, its, n, z, c, _⟩
      · exact .base (.tup z)
      · exact .fTuple z
      · exact .kTuple z c
    cases t <;> (simp only [isaW] at e; cases e; exact ⟨"tuple", ty st, by decide +kernel⟩)
  | ftup st rs => cases t <;> (simp only [isaW] at e; cases e; exact ⟨"tuple", .fTuple (Classical.choose_spec st).1, by decide +kernel⟩)
  | any x => cases t <;> (simp only [isaW] at e; cases e)
  | sl s e' => cases t <;> (simp only [isaW] at e; cases e)
  | ls s => cases t <;> (simp only [isaW] at e; cases e)
  | ch _ _ _ => cases t <;> (simp only [isaW] at e; cases e)
  | aint _ => cases t <;> (simp only [isaW] at e; cases e)
  | rint _ _ => cases t <;> (simp only [isaW] at e; cases e)
  | obj z =>
    cases t <;> (
      simp only [isaW] at e
      split at e
      · rename_i ws hw
        obtain ⟨vs, e1, _⟩ := hr.lst z hw
        cases e
        exact ⟨"list", .base (.lst e1), by decide +kernel⟩
      · rename_i ws hw
        obtain ⟨vs, e1, _⟩ := hr.ob _ _ _ z hw
        cases e
        exact ⟨"dict", .base (.dT e1), by decide +kernel⟩
      · rename_i ws hw
        obtain ⟨vs, e1, _⟩ := hr.ob _ _ _ z hw
        cases e
        exact ⟨"dict", .base (.dK e1), by decide +kernel⟩
      · cases e)

-- GsEv6
def Bi.val : Bi → Value
  | .len => .builtin "len" | .abs => .builtin "abs" | .all => .builtin "all" | .any => .builtin "any" | .sum => .builtin "sum" | .sorted => .builtin "sorted"
  | .max => .builtin "max" | .min => .builtin "min" | .max2 => .builtin "max" | .min2 => .builtin "min"
  | .tuple => .type "tuple" | .list => .type "list" | .int => .type "int" | .listRange => .none | .tupRange => .none | .str => .type "str"
def Bi.plain : Bi → Bool
  | .listRange => false
  | .tupRange => false
  | _ => true
def rBi (K : PySem.W.Frag) (G : Gl0) (E : XK) (b : Bi) : List V → Hp → VK → Prop := fun xs H Q => ∃ m h ws, HR K G m h H ∧ RWs K m H ws xs ∧ (biW b ws h).post (OkP K G m H Q) (ExP K G E m H)
theorem bls_rel {K : PySem.W.Frag} {m : Mp} {H : Hp} : ∀ {ws : List W} {vs : List V} {bs : List Bool}, RWs K m H ws vs → blsOf ws = some bs → vs = bs.map V.bl
  | _, _, _, .nil, e => by simp [blsOf] at e; subst e; rfl
  | _, _, _, .cons q r, e => by
    cases q <;> first
      | (simp only [blsOf, Option.map_eq_some_iff] at e
         obtain ⟨cs, e1, rfl⟩ := e
         rw [List.map_cons, bls_rel r e1])
      | (simp [blsOf] at e)
theorem ints_rel {K : PySem.W.Frag} {m : Mp} {H : Hp} : ∀ {ws : List W} {vs : List V} {bs : List Int}, RWs K m H ws vs → intsOf ws = some bs → vs = bs.map V.int
  | _, _, _, .nil, e => by simp [intsOf] at e; subst e; rfl
  | _, _, _, .cons q r, e => by
    cases q <;> first
      | (simp only [intsOf, Option.map_eq_some_iff] at e
         obtain ⟨cs, e1, rfl⟩ := e
         rw [List.map_cons, ints_rel r e1])
      | (simp [intsOf] at e)
theorem maxI_spec : ∀ (ns : List Int) (m : Int), (maxI m ns ∈ m :: ns) ∧ ∀ y ∈ m :: ns, y ≤ maxI m ns
  | [], m => by simp [maxI]
  | x :: r, m => by
    have ih := maxI_spec r (if m < x then x else m)
    unfold maxI
    constructor
    · have h := ih.1
      rcases List.mem_cons.mp h with h | h
      · rw [h]; split <;> simp
      · exact List.mem_cons_of_mem _ (List.mem_cons_of_mem _ h)
    · intro y hy
      have h0 := ih.2 _ (List.mem_cons_self ..)
      have h1 : m ≤ (if m < x then x else m) := by split <;> omega
      have h2 : x ≤ (if m < x then x else m) := by split <;> omega
      rcases List.mem_cons.mp hy with rfl | hy
      · exact Int.le_trans h1 h0
      · rcases List.mem_cons.mp hy with rfl | hy
        · exact Int.le_trans h2 h0
        · exact ih.2 y (List.mem_cons_of_mem _ hy)
theorem minI_spec : ∀ (ns : List Int) (m : Int), (minI m ns ∈ m :: ns) ∧ ∀ y ∈ m :: ns, minI m ns ≤ y
  | [], m => by simp [minI]
  | x :: r, m => by
    have ih := minI_spec r (if x < m then x else m)
    unfold minI
    constructor
    · have h := ih.1
      rcases List.mem_cons.mp h with h | h
      · rw [h]; split <;> simp
      · exact List.mem_cons_of_mem _ (List.mem_cons_of_mem _ h)
    · intro y hy
      have h0 := ih.2 _ (List.mem_cons_self ..)
      have h1 : (if x < m then x else m) ≤ m := by split <;> omega
      have h2 : (if x < m then x else m) ≤ x := by split <;> omega
      rcases List.mem_cons.mp hy with rfl | hy
      · exact Int.le_trans h0 h1
      · rcases List.mem_cons.mp hy with rfl | hy
        · exact Int.le_trans h0 h2
        · exact ih.2 y (List.mem_cons_of_mem _ hy)
theorem len_ok {H : Hp} {m : Mp} {h : Hs} {w : W} {x : V} {n : Nat} (hr : HR X.K G m h H) (q : RW X.K m H w x) (e : lenW h w = some n) : LenV X.K x H n := by
  cases q with
  | str y =>
    simp only [lenW] at e
    split at e
    · rename_i hl
      cases e; exact ⟨hl, rfl⟩
    · cases e
  | srep c kk =>
    simp only [lenW] at e
    split at e
    · rename_i hl
      cases e
      have e1 : (repS c n).length = n := by simp [repS, Str.length]
      exact ⟨by rw [e1]; exact hl, e1.symm ▸ rfl⟩
    · cases e
  | tup st rs => simp only [lenW, Option.some.injEq] at e; subst e; exact .inr ⟨_, st, rs.length⟩
  | ftup st rs => simp only [lenW, Option.some.injEq] at e; subst e; exact .inr ⟨_, sqf st, rs.length⟩
  | @sl a n ns s e' => simp only [lenW, Option.some.injEq] at e; subst e; exact .inl ⟨_, s.sq, by rw [List.length_map, e']⟩
  | @ls a ns s => simp only [lenW, Option.some.injEq] at e; subst e; exact .inl ⟨_, s.sq, by rw [List.length_map]⟩
  | obj z =>
    simp only [lenW] at e
    split at e
    · rename_i ws hw
      obtain ⟨vs, e1, rs⟩ := hr.lst z hw
      cases e
      exact .inl ⟨vs, .of e1, rs.length⟩
    · cases e
  | _ => simp [lenW] at e
end

-- GsEv6
theorem pairUp_fst : ∀ (ds : List PyData) (ws : List W), ds.length = ws.length → (pairUp ds ws).map (·.1) = ds ∧ (pairUp ds ws).map (·.2) = ws
  | [], [], _ => ⟨rfl, rfl⟩
  | d :: ds, w :: ws, h => by
    have ih := pairUp_fst ds ws (by simpa using h)
    unfold pairUp
    rw [List.map_cons, List.map_cons, ih.1, ih.2]
    exact ⟨rfl, rfl⟩
  | [], _ :: _, h => by simp at h
  | _ :: _, [], h => by simp at h
theorem toDs_length {f : W → Option PyData} : ∀ {ws : List W} {ds : List PyData}, toDs f ws = some ds → ds.length = ws.length
  | [], _, e => by simp [toDs] at e; subst e; rfl
  | w :: ws, _, e => by
    simp only [toDs] at e
    split at e
    · split at e
      · rename_i ds hds
        simp at e; subst e
        simp [toDs_length hds]
      · cases e
    · cases e
/-- the three in a row -/
def trip : List PyData → List W → List V → List (PyData × (W × V))
  | d :: ds, w :: ws, v :: vs => (d, (w, v)) :: trip ds ws vs
  | _, _, _ => []
theorem trip_pair : ∀ (ds : List PyData) (ws : List W) (vs : List V), ds.length = ws.length → ws.length = vs.length → (trip ds ws vs).map (fun p => (p.1, p.2.1)) = pairUp ds ws
  | [], [], [], _, _ => rfl
  | d :: ds, w :: ws, v :: vs, h1, h2 => by
    unfold trip pairUp
    rw [List.map_cons, trip_pair ds ws vs (by simpa using h1) (by simpa using h2)]
  | [], _ :: _, _, h, _ => by simp at h
  | _ :: _, [], _, h, _ => by simp at h
  | _, [], _ :: _, _, h => by simp at h
  | _, _ :: _, [], _, h => by simp at h
theorem trip_fst : ∀ (ds : List PyData) (ws : List W) (vs : List V), ds.length = ws.length → ws.length = vs.length → (trip ds ws vs).map (·.1) = ds
  | [], [], [], _, _ => rfl
  | d :: ds, w :: ws, v :: vs, h1, h2 => by
    unfold trip
    rw [List.map_cons, trip_fst ds ws vs (by simpa using h1) (by simpa using h2)]
  | [], _ :: _, _, h, _ => by simp at h
  | _ :: _, [], _, h, _ => by simp at h
  | _, [], _ :: _, _, h => by simp at h
  | _, _ :: _, [], _, h => by simp at h
section
variable {X : Cx} {G : Gl0} {E : XK}
theorem trip_rel {K : PySem.W.Frag} {m : Mp} {H : Hp} : ∀ {ds : List PyData} {ws : List W} {vs : List V}, RWs K m H ws vs → ∀ t ∈ trip ds ws vs, RW K m H t.2.1 t.2.2
  | [], _, _, _, t, h => by simp [trip] at h
  | d :: ds, _, _, .nil, t, h => by simp [trip] at h
  | d :: ds, _, _, .cons q r, t, h => by
    unfold trip at h
    rcases List.mem_cons.mp h with rfl | h
    · exact q
    · exact trip_rel r t h
theorem trip_each {pins : List (Addr × Obj)} {s : Shared} {σ : L2.St} {H : Hp} (I : Inv X pins σ H s) : ∀ {ds : List PyData} {ws : List W} {vs : List V} {us : List Value}, ds.length = ws.length → ws.length = vs.length → Vals vs us → DpAll X.K H vs ds →
    PySem.W.EachIs (fun u (t : PyData × (W × V)) => RelV t.2.2 u) us (trip ds ws vs) ∧ PySem.W.EachIs (fun u (t : PyData × (W × V)) => ∃ as, Reads s.heap u t.1 as) us (trip ds ws vs)
  | [], [], [], _, _, _, .nil, _ => ⟨.nil, .nil⟩
  | d :: ds, w :: ws, v :: vs, _, h1, h2, .cons r rs, .cons q qs => by
    have ih := trip_each I (by simpa using h1) (by simpa using h2) rs qs
    unfold trip
    exact ⟨.cons r ih.1, .cons (Dp.reads I d v _ q r) ih.2⟩
theorem all2 {ds : List PyData} (h : alikeAll2 ds = true) : PySem.W.AllAlike ds := fun d hd e he => by
  unfold alikeAll2 at h
  rw [List.all_eq_true] at h
  have h2 := h d hd
  rw [List.all_eq_true] at h2
  exact h2 e he
theorem sortable_ok {ds : List PyData} (h : sortable ds = true) : PySem.W.Sortable ds ∨ (ds.length ≤ 1 ∧ ∀ d, d ∈ ds → d ≠ .none) := by
  unfold sortable at h
  rw [Bool.or_eq_true, Bool.or_eq_true, List.all_eq_true, List.all_eq_true, Bool.and_eq_true, List.all_eq_true] at h
  rcases h with (h | h) | h
  · refine .inl (.inr fun d hd => ?_)
    have := h d hd
    cases d <;> simp at this <;> simp
  · refine .inl (.inl fun d hd => ?_)
    have := h d hd
    cases d with
    | tuple xs =>
      cases xs with
      | nil => simp at this
      | cons x r => exact ⟨x, r, rfl⟩
    | _ => simp at this
  · refine .inr ⟨Nat.le_of_ble_eq_true h.1, fun d hd z => ?_⟩
    have := h.2 d hd
    rw [z] at this
    cases this
theorem each_out {ts : List (PyData × (W × V))} {K : PySem.W.Frag} {m : Mp} {H : Hp} : ∀ {us : List Value}, PySem.W.EachIs (fun u (t : PyData × (W × V)) => RelV t.2.2 u) us ts → (∀ t ∈ ts, RW K m H t.2.1 t.2.2) →
    Vals (ts.map (·.2.2)) us ∧ RWs K m H (ts.map (·.2.1)) (ts.map (·.2.2)) := by
  induction ts with
  | nil => intro us e _; cases e; exact ⟨.nil, .nil⟩
  | cons t ts ih =>
    intro us e h
    cases e with
    | cons r e =>
      obtain ⟨a, b⟩ := ih e fun t ht => h t (List.mem_cons_of_mem _ ht)
      exact ⟨.cons r a, .cons (h t (List.mem_cons_self ..)) b⟩
/-- what gives its items in a row is sorted -/
theorem sort_ok (hu : X.A.units + 65 < cLine) {pins : List (Addr × Obj)} {s : Shared} {σ : L2.St} {H : Hp} {m : Mp} {h : Hs} {ws out : List W} {vs : List V} {us : List Value} {u : Value} {Q : VK} (I : Inv X pins σ H s) (hr : HR X.K G m h H) (rs : RWs X.K m H ws vs) (rv : Vals vs us) (hL : us.length ≤ sizeLine)
    (hc : ∀ {Q' : List Value → Shared → Prop} {E' : Value → Shared → Prop}, (∀ h' tk, (∀ b o, s.heap.get? b = some o → h'.get? b = some o) → Q' us { s with heap := h', toks := tk }) → wpAny (model X.prog X.w) X.A.in1 (collect u) Q' E' s)
    (e : sortW h ws = some out) (p : OkP X.K G m H Q (.obj h.n) (h.push (.lst out))) : wpAny (model X.prog X.w) X.A (call (.builtin "sorted") [u]) (EP X pins σ Q) X.xe s := by
  unfold sortW at e
  split at e
  · rename_i ds hds
    split at e
    · rename_i hs
      cases e
      have l1 := toDs_length hds
      have l2 := rs.length
      have dp := toDs_dp (fun {w v d} => toD_dp hr dpth (w := w) (v := v) (d := d)) rs hds
      obtain ⟨e1, e2⟩ := trip_each I (ws := ws) l1 l2 rv dp
      have hds' := trip_fst ds ws vs l1 l2
      have hdep := toDs_depth (fun w d => toD_depth dpth) hds
      refine sorted_any (bs := trip ds ws vs) (enc := fun t => t.1) hc hL e1 e2 (by rw [hds']; exact all2 hs.2) (by rw [hds']; exact sortable_ok hs.1) (fun t ht => ?_) fun h1 h' tk ous n eo k1 k2 hp => ?_
      · have hm : t.1 ∈ ds := by rw [← hds']; exact List.mem_map.mpr ⟨t, ht, rfl⟩
        have : ∀ {l : List PyData} {d : PyData}, d ∈ l → d.depth ≤ PyData.depthAll l := fun {l} => by
          induction l with
          | nil => intro d h; simp at h
          | cons x l ih =>
            intro d h
            simp only [PyData.depthAll]
            rcases List.mem_cons.mp h with rfl | h
            · omega
            · have := ih h; omega
        have h2 := this hm
        unfold dpth at hdep
        omega
      · have I1 : Inv X pins σ H { s with heap := h1, toks := tk } := I.kept k1
        have es : (trip ds ws vs).mergeSort (PySem.W.dataLe false fun t => t.1) = insAll [] (trip ds ws vs) := (insAll_sort _).symm
        rw [es] at eo
        obtain ⟨q1, q2⟩ := each_out (K := X.K) (m := m) (H := H) eo fun t ht => by
          rcases mem_insAll ht with ht | ht
          · simp at ht
          · exact trip_rel rs t ht
        have eq : (insAll [] (trip ds ws vs)).map (·.2.1) = (insAll [] (pairUp ds ws)).map (·.2) := by
          have := insAll_map (fun p : W × V => p.1) (trip ds ws vs) []
          rw [trip_pair ds ws vs l1 l2, List.map_nil] at this
          rw [← this, List.map_map]
          rfl
        rw [eq] at q2
        have lz : ((insAll [] (trip ds ws vs)).map (·.2.2)).length ≤ sizeLine := by
          rw [← q2.length]
          have l3 : (insAll [] (pairUp ds ws)).length = (pairUp ds ws).length := by
            rw [insAll_sort, List.length_mergeSort]
          rw [List.length_map, l3]
          have l4 := congrArg List.length (pairUp_fst ds ws l1).2
          rw [List.length_map] at l4
          rw [l4, l2, rv.length]
          exact hL
        have hf : H h1.objs.size = none := I1.hok.fresh (Nat.le_refl _)
        exact ⟨.ref h1.objs.size, upd H h1.objs.size (.lst ((insAll [] (trip ds ws vs)).map (·.2.2))), I1.laid (t' := tk) k2 (Nat.le_refl _) ⟨lz, ous, n, q1, hp⟩, rfl, ok_new hr q2 p _ hf⟩
    · cases e
  · cases e

theorem Vals.ref1' {a : Addr} {us : List Value} (r : Vals [V.ref a] us) : us = [.ref a] := by
  obtain ⟨u, rfl, q⟩ := vals1 r
  cases q; rfl
theorem bi_ok (hc : X.calm = true) (hu : X.A.units + 65 < cLine) (b : Bi) (hb : b.plain = true) : CallR X b.val (rBi X.K G E b) := by
  intro pins s σ H xs us Q I r p
  obtain ⟨m, h, ws, hr, rs, p⟩ := p
  -- a list's items
  have lst : ∀ {a : Nat} {x : V} {f : List W → R W}, RW X.K m H (.obj a) x → (match h.get a with | some (.lst ws) => f ws | _ => R.no).post (OkP X.K G m H Q) (ExP X.K G E m H) →
      ∃ ad vs ys, x = .ref ad ∧ H ad = some (.lst vs) ∧ RWs X.K m H ys vs ∧ (f ys).post (OkP X.K G m H Q) (ExP X.K G E m H) := fun {a x f} q p => by
    cases q with
    | obj e =>
      cases hg : h.get a with
      | none => rw [hg] at p; exact p.elim
      | some o =>
        rw [hg] at p
        cases o with
        | lst ys =>
          obtain ⟨vs, e1, r1⟩ := hr.lst e hg
          exact ⟨_, vs, ys, rfl, e1, r1, p⟩
        | _ => exact p.elim
  cases b with
  | len =>
    cases rs with
    | nil => exact (show False from p).elim
    | cons q rs =>
      cases rs with
      | cons _ _ => exact (show False from p).elim
      | nil =>
        simp only [biW] at p
        split at p
        · rename_i n hn
          exact call_len pins s σ H _ us Q I r ⟨_, n, rfl, len_ok hr q hn, ok_val hr (.int _) p⟩
        · exact p.elim
  | abs =>
    cases rs with
    | nil => exact (show False from p).elim
    | cons q rs =>
      cases rs with
      | cons _ _ => cases q <;> exact (show False from p).elim
      | nil =>
        cases q <;> first
          | exact (show False from p).elim
          | exact call_abs pins s σ H _ us Q I r ⟨_, rfl, ok_val hr (.int _) p⟩
  | all =>
    cases rs with
    | nil => exact (show False from p).elim
    | cons q rs =>
      cases rs with
      | cons _ _ => cases q <;> exact (show False from p).elim
      | nil =>
        cases hw : q <;> try exact (show False from p).elim
        obtain ⟨ad, vs, ys, ex, e1, r1, p⟩ := lst (f := fun ws => match blsOf ws with | some bs => .ok (.bl (bs.all id)) h | none => .no) q p
        cases ex
        split at p
        · rename_i bs hbs
          have := bls_rel r1 hbs
          subst this
          exact cr_all hc pins s σ H _ us Q I r ⟨_, bs, rfl, .of e1, ok_val hr (.bl _) p⟩
        · exact p.elim
  | any =>
    cases rs with
    | nil => exact (show False from p).elim
    | cons q rs =>
      cases rs with
      | cons _ _ => cases q <;> exact (show False from p).elim
      | nil =>
        cases hw : q <;> try exact (show False from p).elim
        obtain ⟨ad, vs, ys, ex, e1, r1, p⟩ := lst (f := fun ws => match blsOf ws with | some bs => .ok (.bl (bs.any id)) h | none => .no) q p
        cases ex
        split at p
        · rename_i bs hbs
          have := bls_rel r1 hbs
          subst this
          exact cr_any hc pins s σ H _ us Q I r ⟨_, bs, rfl, .of e1, ok_val hr (.bl _) p⟩
        · exact p.elim
  | sum =>
    cases rs with
    | nil => exact (show False from p).elim
    | cons q rs =>
      cases rs with
      | cons _ _ => cases q <;> exact (show False from p).elim
      | nil =>
        cases hw : q <;> try exact (show False from p).elim
        obtain ⟨ad, vs, ys, ex, e1, r1, p⟩ := lst (f := fun ws => match intsOf ws with | some bs => .ok (.int bs.sum) h | none => .no) q p
        cases ex
        split at p
        · rename_i bs hbs
          have := ints_rel r1 hbs
          subst this
          exact cr_sum hc pins s σ H _ us Q I r ⟨_, bs, rfl, .of e1, ok_val hr (.int _) p⟩
        · exact p.elim
  | max =>
    cases rs with
    | nil => exact (show False from p).elim
    | cons q rs =>
      cases rs with
      | cons _ _ => cases q <;> exact (show False from p).elim
      | nil =>
        cases hw : q <;> try exact (show False from p).elim
        obtain ⟨ad, vs, ys, ex, e1, r1, p⟩ := lst (f := fun ws => match intsOf ws with | some (m :: ns) => .ok (.int (maxI m ns)) h | _ => .no) q p
        cases ex
        split at p
        · rename_i m0 bs hbs
          have := ints_rel r1 hbs
          subst this
          refine cr_max hc pins s σ H _ us Q I r ⟨_, m0 :: bs, rfl, .of e1, by simp, fun k hk hall => ?_⟩
          have z := maxI_spec bs m0
          have e2 : k = maxI m0 bs := Int.le_antisymm (z.2 k hk) (hall _ z.1)
          rw [e2]
          exact ok_val hr (.int _) p
        · exact p.elim
  | min =>
    cases rs with
    | nil => exact (show False from p).elim
    | cons q rs =>
      cases rs with
      | cons _ _ => cases q <;> exact (show False from p).elim
      | nil =>
        cases hw : q <;> try exact (show False from p).elim
        obtain ⟨ad, vs, ys, ex, e1, r1, p⟩ := lst (f := fun ws => match intsOf ws with | some (m :: ns) => .ok (.int (minI m ns)) h | _ => .no) q p
        cases ex
        split at p
        · rename_i m0 bs hbs
          have := ints_rel r1 hbs
          subst this
          refine cr_min hc pins s σ H _ us Q I r ⟨_, m0 :: bs, rfl, .of e1, by simp, fun k hk hall => ?_⟩
          have z := minI_spec bs m0
          have e2 : k = minI m0 bs := Int.le_antisymm (hall _ z.1) (z.2 k hk)
          rw [e2]
          exact ok_val hr (.int _) p
        · exact p.elim
  | max2 =>
    cases rs with
    | nil => exact (show False from p).elim
    | cons q rs =>
      cases rs with
      | nil => cases q <;> exact (show False from p).elim
      | cons q2 rs =>
        cases rs with
        | cons _ _ => cases q <;> cases q2 <;> exact (show False from p).elim
        | nil =>
          cases q <;> cases q2 <;> first
            | exact (show False from p).elim
            | exact call_max2 hc pins s σ H _ us Q I r ⟨_, _, rfl, ok_val hr (.int _) p⟩
  | min2 =>
    cases rs with
    | nil => exact (show False from p).elim
    | cons q rs =>
      cases rs with
      | nil => cases q <;> exact (show False from p).elim
      | cons q2 rs =>
        cases rs with
        | cons _ _ => cases q <;> cases q2 <;> exact (show False from p).elim
        | nil =>
          cases q <;> cases q2 <;> first
            | exact (show False from p).elim
            | exact call_min2 hc pins s σ H _ us Q I r ⟨_, _, rfl, ok_val hr (.int _) p⟩
  | str =>
    cases rs with
    | nil => exact (show False from p).elim
    | cons q rs =>
      cases rs with
      | cons _ _ => cases q <;> exact (show False from p).elim
      | nil =>
        cases q <;> first
          | exact (show False from p).elim
          | (obtain ⟨hz, p⟩ := post_if p
             exact call_str_int pins s σ H _ us Q I r ⟨_, rfl, hz, ok_val hr (.str _) p⟩)
          | exact SkE.call_str_str pins s σ H _ us Q I r ⟨_, rfl, ok_val hr (.str _) p⟩
  | int =>
    cases rs with
    | nil => exact (show False from p).elim
    | cons q rs =>
      cases rs with
      | cons _ _ => cases q <;> exact (show False from p).elim
      | nil =>
        cases q <;> first
          | exact (show False from p).elim
          | exact call_int1 pins s σ H _ us Q I r (.inl ⟨_, rfl, ok_val hr (.int _) p⟩)
          | exact call_int1 pins s σ H _ us Q I r (.inr ⟨_, rfl, ok_val hr (.int _) p⟩)
  | tuple =>
    cases rs with
    | nil => exact (show False from p).elim
    | cons q rs =>
      cases rs with
      | cons _ _ => exact (show False from p).elim
      | nil =>
        simp only [biW] at p
        split at p
        · rename_i ys hy
          obtain ⟨a, vs, rfl, hq, r1⟩ := q.seq hr hy
          rcases hq with hq | hq
          · exact call_tuple_of pins s σ H _ us Q I r ⟨a, vs, rfl, .inl ⟨hq, ok_tup hr r1 p⟩⟩
          · exact call_tuple_of pins s σ H _ us Q I r ⟨a, vs, rfl, .inr ⟨hq, ok_val hr (.tup hq r1) p⟩⟩
        · exact p.elim
  | list =>
    cases rs with
    | nil => exact (show False from p).elim
    | cons q rs =>
      cases rs with
      | cons _ _ => exact (show False from p).elim
      | nil =>
        simp only [biW, okL] at p
        split at p
        · rename_i ys hy
          obtain ⟨a, vs, rfl, hq, r1⟩ := q.seq hr hy
          exact call_list_of pins s σ H _ us Q I r ⟨a, vs, rfl, hq, ok_new hr r1 p⟩
        · exact p.elim
  | sorted =>
    cases rs with
    | nil => exact (show False from p).elim
    | cons q rs =>
      cases rs with
      | cons _ _ => exact (show False from p).elim
      | nil =>
        simp only [biW, okL] at p
        split at p
        · rename_i ys hy
          split at p
          · rename_i out hout
            obtain ⟨a, vs, rfl, hq, r1⟩ := q.seq hr hy
            rw [Vals.ref1' r]
            rcases hq with hq | hq
            · obtain ⟨its, rv, pl, hz⟩ := I.list hq
              obtain ⟨o, n, e1, e2, _, e3⟩ := pl
              have hz' : its.length ≤ sizeLine := by rw [← rv.length]; exact hz
              exact sort_ok hu I hr r1 rv hz' (fun hQ => wpAny_collect_seq a (.inl rfl) e1 e2 e3 (fun h' k => hQ h' s.toks k) (by rw [List.size_toArray]; exact hz')) hout p
            · obtain ⟨its, rv, pl, hz⟩ := I.tuple hq
              obtain ⟨o, e1, e2, n, e3⟩ := pl
              have hz' : its.length ≤ sizeLine := by rw [← rv.length]; exact hz
              exact sort_ok hu I hr r1 rv hz' (fun hQ => wpAny_collect_seq a (.inr rfl) e1 e2 e3 (fun h' k => hQ h' s.toks k) (by rw [List.size_toArray]; exact hz')) hout p
          · exact p.elim
        · exact p.elim
  | listRange => cases hb
  | tupRange => cases hb
end
end GS
-- GsAbs
namespace GS
open PySem PySem.Spec PyProof.Rows L2
section
variable {K : PySem.W.Frag} {G : Gl0} {E : XK} {m : Mp} {h : Hs} {H : Hp} {Q : VK}
theorem int_of {w : W} {x : V} (q : RW K m H w x) (hi : isI w = true) : ∃ i, x = .int i := by
  cases q <;> first
    | exact ⟨_, rfl⟩
    | cases hi
theorem absB_ok {a b : W} (h : absB a b = true) : isI a = true ∧ isI b = true := by
  unfold absB at h
  split at h
  · rename_i e
    exact ⟨by cases a <;> first | rfl | (cases e), h⟩
  · rw [Bool.and_eq_true] at h
    exact ⟨h.2, by cases b <;> first | rfl | (cases h.1)⟩
theorem small_of {w : W} {i : Int} (q : RW K m H w (.int i)) (hs : smallA w = true) : -(2 ^ 64) < i ∧ i < 2 ^ 64 := by
  cases q with
  | int i => exact small_iff hs
  | @rint n i h0 h1 =>
    have h2 : n < 18446744073709551616 := by
      have := Nat.blt_eq ▸ hs
      simpa [smallA, Nat.blt_eq] using hs
    constructor
    · have : (0 : Int) ≤ 2 ^ 64 := by decide
      omega
    · omega
  | _ => cases hs
theorem joinAll_ok {f : Nat → Option (W × Hs)} {r : W × Hs} : ∀ {n : Nat}, joinAll f n = some r → ∀ i, i < n → ∃ u, f i = some u ∧ whSame r u = true ∨ f i = some r
  | 0, e, _, _ => by cases e
  | 1, e, i, hi => by
    have : i = 0 := by omega
    subst this
    exact ⟨r, .inr e⟩
  | n + 2, e, i, hi => by
    simp only [joinAll] at e
    split at e
    · rename_i a b ha hb
      split at e
      · rename_i hs
        cases e
        by_cases hn : i = n + 1
        · subst hn
          exact ⟨b, .inl ⟨hb, hs⟩⟩
        · exact joinAll_ok ha i (by omega)
      · cases e
    · cases e
theorem whSame_eq {a b : W × Hs} (e : whSame a b = true) : a = b := by
  obtain ⟨w, h⟩ := a
  obtain ⟨u, k⟩ := b
  rw [whSame, Bool.and_eq_true] at e
  have e1 := W.same_eq e.1
  have e2 := e.2
  rw [Hs.same, Bool.and_eq_true] at e2
  have e3 := Nat.eq_of_beq_eq_true e2.1
  have e4 := osSame_eq e2.2
  obtain ⟨n, c⟩ := h
  obtain ⟨n', c'⟩ := k
  simp only at e3 e4
  rw [e1, e3, e4]
theorem joinR_post {Qo : W → Hs → Prop} {Qe : Nat → W → Hs → Prop} {w : W} {k : Hs} (p : Qo w k) : ∀ {r : R W}, joinR r = some (w, k) → r.post Qo Qe
  | .ok u h', e => by cases e; exact p
  | .ex _ _ _, e => by cases e
  | .no, e => by cases e
  | .dr n f, e => fun i hi => by
    obtain ⟨u, q⟩ := joinAll_ok (show joinAll (fun i => joinR (f i)) n = some (w, k) from e) i hi
    have : joinR (f i) = some (w, k) := by
      rcases q with ⟨q, s⟩ | q
      · rw [q, whSame_eq s]
      · exact q
    exact joinR_post p this
end
section
variable {X : Cx} {G : Gl0} {E : XK}
theorem binX_ok (o : BOp) : OpR X (binaryOp o.op) (rB X.K G E (binX o)) := by
  intro pins s σ H x y v u Q I rx ry p
  obtain ⟨m, h, w, z, hr, qx, qy, p⟩ := p
  unfold binX at p
  split at p
  · rename_i hab
    obtain ⟨h1, h2⟩ := absB_ok hab
    obtain ⟨i, rfl⟩ := int_of qx h1
    obtain ⟨j, rfl⟩ := int_of qy h2
    cases o with
    | add => exact op_add pins s σ H _ _ v u Q I rx ry ⟨_, _, rfl, rfl, ok_val hr (.aint _) p⟩
    | sub => exact op_sub pins s σ H _ _ v u Q I rx ry ⟨_, _, rfl, rfl, ok_val hr (.aint _) p⟩
    | mul =>
      obtain ⟨hz, p⟩ := post_if p
      rw [Bool.or_eq_true] at hz
      exact op_mul pins s σ H _ _ v u Q I rx ry ⟨_, _, rfl, rfl, hz.imp (small_of qx) (small_of qy), ok_val hr (.aint _) p⟩
    | fdiv =>
      cases qy with
      | int j =>
        obtain ⟨hz, p⟩ := post_if p
        exact op_fdivW pins s σ H _ _ v u Q I rx ry ⟨_, _, rfl, rfl, hz, ok_val hr (.aint _) p⟩
      | _ => exact (show False from p).elim
    | mod =>
      cases qy with
      | int j =>
        obtain ⟨hz, p⟩ := post_if p
        refine op_mod pins s σ H _ _ v u Q I rx ry ⟨_, _, rfl, rfl, hz, ok_val hr (.rint ?_ ?_) p⟩
        · exact Int.emod_nonneg _ (by omega)
        · have := Int.emod_lt_of_pos i hz
          rw [Int.toNat_of_nonneg (by omega)]
          exact this
      | _ => exact (show False from p).elim
    | pow => exact (show False from p).elim
  · exact bin_ok o pins s σ H x y v u Q I rx ry ⟨m, h, w, z, hr, qx, qy, p⟩
theorem _root_.GS.RW.unrep {K : PySem.W.Frag} {m : Mp} {H : Hp} {w : W} {x : V} (q : RW K m H w x) : RW K m H (unrep w) x := by
  cases q with
  | srep c n => exact .str _
  | non => exact .non
  | bl b => exact .bl b
  | int i => exact .int i
  | str x => exact .str x
  | tup s r => exact .tup s r
  | obj e => exact .obj e
  | any x => exact .any x
  | aint i => exact .aint i
  | rint a b => exact .rint a b
  | sl s e => exact .sl s e
  | ls s => exact .ls s
  | ch e d r => exact .ch e d r
  | ftup s r => exact .ftup s r
theorem repS_ok {c n : Nat} (h : Nat.blt c 256 = true) : PySem.PyData.strOk (repS c n) = true := by
  unfold PySem.PyData.strOk repS
  simp only [List.all_toArray, List.all_eq_true, List.mem_replicate, decide_eq_true_eq]
  rintro x ⟨_, rfl⟩
  have := Nat.blt_eq.mp h
  omega
theorem far_ne {c n : Nat} {y : Str} (h : Nat.beq y.length n = false) : (repS c n == y) = false := by
  rw [beq_eq_false_iff_ne]
  intro e
  have e1 : (repS c n).length = n := by simp [repS, Str.length]
  rw [← e, e1] at h
  simp at h
theorem far_d {h : Hs} {c n k : Nat} {b : W} (hc : Nat.blt c 256 = true) (hb : farS n b = true) : ∃ y, b = .str y ∧ toD h (k + 1) b = some (.str y) ∧ PySem.PyData.strOk y = true ∧ (repS c n == y) = false := by
  unfold farS at hb
  split at hb
  · rename_i y
    rw [Bool.and_eq_true, Bool.not_eq_true'] at hb
    exact ⟨y, rfl, rfl, hb.2, far_ne hb.1⟩
  · cases hb
theorem eqW_far {h : Hs} {c n : Nat} {b : W} (hc : Nat.blt c 256 = true) (hb : farS n b = true) : eqW h (.str (repS c n)) b = some false := by
  obtain ⟨y, rfl, e1, e2, e3⟩ := far_d (h := h) (k := 15) hc hb
  unfold eqW
  have e0 : toD h dpth (.str (repS c n)) = some (.str (repS c n)) := rfl
  have e1 : toD h dpth (.str y) = some (.str y) := rfl
  rw [e0, e1]
  have s1 : SeqAt.shaped (.str (repS c n)) = true := by unfold SeqAt.shaped; simp [PyData.canLay0, repS_ok hc, PyData.depth]
  have s2 : SeqAt.shaped (.str y) = true := by unfold SeqAt.shaped; simp [PyData.canLay0, e2, PyData.depth]
  simp only [s1, s2, and_self, if_true]
  rw [PyData.eqv, e3]
theorem far_all {h : Hs} {c n k : Nat} (hc : Nat.blt c 256 = true) : ∀ {ws : List W}, ws.all (farS n) = true → ∃ ds, toDs (toD h (k + 1)) ws = some ds ∧ PyData.canLayAll0 ds = true ∧ PyData.depthAll ds ≤ 1 ∧ anyEq (.str (repS c n)) ds = false
  | [], _ => ⟨[], rfl, by rw [PyData.canLayAll0], by rw [PyData.depthAll]; omega, rfl⟩
  | w :: ws, hw => by
    rw [List.all_cons, Bool.and_eq_true] at hw
    obtain ⟨y, rfl, e1, e2, e3⟩ := far_d (h := h) (k := k) hc hw.1
    obtain ⟨ds, f1, f2, f3, f4⟩ := far_all (h := h) (k := k) hc hw.2
    refine ⟨.str y :: ds, by unfold toDs; rw [e1, f1], by rw [PyData.canLayAll0, f2]; simp [PyData.canLay0, e2], by rw [PyData.depthAll]; simp only [PyData.depth]; omega, ?_⟩
    unfold anyEq
    rw [f4, PyData.eqv, Bool.or_false]
    rw [beq_eq_false_iff_ne] at e3 ⊢
    exact fun z => e3 z.symm
theorem inW_far {h : Hs} {c n : Nat} {ws : List W} (hc : Nat.blt c 256 = true) (hw : ws.all (farS n) = true) : inW h (.str (repS c n)) (.tup ws) = some false := by
  obtain ⟨ds, f1, f2, f3, f4⟩ := far_all (h := h) (k := 14) hc hw
  unfold inW
  have e0 : toD h dpth (.str (repS c n)) = some (.str (repS c n)) := rfl
  have e1 : toD h dpth (.tup ws) = some (.tuple ds) := by
    show (toDs (toD h 15) ws).map PyData.tuple = _
    rw [f1]; rfl
  rw [e0, e1]
  have s1 : SeqAt.shaped (.str (repS c n)) = true := by unfold SeqAt.shaped; simp [PyData.canLay0, repS_ok hc, PyData.depth]
  have s2 : SeqAt.shaped (.tuple ds) = true := by unfold SeqAt.shaped; simp [PyData.canLay0, f2, PyData.depth]; omega
  simp only [s1, s2, and_self, if_true]
  rw [f4]
theorem rep1 {c n : Nat} {b : W} {h : Hs} {r : R W} (e : (if (Nat.blt c 256 && farS n b) = true then some (R.ok (.bl false) h) else none) = some r) : cmpW .eq (.str (repS c n)) b h = r := by
  split at e
  · rename_i hc
    rw [Bool.and_eq_true] at hc
    cases e
    have z : cmpW .eq (.str (repS c n)) b h = okB (eqW h (.str (repS c n)) b) h := by unfold cmpW; rfl
    rw [z, eqW_far hc.1 hc.2]
    rfl
  · cases e
theorem rep2 {c n : Nat} {b : W} {h : Hs} {r : R W} (e : (if (Nat.blt c 256 && farS n b) = true then some (R.ok (.bl true) h) else none) = some r) : cmpW .ne (.str (repS c n)) b h = r := by
  split at e
  · rename_i hc
    rw [Bool.and_eq_true] at hc
    cases e
    have z : cmpW .ne (.str (repS c n)) b h = okB ((eqW h (.str (repS c n)) b).map not) h := by unfold cmpW; rfl
    rw [z, eqW_far hc.1 hc.2]
    rfl
  · cases e
theorem rep3 {c n : Nat} {ws : List W} {h : Hs} {r : R W} (e : (if (Nat.blt c 256 && ws.all (farS n)) = true then some (R.ok (.bl false) h) else none) = some r) : cmpW .isIn (.str (repS c n)) (.tup ws) h = r := by
  split at e
  · rename_i hc
    rw [Bool.and_eq_true] at hc
    cases e
    have z : cmpW .isIn (.str (repS c n)) (.tup ws) h = okB (inW h (.str (repS c n)) (.tup ws)) h := by unfold cmpW; rfl
    rw [z, inW_far hc.1 hc.2]
    rfl
  · cases e
theorem repC_eq {o : COp} {a b : W} {h : Hs} {r : R W} (e : repC o a b h = some r) : cmpW o (unrep a) b h = r := by
  unfold repC at e
  split at e
  · exact rep1 e
  · exact rep2 e
  · split at e
    · exact rep3 e
    · cases e
  · cases e
theorem cmpX_ok (hu : X.A.units + 65 < cLine) (o : COp) : OpR X (compareOp o.op) (rB X.K G E (cmpX o)) := by
  intro pins s σ H x y v u Q I rx ry p
  obtain ⟨m, h, w, z, hr, qx, qy, p⟩ := p
  unfold cmpX at p
  split at p
  · rename_i hab
    obtain ⟨h1, h2⟩ := absB_ok hab
    obtain ⟨i, rfl⟩ := int_of qx h1
    obtain ⟨j, rfl⟩ := int_of qy h2
    have any : (R.dr 2 fun i => R.ok (W.bl (Nat.beq i 0)) h).post (OkP X.K G m H Q) (ExP X.K G E m H) → ∀ b : Bool, Q (.bl b) H := fun p b => by
      cases b with
      | true => exact ok_val (K := X.K) (m := m) hr (.bl _) (show OkP X.K G m H Q (.bl true) h from p 0 (by decide))
      | false => exact ok_val (K := X.K) (m := m) hr (.bl _) (show OkP X.K G m H Q (.bl false) h from p 1 (by decide))
    cases o <;> first
      | exact (show False from p).elim
      | exact op_lt pins s σ H _ _ v u Q I rx ry ⟨_, _, rfl, rfl, any p _⟩
      | exact op_le pins s σ H _ _ v u Q I rx ry ⟨_, _, rfl, rfl, any p _⟩
      | exact op_gt pins s σ H _ _ v u Q I rx ry ⟨_, _, rfl, rfl, any p _⟩
      | exact op_ge pins s σ H _ _ v u Q I rx ry ⟨_, _, rfl, rfl, any p _⟩
  · split at p
    · rename_i r er
      exact cmp_ok hu o pins s σ H x y v u Q I rx ry ⟨m, h, unrep w, z, hr, qx.unrep, qy, by rw [repC_eq er]; exact p⟩
    · exact cmp_ok hu o pins s σ H x y v u Q I rx ry ⟨m, h, w, z, hr, qx, qy, p⟩
theorem ixX_ok : IxR X (rB X.K G E ixX) := by
  intro value slice pins s σ H x y v u Q I rx ry p hs
  obtain ⟨m, h, w, z, hr, qx, qy, p⟩ := p
  unfold ixX at p
  split at p
  · rename_i r er
    unfold ixA at er
    cases qy with
    | @rint n i h0 h1 =>
      cases er
      split at p
      · rename_i ws hw
        obtain ⟨⟨hn, hl⟩, p⟩ := post_if p
        obtain ⟨a, vs, rfl, hq, rs⟩ := qx.seq hr hw
        have hlt : i.toNat < ws.length := by omega
        obtain ⟨x1, hx1, q1⟩ := rs.get (List.getElem?_eq_getElem hlt)
        have e : atI vs i = some x1 := by
          unfold atI
          rw [← rs.length, ← ixN_eq]
          unfold ixN
          rw [if_pos h0, if_pos (by omega)]
          exact hx1
        have fin := ok_val hr (.ch (List.getElem_mem hlt) rs.doms q1) p
        rcases hq with hq | hq
        · exact ix_list value slice pins s σ H _ _ v u Q I rx ry ⟨a, vs, i, x1, rfl, rfl, hq, e, fin⟩ hs
        · exact ix_tup value slice pins s σ H _ _ v u Q I rx ry ⟨a, vs, i, x1, rfl, rfl, hq, e, fin⟩ hs
      · exact p.elim
    | int i =>
      cases qx with
      | @sl a n ns st hn =>
        cases er
        split at p
        · rename_i j hj
          have hjl : j < ns.length := by
            unfold ixN at hj
            rw [hn]
            split at hj
            · split at hj
              · cases hj; omega
              · cases hj
            · split at hj
              · cases hj; omega
              · cases hj
          have e : atI (ns.map V.int) i = some (.int ns[j]) := by
            unfold atI
            rw [List.length_map, hn, ← ixN_eq, hj]
            simp [hjl]
          exact ix_list value slice pins s σ H _ _ v u Q I rx ry ⟨_, _, i, _, rfl, rfl, st.sq, e, ok_val hr (.aint _) p⟩ hs
        · exact p.elim
      | _ => cases er
    | _ => cases er
  · exact ix_ok value slice pins s σ H x y v u Q I rx ry ⟨m, h, w, z, hr, qx, qy, p⟩ hs
def rBiX (K : PySem.W.Frag) (G : Gl0) (E : XK) (b : Bi) : List V → Hp → VK → Prop := fun xs H Q => ∃ m h ws, HR K G m h H ∧ RWs K m H ws xs ∧ (biX b ws h).post (OkP K G m H Q) (ExP K G E m H)
theorem isAb_I {w : W} (h : isAb w = true) : isI w = true := by cases w <;> first | rfl | cases h
theorem biX_ok (hc : X.calm = true) (hu : X.A.units + 65 < cLine) (b : Bi) (hb : b.plain = true) : CallR X b.val (rBiX X.K G E b) := by
  intro pins s σ H xs us Q I r p
  obtain ⟨m, h, ws, hr, rs, p⟩ := p
  unfold biX at p
  split at p
  · rename_i w hw
    cases rs with
    | nil => cases b <;> cases hw
    | @cons a x ws vs q rs =>
      cases rs with
      | nil =>
        cases b <;> try (cases hw; done)
        · simp only [biA] at hw
          split at hw
          · rename_i ha
            cases hw
            obtain ⟨i, rfl⟩ := int_of q (isAb_I ha)
            exact call_abs pins s σ H _ us Q I r ⟨_, rfl, ok_val hr (.aint _) p⟩
          · cases hw
        · simp only [biA] at hw
          split at hw
          · rename_i ha
            cases hw
            obtain ⟨i, rfl⟩ := int_of q (isAb_I ha)
            exact call_int1 pins s σ H _ us Q I r (.inl ⟨_, rfl, ok_val hr q p⟩)
          · cases hw
      | @cons a2 x2 ws vs q2 rs =>
        cases rs with
        | cons _ _ => cases b <;> cases hw
        | nil =>
          cases b <;> try (cases hw; done)
          · simp only [biA] at hw
            split at hw
            · rename_i ha
              cases hw
              obtain ⟨h1, h2⟩ := absB_ok ha
              obtain ⟨i, rfl⟩ := int_of q h1
              obtain ⟨j, rfl⟩ := int_of q2 h2
              exact call_max2 hc pins s σ H _ us Q I r ⟨_, _, rfl, ok_val hr (.aint _) p⟩
            · cases hw
          · simp only [biA] at hw
            split at hw
            · rename_i ha
              cases hw
              obtain ⟨h1, h2⟩ := absB_ok ha
              obtain ⟨i, rfl⟩ := int_of q h1
              obtain ⟨j, rfl⟩ := int_of q2 h2
              exact call_min2 hc pins s σ H _ us Q I r ⟨_, _, rfl, ok_val hr (.aint _) p⟩
            · cases hw
  · exact bi_ok hc hu b hb pins s σ H xs us Q I r ⟨m, h, ws, hr, rs, p⟩
end
end GS
-- GsEv7
namespace GS
open PySem PySem.Spec PyProof.Rows L2
def Me.id : Me → String
  | .append => "list.append" | .extend => "list.extend" | .pop => "list.pop"
def rMe (K : PySem.W.Frag) (G : Gl0) (E : XK) (b : Me) : V → List V → Hp → VK → Prop := fun x xs H Q => ∃ m h w ws, HR K G m h H ∧ RW K m H w x ∧ RWs K m H ws xs ∧ (meW b w ws h).post (OkP K G m H Q) (ExP K G E m H)
section
variable {X : Cx} {G : Gl0} {E : XK}
theorem me_ok (b : Me) : MtR X b.id (rMe X.K G E b) := by
  intro pins s σ H x xs v us Q I rx rs p
  obtain ⟨m, h, w, ws, hr, qx, qs, p⟩ := p
  cases b with
  | append =>
    cases qx <;> try exact (show False from p).elim
    rename_i n a e
    cases qs with
    | nil => exact (show False from p).elim
    | cons q qs =>
      cases qs with
      | cons _ _ => exact (show False from p).elim
      | nil =>
        simp only [meW] at p
        split at p
        · rename_i ys hy
          obtain ⟨hz, p⟩ := post_if p
          obtain ⟨vs, e1, r1⟩ := hr.lst e hy
          exact mt_append pins s σ H _ _ v us Q I rx rs ⟨a, vs, _, rfl, rfl, e1, by rw [← r1.length]; exact hz,
            p _ _ _ (.set hr e e1) (hr.set e e1 (r1.append (.cons q .nil))) .non⟩
        · exact p.elim
  | extend =>
    cases qx <;> try exact (show False from p).elim
    rename_i n a e
    cases qs with
    | nil => exact (show False from p).elim
    | cons q qs =>
      cases qs with
      | cons _ _ => cases q <;> exact (show False from p).elim
      | nil =>
        cases q <;> try exact (show False from p).elim
        rename_i n2 a2 e2
        simp only [meW] at p
        split at p
        · rename_i ys zs hy hz2
          obtain ⟨hz, p⟩ := post_if p
          obtain ⟨vs, e1, r1⟩ := hr.lst e hy
          obtain ⟨us2, e3, r2⟩ := hr.lst e2 hz2
          exact mt_extend pins s σ H _ _ v us Q I rx rs ⟨a, a2, vs, us2, rfl, rfl, e1, e3, by rw [← r1.length, ← r2.length]; exact hz,
            p _ _ _ (.set hr e e1) (hr.set e e1 (r1.append r2)) .non⟩
        · exact p.elim
  | pop =>
    cases qx <;> try exact (show False from p).elim
    rename_i n a e
    cases qs with
    | cons _ _ => exact (show False from p).elim
    | nil =>
      simp only [meW] at p
      split at p
      · rename_i ys hy
        split at p
        · rename_i w1 hw1
          obtain ⟨vs, e1, r1⟩ := hr.lst e hy
          obtain ⟨x1, hx1, q1⟩ := r1.get hw1
          exact mt_pop pins s σ H _ _ v us Q I rx rs ⟨a, vs, x1, rfl, rfl, e1, by rw [← r1.length]; exact hx1,
            p _ _ _ (.set hr e e1) (hr.set e e1 r1.dropLast) (hr.rw (.set hr e e1) q1)⟩
        · exact p.elim
      · exact p.elim
/-- a list is told apart -/
theorem isL_ty {H : Hp} {m : Mp} {h : Hs} {w : W} {x : V} (hr : HR X.K G m h H) (q : RW X.K m H w x) (e : isL h w = true) : tyV X.K "list" x H := by
  cases q <;> try cases e
  rename_i n a z
  simp only [isL] at e
  split at e
  · rename_i ws hw
    obtain ⟨vs, e1, _⟩ := hr.lst z hw
    exact .inl ⟨rfl, vs, .of e1⟩
  · cases e
theorem Me.pe {m : Me} {o e : Expr} {es : List Expr} {to : TE} {t : TA} {name : Str} {apos cpos : Pos} (hn : name = (match m with | .append => ("append" : Str) | .extend => "extend" | .pop => "pop")) (ho : PE X o to) (ha : PA X (e :: es) t)
    (hbase : attributeBase o name X.env (eval o X.env) = eval o X.env)
    (hfew : ((backTo cpos (starEach (e :: es) X.env)).all (fun x => !x.1) && (backToKw cpos (keywordEach [] X.env)).all (fun x => x.1.isSome)
      && decide ((e :: es).length + ([] : List Keyword).length + (if ([] : List Keyword).isEmpty then 0 else 1) < 30)) = true)
    (hline : (apos.endLine == cpos.line) = true) (hs : starEach (e :: es) X.env = (false, eval e X.env) :: starEach es X.env) (hplain : (backTo cpos (starEach es X.env)).any (·.1) = false) :
    PE X (.Call (.Attribute o name apos) (e :: es) [] cpos) (tBM X.K "list" (rMe X.K G E m) to t) := by
  subst hn
  cases m with
  | append => exact pe_bm PySem.F.plainAttrs_list PySem.F.slot_list_append PySem.F.type_list_append (me_ok .append) ho ha hbase hfew hline hs hplain
  | extend => exact pe_bm PySem.F.plainAttrs_list PySem.F.slot_list_extend PySem.F.type_list_extend (me_ok .extend) ho ha hbase hfew hline hs hplain
  | pop => exact pe_bm PySem.F.plainAttrs_list PySem.F.slot_list_pop PySem.F.type_list_pop (me_ok .pop) ho ha hbase hfew hline hs hplain
theorem Me.pe0 {m : Me} {o : Expr} {to : TE} {name : Str} {apos cpos : Pos} (hn : name = (match m with | .append => ("append" : Str) | .extend => "extend" | .pop => "pop")) (ho : PE X o to)
    (hbase : attributeBase o name X.env (eval o X.env) = eval o X.env) (hline : (apos.endLine == cpos.line) = true) : PE X (.Call (.Attribute o name apos) [] [] cpos) (tBM0 X.K "list" (rMe X.K G E m) to) := by
  subst hn
  cases m with
  | append => exact pe_bm0 PySem.F.plainAttrs_list PySem.F.slot_list_append PySem.F.type_list_append (me_ok .append) ho hbase hline
  | extend => exact pe_bm0 PySem.F.plainAttrs_list PySem.F.slot_list_extend PySem.F.type_list_extend (me_ok .extend) ho hbase hline
  | pop => exact pe_bm0 PySem.F.plainAttrs_list PySem.F.slot_list_pop PySem.F.type_list_pop (me_ok .pop) ho hbase hline
/-- (k1, k2, ..).index(k) -/
def tTix (t t2 : TA) : TE := fun σ H Q => t σ H fun xs H1 => xs.length ≤ sizeLine ∧ ∀ p, H1 p = none → t2 σ (upd H1 p (.tup xs)) fun ys H2 => ∃ (ns : List Int) (k : Int), xs = ns.map V.int ∧ ys = [V.int k] ∧ H2 p = some (.tup xs) ∧ k ∈ ns ∧ Q (.int (ns.idxOf k : Nat)) H2
theorem pe_tix {es : List Expr} {e : Expr} {t t2 : TA} {x1 : Nat} {tp apos cpos : Pos} (h : PA X es t) (ha : PA X [e] t2)
    (hbase : attributeBase (.Tuple es x1 tp) "index" X.env (eval (.Tuple es x1 tp) X.env) = eval (.Tuple es x1 tp) X.env)
    (hfew : ((backTo cpos (starEach [e] X.env)).all (fun x => !x.1) && (backToKw cpos (keywordEach [] X.env)).all (fun x => x.1.isSome)
      && decide (([e] : List Expr).length + ([] : List Keyword).length + (if ([] : List Keyword).isEmpty then 0 else 1) < 30)) = true)
    (hline : (apos.endLine == cpos.line) = true) (hs : starEach [e] X.env = (false, eval e X.env) :: starEach [] X.env) (hplain : (backTo cpos (starEach [] X.env)).any (·.1) = false) :
    PE X (.Call (.Attribute (.Tuple es x1 tp) "index" apos) [e] [] cpos) (tTix t t2) := by
  refine ⟨fun pins s σ H Q I hq => ?_⟩
  refine wpAny_Call_method_late hbase hfew hline rfl ?_
  refine wpAny_Tuple_spliced (thn (h.run tp pins s σ H _ I hq) fun us s1 ⟨xs, H1, I1, r, z, q⟩ => ⟨by rw [← r.length]; exact z, ?_⟩)
  have hf : H1 s1.heap.objs.size = none := I1.hok.fresh (Nat.le_refl _)
  have I2 : Inv X pins σ (upd H1 s1.heap.objs.size (.tup xs)) { s1 with heap := s1.heap.push { cls := .type "tuple", data := .seq us.toArray } } := I1.laid (t' := s1.toks) (fun b u e => Heap.get?_push_of_some _ e) (Nat.le_refl _) ⟨z, us, r, ⟨_, Heap.get?_push_size _ rfl, rfl, _, rfl⟩⟩
  refine ⟨"tuple", _, PySem.F.plainAttrs_tuple, PySem.F.slot_tuple_index, PySem.F.type_tuple_index, ⟨_, Heap.get?_push_size _ rfl, rfl⟩, fun a ea => ?_, ?_⟩
  · cases ea
    exact ⟨_, Heap.get?_push_size _ rfl, rfl⟩
  · have hA := ha.run cpos pins _ σ _ _ I2 (q _ hf)
    rw [hs] at hA ⊢
    refine Calls.callWith_builtin (by show (false || (backTo cpos (starEach [] X.env)).any (·.1)) = false; rw [hplain] <;> rfl) (Calls.evalArgs_plain ?_)
    refine thn hA fun ws s2 ⟨ys, H2, I3, r2, ns, k, e1, e2, hp, hk, q2⟩ => ?_
    subst e2
    obtain ⟨u, rfl, t, rfl⟩ := vals1 r2
    obtain ⟨its, rv, pl, hz⟩ := I3.tuple (.of hp)
    rw [e1] at rv
    exact PySem.SeqAt.tuple_index_ints (show s2.heap.IsTuple _ its.toArray from pl) (intsAre_of rv) hk ⟨.int _, H2, I3.tok _, ⟨_, rfl⟩, q2⟩
end
end GS
set_option maxHeartbeats 800000
-- GsZip
namespace GS
open PySem PySem.Spec PyProof.Rows L2

/-- an iterator of a tuple (true) or of a list (false) -/
def sIt (b : Bool) (h : Heap) (it l : Addr) (k : Nat) : Prop := match b with
  | true => h.IsTupleIter it l k
  | false => h.IsListIter it l k
def sOb (b : Bool) (h : Heap) (l : Addr) (xs : Array Value) : Prop := match b with
  | true => h.IsTuple l xs
  | false => h.IsList l xs
theorem sIt.move {b : Bool} {h h' : Heap} {it l : Addr} {k : Nat} (x : sIt b h it l k) (e : ∀ o, h.get? it = some o → h'.get? it = some o) : sIt b h' it l k := by
  cases b with
  | true => exact Heap.IsTupleIter.at x e
  | false => exact Heap.IsListIter.at x e
theorem sIt.obj {b : Bool} {h : Heap} {it l : Addr} {k : Nat} (x : sIt b h it l k) : ∃ o, h.get? it = some o ∧ ∀ v, o.data ≠ .cell v := by
  cases b with
  | true => obtain ⟨o, e, _, d⟩ := (show h.IsTupleIter it l k from x); exact ⟨o, e, fun v q => by rw [d] at q; cases q⟩
  | false => obtain ⟨o, e, _, d⟩ := (show h.IsListIter it l k from x); exact ⟨o, e, fun v q => by rw [d] at q; cases q⟩
theorem sOb.lt {b : Bool} {h : Heap} {l : Addr} {xs : Array Value} (x : sOb b h l xs) : l < h.objs.size := by
  cases b with
  | true => obtain ⟨o, e, _⟩ := (show h.IsTuple l xs from x); exact Heap.lt_size e
  | false => obtain ⟨o, e, _⟩ := (show h.IsList l xs from x); exact Heap.lt_size e
theorem sOb.move {b : Bool} {h h' : Heap} {l : Addr} {xs : Array Value} (x : sOb b h l xs) (e : ∀ o, h.get? l = some o → h'.get? l = some o) : sOb b h' l xs := by
  cases b with
  | true => obtain ⟨o, q, r⟩ := (show h.IsTuple l xs from x); exact (show h'.IsTuple l xs from ⟨o, e o q, r⟩)
  | false => obtain ⟨o, q, r⟩ := (show h.IsList l xs from x); exact (show h'.IsList l xs from ⟨o, e o q, r⟩)
section
variable {prog : Program} {w : World} {A : Around} {E : Value → Shared → Prop} {s : Shared} {b b1 b2 : Bool}
theorem sNx {it l : Addr} {k : Nat} {xs : Array Value} {x : Value} {Q : Value → Shared → Prop} (hi : sIt b s.heap it l k) (hl : sOb b s.heap l xs) (hx : xs[k]? = some x) (hQ : ∀ h', sIt b h' it l (k + 1) → Heap.SameBut it s.heap h' → Q x { s with heap := h' }) :
    wpAny (model prog w) A (Builtin.SmallTypes.nextOf (.ref it)) Q E s := by
  cases b with
  | true => exact RZ.nextOf_tuple_item hi hl hx hQ
  | false => exact wpAny_nextOf_list_item hi hl hx hQ
theorem sEnd {it l : Addr} {k : Nat} {xs : Array Value} {Q : Value → Shared → Prop} (hh : A.handled = none) (hi : sIt b s.heap it l k) (hl : sOb b s.heap l xs) (hx : xs[k]? = none) (hE : ∀ h' e, Heap.ExtBut it s.heap h' → (∃ o, h'.get? e = some o ∧ o.cls = .type "StopIteration") → E (.ref e) { s with heap := h' }) :
    wpAny (model prog w) A (Builtin.SmallTypes.nextOf (.ref it)) Q E s := by
  cases b with
  | true => exact RZ.nextOf_tuple_end hh hi hl hx hE
  | false => exact wpAny_nextOf_list_end hh hi hl hx hE
/-- the zip object with its two tuples and its two iterators -/
structure ZSt (b1 b2 : Bool) (h : Heap) (z TI TO i1 i2 l1 l2 : Addr) (k : Nat) (f0 : Value) : Prop where
  z : IsZip h z TI TO f0
  ti : IsPair h TI (.ref i1) (.ref i2)
  to : ∃ x y, IsPair h TO x y
  i1 : sIt b1 h i1 l1 k
  i2 : sIt b2 h i2 l2 k
theorem zip_go {z TI TO i1 i2 l1 l2 : Addr} {k : Nat} {xs ys : Array Value} {x y : Value} {Q : Option Value → Shared → Prop} (D : ZipApart z TI TO i1 i2 l1 l2) (S : ZSt b1 b2 s.heap z TI TO i1 i2 l1 l2 k .none) (hl1 : sOb b1 s.heap l1 xs) (hl2 : sOb b2 s.heap l2 ys) (hx : xs[k]? = some x) (hy : ys[k]? = some y)
    (hQ : ∀ h', IsZip h' z TI TO (rawInt s.heap.objs.size) → IsPair h' TO x y → sIt b1 h' i1 l1 (k + 1) → sIt b2 h' i2 l2 (k + 1) → IsPair h' s.heap.objs.size x y → (∀ c o, c ≠ z → c ≠ TO → c ≠ i1 → c ≠ i2 → s.heap.get? c = some o → h'.get? c = some o) → Q (some (.ref s.heap.objs.size)) { s with heap := h' }) :
    wpAny (model prog w) A (pyNext (.ref z)) Q E s := by
  obtain ⟨hz, hTI, ⟨a, c, hTO⟩, h1, h2⟩ := S
  have hT : s.TypeIs (.ref z) "zip" := ⟨_, hz, rfl⟩
  unfold pyNext
  refine wpAny_bind (wpAny_attempt (wpAny_callSpecial?_slot (name := Str.ofString "__next__") hT F.slot_zip_next (wpAny_call_entry F.slot_zip_next hT F.entry_zip_next ?_ (F.args_zip_next_1 _))))
  show wpAny _ _ (field (.ref z) 2 >>= _) _ _ _
  refine wpAny_bind (wpAny_field hz rfl (x := .bool false) rfl ?_)
  show wpAny _ _ (field (.ref z) 3 >>= _) _ _ _
  refine wpAny_bind (wpAny_field hz rfl (x := .ref TI) rfl (wpAny_bind (wpAny_seqItems hTI rfl ?_)))
  show wpAny _ _ (Builtin.SmallTypes.ownedTupleIsFree (.ref z) >>= _) _ _ _
  unfold Builtin.SmallTypes.ownedTupleIsFree
  refine wpAny_bind (wpAny_bind (wpAny_field hz rfl (x := .none) rfl (wpAny_pure ?_)))
  simp only [if_true]
  refine wpAny_bind (wpAny_rule (wpAny_bind (wpAny_field hz rfl (x := .ref TO) rfl (wpAny_bind (wpAny_setField_rec hz (by simp) fun h₁ hz₁ s₁ => ?_)))))
  replace hz₁ : IsZip h₁ z TI TO .ellipsis := hz₁
  refine wpAny_bind ?_
  simp only [List.zipIdx_cons, List.zipIdx_nil, List.forIn_cons, List.forIn_nil]
  -- the first
  refine wpAny_bind (wpAny_bind (wpAny_onRaise ?_))
  show wpAny _ _ (Builtin.SmallTypes.nextOf (.ref i1) >>= _) _ _ _
  refine wpAny_bind (sNx (h1.move fun o e => s₁.extBut _ _ D.i1z e) (hl1.move fun o e => s₁.extBut _ _ D.l1z e) hx fun h₂ j1 s₂ => wpAny_pure ?_)
  have t₂ : IsPair h₂ TO a c := s₂.extBut _ _ D.TOi1 (s₁.extBut _ _ D.TOz hTO)
  refine wpAny_bind (wpAny_seqItems t₂ rfl (wpAny_bind (wpAny_updateSeq_pair t₂ fun h₃ t₃ s₃ => wpAny_bind (wpAny_letGo (wpAny_pure ?_)))))
  replace t₃ : IsPair h₃ TO x c := t₃
  -- the second
  refine wpAny_bind (wpAny_bind (wpAny_onRaise ?_))
  show wpAny _ _ (Builtin.SmallTypes.nextOf (.ref i2) >>= _) _ _ _
  refine wpAny_bind (sNx (h2.move fun o e => s₃.extBut _ _ D.TOi2.symm (s₂.extBut _ _ D.i12.symm (s₁.extBut _ _ D.i2z e))) (hl2.move fun o e => s₃.extBut _ _ D.l2TO (s₂.extBut _ _ D.l2i1 (s₁.extBut _ _ D.l2z e))) hy fun h₄ j2 s₄ => wpAny_pure ?_)
  have t₄ : IsPair h₄ TO x c := s₄.extBut _ _ D.TOi2 t₃
  refine wpAny_bind (wpAny_seqItems t₄ rfl (wpAny_bind (wpAny_updateSeq_pair t₄ fun h₅ t₅ s₅ => wpAny_bind (wpAny_letGo (wpAny_pure (wpAny_pure ?_))))))
  replace t₅ : IsPair h₅ TO x y := t₅
  refine wpAny_bind (wpAny_seqItems t₅ rfl (wpAny_bind (wpAny_newTuple ?_)))
  have sz : h₅.objs.size = s.heap.objs.size := by rw [s₅.1, s₄.1, s₃.1, s₂.1, s₁.1]
  have z₅ : IsZip h₅ z TI TO .ellipsis := s₅.extBut _ _ D.TOz.symm (s₄.extBut _ _ D.i2z.symm (s₃.extBut _ _ D.TOz.symm (s₂.extBut _ _ D.i1z.symm hz₁)))
  have keep₅ : ∀ c o, c ≠ z → c ≠ TO → c ≠ i1 → c ≠ i2 → s.heap.get? c = some o → h₅.get? c = some o := fun c o c1 c2 c3 c4 e => s₅.extBut _ _ c2 (s₄.extBut _ _ c4 (s₃.extBut _ _ c2 (s₂.extBut _ _ c3 (s₁.extBut _ _ c1 e))))
  have k1 : sIt b1 h₅ i1 l1 (k + 1) := j1.move fun o e => s₅.extBut _ _ D.TOi1.symm (s₄.extBut _ _ D.i12 (s₃.extBut _ _ D.TOi1.symm e))
  have k2 : sIt b2 h₅ i2 l2 (k + 1) := j2.move fun o e => s₅.extBut _ _ D.TOi2.symm e
  show wpAny _ _ (Builtin.SmallTypes.ownedTupleHandOut (.ref z) (.ref h₅.objs.size) >>= _) _ _ _
  unfold Builtin.SmallTypes.ownedTupleHandOut
  have zl : z < h₅.objs.size := Heap.lt_size z₅
  have z₆ : IsZip (h₅.push { cls := .type "tuple", data := .seq #[x, y] }) z TI TO .ellipsis := Heap.get?_push_of_some _ z₅
  refine wpAny_bind (wpAny_bind (wpAny_setField_rec z₆ (by simp) fun h₇ z₇ s₇ => ?_))
  replace z₇ : IsZip h₇ z TI TO (rawInt h₅.objs.size) := z₇
  refine wpAny_setField_rec z₇ (by simp) fun h₈ z₈ s₈ => ?_
  replace z₈ : IsZip h₈ z TI TO (rawInt h₅.objs.size) := z₈
  have up : ∀ c o, c ≠ z → h₅.get? c = some o → h₈.get? c = some o := fun c o c1 e => s₈.extBut _ _ c1 (s₇.extBut _ _ c1 (Heap.get?_push_of_some _ e))
  have pair : IsPair h₈ h₅.objs.size x y := s₈.extBut _ _ (Nat.ne_of_gt zl) (s₇.extBut _ _ (Nat.ne_of_gt zl) (Heap.get?_push_size _ rfl))
  rw [sz] at z₈ pair
  refine wpAny_pure ⟨_, rfl, ?_⟩
  show wpAny _ _ (pure (some (Value.ref h₅.objs.size))) _ _ _
  rw [sz]
  exact wpAny_pure (hQ h₈ z₈ (up _ _ D.TOz t₅) (k1.move fun o e => up _ o D.i1z e) (k2.move fun o e => up _ o D.i2z e) pair fun c o c1 c2 c3 c4 e => up c o c1 (keep₅ c o c1 c2 c3 c4 e))
theorem zip_stop {z TI TO i1 i2 l1 l2 : Addr} {k : Nat} {xs ys : Array Value} {Q : Option Value → Shared → Prop} (hh : A.handled = none) (D : ZipApart z TI TO i1 i2 l1 l2) (S : ZSt b1 b2 s.heap z TI TO i1 i2 l1 l2 k .none) (hl1 : sOb b1 s.heap l1 xs) (hl2 : sOb b2 s.heap l2 ys) (hend : xs[k]? = none ∨ ys[k]? = none)
    (hQ : ∀ h', (∀ c o, c ≠ z → c ≠ TO → c ≠ i1 → c ≠ i2 → s.heap.get? c = some o → h'.get? c = some o) → Q none { s with heap := h' }) : wpAny (model prog w) A (pyNext (.ref z)) Q E s := by
  obtain ⟨hz, hTI, ⟨a, c, hTO⟩, h1, h2⟩ := S
  have hT : s.TypeIs (.ref z) "zip" := ⟨_, hz, rfl⟩
  unfold pyNext
  refine wpAny_bind (wpAny_attempt (wpAny_callSpecial?_slot (name := Str.ofString "__next__") hT F.slot_zip_next (wpAny_call_entry F.slot_zip_next hT F.entry_zip_next ?_ (F.args_zip_next_1 _))))
  -- what comes is a StopIteration
  have last : ∀ h' e, (∀ c o, c ≠ z → c ≠ TO → c ≠ i1 → c ≠ i2 → s.heap.get? c = some o → h'.get? c = some o) → (∃ o, h'.get? e = some o ∧ o.cls = .type "StopIteration") →
      wpAny (model prog w) A (do if ← isInstance (.ref e) (.type "StopIteration") then pure none else throw (.ref e)) Q E { s with heap := h' } := fun h' e hk he => by
    obtain ⟨o, ho, hc⟩ := he
    exact wpAny_bind (wpAny_isInstance (T := "StopIteration") (b := true) ⟨o, ho, hc⟩ isSubtype_stop (wpAny_pure (hQ _ hk)))
  show wpAny _ _ (field (.ref z) 2 >>= _) _ _ _
  refine wpAny_bind (wpAny_field hz rfl (x := .bool false) rfl ?_)
  show wpAny _ _ (field (.ref z) 3 >>= _) _ _ _
  refine wpAny_bind (wpAny_field hz rfl (x := .ref TI) rfl (wpAny_bind (wpAny_seqItems hTI rfl ?_)))
  show wpAny _ _ (Builtin.SmallTypes.ownedTupleIsFree (.ref z) >>= _) _ _ _
  unfold Builtin.SmallTypes.ownedTupleIsFree
  refine wpAny_bind (wpAny_bind (wpAny_field hz rfl (x := .none) rfl (wpAny_pure ?_)))
  simp only [if_true]
  refine wpAny_bind (wpAny_rule (wpAny_bind (wpAny_field hz rfl (x := .ref TO) rfl (wpAny_bind (wpAny_setField_rec hz (by simp) fun h₁ hz₁ s₁ => ?_)))))
  replace hz₁ : IsZip h₁ z TI TO .ellipsis := hz₁
  refine wpAny_bind ?_
  simp only [List.zipIdx_cons, List.zipIdx_nil, List.forIn_cons, List.forIn_nil]
  refine wpAny_bind (wpAny_bind (wpAny_onRaise ?_))
  show wpAny _ _ (Builtin.SmallTypes.nextOf (.ref i1) >>= _) _ _ _
  have m1 := h1.move fun o e => s₁.extBut _ _ D.i1z e
  have n1 := hl1.move fun o e => s₁.extBut _ _ D.l1z e
  cases hx : xs[k]? with
  | none =>
    refine wpAny_bind (sEnd hh m1 n1 hx fun h₂ e s₂ he => ?_)
    obtain ⟨oe, hoe, hce⟩ := he
    have z₂ : IsZip h₂ z TI TO .ellipsis := s₂ _ _ D.i1z.symm hz₁
    have ez : e ≠ z := fun q => by subst q; rw [z₂] at hoe; cases hoe; simp at hce
    refine wpAny_setField_rec z₂ (by simp) fun h₃ _ s₃ => last h₃ e (fun c o c1 _ c3 _ q => s₃.extBut _ _ c1 (s₂ _ _ c3 (s₁.extBut _ _ c1 q))) ⟨oe, s₃.extBut _ _ ez hoe, hce⟩
  | some x =>
    have hy : ys[k]? = none := hend.elim (fun q => by rw [hx] at q; cases q) id
    refine wpAny_bind (sNx m1 n1 hx fun h₂ j1 s₂ => wpAny_pure ?_)
    have t₂ : IsPair h₂ TO a c := s₂.extBut _ _ D.TOi1 (s₁.extBut _ _ D.TOz hTO)
    refine wpAny_bind (wpAny_seqItems t₂ rfl (wpAny_bind (wpAny_updateSeq_pair t₂ fun h₃ t₃ s₃ => wpAny_bind (wpAny_letGo (wpAny_pure ?_)))))
    refine wpAny_bind (wpAny_bind (wpAny_onRaise ?_))
    show wpAny _ _ (Builtin.SmallTypes.nextOf (.ref i2) >>= _) _ _ _
    refine wpAny_bind (sEnd hh (h2.move fun o e => s₃.extBut _ _ D.TOi2.symm (s₂.extBut _ _ D.i12.symm (s₁.extBut _ _ D.i2z e))) (hl2.move fun o e => s₃.extBut _ _ D.l2TO (s₂.extBut _ _ D.l2i1 (s₁.extBut _ _ D.l2z e))) hy fun h₄ e s₄ he => ?_)
    obtain ⟨oe, hoe, hce⟩ := he
    have z₄ : IsZip h₄ z TI TO .ellipsis := s₄ _ _ D.i2z.symm (s₃.extBut _ _ D.TOz.symm (s₂.extBut _ _ D.i1z.symm hz₁))
    have ez : e ≠ z := fun q => by subst q; rw [z₄] at hoe; cases hoe; simp at hce
    refine wpAny_setField_rec z₄ (by simp) fun h₅ _ s₅ => last h₅ e (fun c o c1 c2 c3 c4 q => s₅.extBut _ _ c1 (s₄ _ _ c4 (s₃.extBut _ _ c2 (s₂.extBut _ _ c3 (s₁.extBut _ _ c1 q))))) ⟨oe, s₅.extBut _ _ ez hoe, hce⟩
end
-- GsZip
def itO (b : Bool) (l : Addr) : Obj := { cls := .type (if b then "tuple_iterator" else "list_iterator"), data := .fields #[.ref l, .int 0 0] }
theorem sIt_new {b : Bool} {h : Heap} {it l : Addr} (e : h.get? it = some (itO b l)) : sIt b h it l 0 := by
  cases b with
  | true => exact ⟨_, e, rfl, rfl⟩
  | false => exact ⟨_, e, rfl, rfl⟩
theorem sIter {prog : Program} {w : World} {A : Around} {E : Value → Shared → Prop} {s : Shared} {b : Bool} {l : Addr} {xs : Array Value} {Q : Value → Shared → Prop} (hl : sOb b s.heap l xs) (h : Q (.ref s.heap.objs.size) { s with heap := s.heap.push (itO b l) }) : wpAny (model prog w) A (pyIter (.ref l)) Q E s := by
  cases b with
  | true => exact wpAny_pyIter_tuple (show s.heap.IsTuple l xs from hl) h
  | false => exact wpAny_pyIter_list (show s.heap.IsList l xs from hl) h
abbrev zg1 (b1 : Bool) (h : Heap) (l1 : Addr) : Heap := h.push (itO b1 l1)
abbrev zg2 (b1 b2 : Bool) (h : Heap) (l1 l2 : Addr) : Heap := (zg1 b1 h l1).push (itO b2 l2)
abbrev zg3 (b1 b2 : Bool) (h : Heap) (l1 l2 : Addr) : Heap := (zg2 b1 b2 h l1 l2).push { cls := .type "tuple", data := .seq #[.ref h.objs.size, .ref (zg1 b1 h l1).objs.size] }
abbrev zg4 (b1 b2 : Bool) (h : Heap) (l1 l2 : Addr) : Heap := (zg3 b1 b2 h l1 l2).push { cls := .type "tuple", data := .seq #[.none, .none] }
abbrev zg5 (b1 b2 : Bool) (h : Heap) (l1 l2 : Addr) : Heap := (zg4 b1 b2 h l1 l2).push { cls := .type "zip", data := .fields #[.none, .bool false, .bool false, .ref (zg2 b1 b2 h l1 l2).objs.size, .ref (zg3 b1 b2 h l1 l2).objs.size] }
theorem meets_zg (b1 b2 : Bool) (l1 l2 : Addr) (xs ys : Array Value) :
    Meets (Builtin.«zip.__new__» ⟨[.type "zip", .ref l1, .ref l2], []⟩) (fun _ R s => sOb b1 s.heap l1 xs ∧ sOb b2 s.heap l2 ys ∧ R (.ok (.ret (.ref (zg4 b1 b2 s.heap l1 l2).objs.size))) { s with heap := zg5 b1 b2 s.heap l1 l2 }) :=
  .of_wp fun prog w A R s h => by
    obtain ⟨hp, g, d, tk, os⟩ := s
    obtain ⟨hl1, hl2, h⟩ := h
    have hsub := sub_zip
    have o1 : sOb b1 (Shared.heap ⟨hp, g, d, tk, os⟩) l1 xs := hl1
    have o2 : sOb b2 (Shared.heap ⟨hp.push (itO b1 l1), g, d, tk, os⟩) l2 ys := hl2.move fun o e => Heap.get?_push_of_some _ e
    wp_walk using sIter o1, sIter o2
    exact ⟨_, rfl, h⟩
theorem call_zg {prog : Program} {w : World} {A : Around} {E : Value → Shared → Prop} {s : Shared} {b1 b2 : Bool} {l1 l2 : Addr} {xs ys : Array Value} {Q : Value → Shared → Prop} (hl1 : sOb b1 s.heap l1 xs) (hl2 : sOb b2 s.heap l2 ys)
    (h : ∀ h', ZSt b1 b2 h' (s.heap.objs.size + 4) (s.heap.objs.size + 2) (s.heap.objs.size + 3) s.heap.objs.size (s.heap.objs.size + 1) l1 l2 0 .none → (∀ c o, s.heap.get? c = some o → h'.get? c = some o) → Q (.ref (s.heap.objs.size + 4)) { s with heap := h' }) :
    wpAny (model prog w) A (call (.type "zip") [.ref l1, .ref l2]) Q E s := by
  refine callType_new F.called_zip (by decide) (F.typeCall_zip_2 _ _) (F.newCall_zip_2 _ _) (fun obj => F.args_object_init_3 obj _ _) F.entry_zip_new (meets_zg b1 b2 l1 l2 xs ys) ⟨hl1, hl2, ?_⟩
  have z1 : (zg1 b1 s.heap l1).objs.size = s.heap.objs.size + 1 := Heap.size_push ..
  have z2 : (zg2 b1 b2 s.heap l1 l2).objs.size = s.heap.objs.size + 2 := by rw [Heap.size_push, z1]
  have z3 : (zg3 b1 b2 s.heap l1 l2).objs.size = s.heap.objs.size + 3 := by rw [Heap.size_push, z2]
  have z4 : (zg4 b1 b2 s.heap l1 l2).objs.size = s.heap.objs.size + 4 := by rw [Heap.size_push, z3]
  have g5 : (zg5 b1 b2 s.heap l1 l2).get? (zg4 b1 b2 s.heap l1 l2).objs.size = some _ := Heap.get?_push_size _ rfl
  have g4 : (zg5 b1 b2 s.heap l1 l2).get? (zg3 b1 b2 s.heap l1 l2).objs.size = some _ := Heap.get?_push_of_some _ (Heap.get?_push_size _ rfl)
  have g3 : (zg5 b1 b2 s.heap l1 l2).get? (zg2 b1 b2 s.heap l1 l2).objs.size = some _ := Heap.get?_push_of_some _ (Heap.get?_push_of_some _ (Heap.get?_push_size _ rfl))
  have g2 : (zg5 b1 b2 s.heap l1 l2).get? (zg1 b1 s.heap l1).objs.size = some (itO b2 l2) := Heap.get?_push_of_some _ (Heap.get?_push_of_some _ (Heap.get?_push_of_some _ (Heap.get?_push_size _ rfl)))
  have g1 : (zg5 b1 b2 s.heap l1 l2).get? s.heap.objs.size = some (itO b1 l1) := Heap.get?_push_of_some _ (Heap.get?_push_of_some _ (Heap.get?_push_of_some _ (Heap.get?_push_of_some _ (Heap.get?_push_size _ rfl))))
  show _ ∧ _
  rw [z2, z3, z4] at g5
  rw [z1, z2] at g3
  rw [z3] at g4
  rw [z1] at g2
  rw [z4]
  exact ⟨⟨_, g5, rfl⟩, h _ ⟨g5, g3, ⟨_, _, g4⟩, sIt_new g1, sIt_new g2⟩ fun c o x => Heap.get?_push_of_some _ (Heap.get?_push_of_some _ (Heap.get?_push_of_some _ (Heap.get?_push_of_some _ (Heap.get?_push_of_some _ x))))⟩
-- GsZip
/-- a sequence of the layer -/
def SqB (b : Bool) (K : PySem.W.Frag) (H : Hp) (a : Addr) (xs : List V) : Prop := match b with
  | true => SqT K H a xs
  | false => SqL K H a xs
theorem SqB.at_ {b : Bool} {X : Cx} {pins : List (Addr × Obj)} {σ : L2.St} {H : Hp} {s : Shared} {a : Addr} {xs : List V} (I : Inv X pins σ H s) (q : SqB b X.K H a xs) : ∃ its : List Value, Vals xs its ∧ sOb b s.heap a its.toArray := by
  cases b with
  | true => obtain ⟨its, rv, p, _⟩ := I.tuple (show SqT X.K H a xs from q); exact ⟨its, rv, p⟩
  | false => obtain ⟨its, rv, p, _⟩ := I.list (show SqL X.K H a xs from q); exact ⟨its, rv, p.isList⟩
theorem SqB.inj {b : Bool} {X : Cx} {pins : List (Addr × Obj)} {σ : L2.St} {H : Hp} {s : Shared} {a : Addr} {xs ys : List V} (I : Inv X pins σ H s) (p : SqB b X.K H a xs) (q : SqB b X.K H a ys) : xs = ys := by
  cases b with
  | true => exact I.tuple_inj p q
  | false => exact I.list_inj p q
/-- the pairs -/
def Izg (b1 b2 : Bool) (K : PySem.W.Frag) (a b : Addr) : L2.It :=
  ⟨fun i H => ∃ (xs ys : List V) (x y : V), SqB b1 K H a xs ∧ SqB b2 K H b ys ∧ xs[i]? = some x ∧ ys[i]? = some y,
    fun i H v H' => ∃ T x y, v = .ref T ∧ H T = none ∧ H' = upd H T (.tup [x, y]) ∧ (∀ xs, SqB b1 K H a xs → xs[i]? = some x) ∧ ∀ ys, SqB b2 K H b ys → ys[i]? = some y,
    fun i H => ∃ xs ys : List V, SqB b1 K H a xs ∧ SqB b2 K H b ys ∧ (xs.length ≤ i ∨ ys.length ≤ i)⟩
theorem turn_zg {P : Program} {w : World} {K : PySem.W.Frag} {b1 b2 : Bool} {elts : List Expr} {kk : Nat} {tpos : Pos} {a b z TI TO i1 i2 : Addr} (D : ZipApart z TI TO i1 i2 a b) :
    Turn P w K (.Tuple elts kk tpos) (Izg b1 b2 K a b) [z, TI, TO, i1, i2] z (fun i h => ZSt b1 b2 h z TI TO i1 i2 a b i .none) where
  mem := List.mem_cons_self
  obj := fun i h S c hc => by
    simp only [List.mem_cons, List.not_mem_nil, or_false] at hc
    obtain ⟨hz, hTI, ⟨x, y, hTO⟩, h1, h2⟩ := S
    rcases hc with rfl | rfl | rfl | rfl | rfl
    · exact ⟨_, hz, fun v q => nomatch q⟩
    · exact ⟨_, hTI, fun v q => nomatch q⟩
    · exact ⟨_, hTO, fun v q => nomatch q⟩
    · exact h1.obj
    · exact h2.obj
  keep := fun i h h' S k => ⟨k z (by simp) _ S.z, k TI (by simp) _ S.ti, let ⟨x, y, e⟩ := S.to; ⟨x, y, k TO (by simp) _ e⟩, S.i1.move fun o q => k i1 (by simp) o q, S.i2.move fun o q => k i2 (by simp) o q⟩
  item := by
    intro X hP hw hK hc i pins s σ H E I hf S hg
    subst hP hw hK
    obtain ⟨xs, ys, x, y, qx, qy, hx, hy⟩ := hg
    obtain ⟨its, rv, p⟩ := qx.at_ I
    obtain ⟨its2, rv2, p2⟩ := qy.at_ I
    obtain ⟨u, hu, ru⟩ := rv.get hx
    obtain ⟨u2, hu2, ru2⟩ := rv2.get hy
    have zl : z < s.heap.objs.size := Heap.lt_size S.z
    refine zip_go D S p p2 (x := u) (y := u2) (by simpa using hu) (by simpa using hu2) fun h' z' TO' j1 j2 hT hk => ?_
    refine ⟨_, rfl, wpAny_letOwnedTupleGo_zip (s := { s with heap := h' }) z' fun h'' z'' sb => ?_⟩
    have hT2 : h''.get? s.heap.objs.size = some { cls := .type "tuple", data := .seq #[u, u2] } := (sb.2 _ (Nat.ne_of_gt zl)).trans hT
    have off : ∀ c o, c ∉ [z, TI, TO, i1, i2] → s.heap.get? c = some o → h''.get? c = some o := fun c o hb q => by
      simp only [List.mem_cons, List.not_mem_nil, or_false, not_or] at hb
      exact (sb.2 c hb.1).trans (hk c o hb.1 hb.2.2.1 hb.2.2.2.1 hb.2.2.2.2 q)
    have I1 : Inv X pins σ (upd H s.heap.objs.size (.tup [x, y])) { s with heap := h'' } :=
      I.turnedNew (t' := s.toks) (ch := [z, TI, TO, i1, i2]) off hf (Nat.le_refl _) ⟨by show 2 ≤ sizeLine; decide, [u, u2], .cons ru (.cons ru2 .nil), ⟨_, hT2, rfl, _, rfl⟩⟩
    refine ⟨.ref s.heap.objs.size, _, I1, rfl, ⟨_, x, y, rfl, I.hok.fresh (Nat.le_refl _), rfl, fun l hl => by rw [hl.inj I qx]; exact hx, fun l hl => by rw [hl.inj I qy]; exact hy⟩, ⟨z'', ?_, ⟨u, u2, ?_⟩, ?_, ?_⟩, fun c hcm => ?_⟩
    · exact (sb.2 _ D.TIz).trans (hk _ _ D.TIz D.TITO D.TIi1 D.TIi2 S.ti)
    · exact (sb.2 _ D.TOz).trans TO'
    · exact j1.move fun o q => (sb.2 _ D.i1z).trans q
    · exact j2.move fun o q => (sb.2 _ D.i2z).trans q
    · have lt : c < s.heap.objs.size := by
        simp only [List.mem_cons, List.not_mem_nil, or_false] at hcm
        obtain ⟨hz, hTI, ⟨x, y, hTO⟩, h1, h2⟩ := S
        rcases hcm with rfl | rfl | rfl | rfl | rfl
        · exact zl
        · exact Heap.lt_size hTI
        · exact Heap.lt_size hTO
        · obtain ⟨_, e, _⟩ := h1.obj; exact Heap.lt_size e
        · obtain ⟨_, e, _⟩ := h2.obj; exact Heap.lt_size e
      rw [upd_ne (Nat.ne_of_lt lt)]
      exact (hf c hcm).1
  done := by
    intro X hP hw hK hc i pins s σ H E I hf S hg
    subst hP hw hK
    obtain ⟨xs, ys, qx, qy, hend⟩ := hg
    obtain ⟨its, rv, p⟩ := qx.at_ I
    obtain ⟨its2, rv2, p2⟩ := qy.at_ I
    have l1 := rv.length
    have l2 := rv2.length
    refine zip_stop (I.ok.hd hc) D S p p2 (hend.imp (fun q => by simp; omega) fun q => by simp; omega) fun h' hk => ⟨rfl, I.turnedL (t' := s.toks) (ch := [z, TI, TO, i1, i2]) (fun c o hb q => ?_) hf⟩
    simp only [List.mem_cons, List.not_mem_nil, or_false, not_or] at hb
    exact hk c o hb.1 hb.2.2.1 hb.2.2.2.1 hb.2.2.2.2 q
  self := fun A i s Q E S h => wpAny_pyIter_zip S.z h
/-- zip(e, e2) walked -/
def iZg (K : PySem.W.Frag) (ta : TA) : TI := fun σ H R => ta σ H fun vs H1 => ∃ a b b1 b2 xs ys, vs = [.ref a, .ref b] ∧ SqB b1 K H1 a xs ∧ SqB b2 K H1 b ys ∧ R (Izg b1 b2 K a b) H1
theorem pi_zg {X : Cx} {e e2 : Expr} {ta : TA} {p pos tpos : Pos} {elts : List Expr} {kk : Nat} (hg : Gl X "zip") (hm : X.mg "zip" = none) (ha : PA X [e, e2] ta)
    (hs : starEach [e, e2] X.env = (false, eval e X.env) :: starEach [e2] X.env) (hpl : (backTo pos (starEach [e2] X.env)).any (·.1) = false) :
    PI X (.Tuple elts kk tpos) (.Call (.Name "zip" p) [e, e2] [] pos) (iZg X.K ta) := by
  refine ⟨fun pins s σ H R I h => ?_⟩
  refine Call_ (ld_blt I hg hm PyProof.Rows.boot_zip (PyProof.Rows.callWith_type1 (thn (ha.run pos pins s σ H _ I h) fun us s1 ⟨vs, H1, I1, r1, q1⟩ => ?_) hs hpl))
  obtain ⟨a, b, b1, b2, xs, ys, rfl, qx, qy, q⟩ := q1
  cases r1 with
  | cons r rr =>
    cases rr with
    | cons r' rr =>
    cases rr
    cases r
    cases r'
    obtain ⟨its, rv, p1⟩ := qx.at_ I1
    obtain ⟨its2, rv2, p2⟩ := qy.at_ I1
    refine call_zg p1 p2 fun h' S hk => wpAny_pyIter_zip S.z ⟨s1.heap.objs.size + 4, [s1.heap.objs.size + 4, s1.heap.objs.size + 2, s1.heap.objs.size + 3, s1.heap.objs.size, s1.heap.objs.size + 1], _, _, H1, rfl, I1.kept (t' := s1.toks) hk, turn_zg (PySem.W.ktu_apart s1.heap.objs.size a b p1.lt p2.lt), S, fun c hc => ?_, q⟩
    have le : s1.heap.objs.size ≤ c := by
      simp only [List.mem_cons, List.not_mem_nil, or_false] at hc
      rcases hc with e | e | e | e | e <;> (rw [e]; first | exact Nat.le_add_right _ _ | exact Nat.le_refl _)
    exact I1.fpOk le (I1.hok.fresh le)
end GS
set_option maxHeartbeats 800000
-- GsEnum
namespace GS
open PySem PySem.Spec PyProof.Rows L2
theorem meets_eg (b : Bool) (l : Addr) (xs : Array Value) :
    Meets (Builtin.«enumerate.__new__» ⟨[.type "enumerate", .ref l], []⟩) (fun _ R s => sOb b s.heap l xs ∧
      R (.ok (.ret (.ref (s.heap.push (itO b l)).objs.size)))
        { s with heap := (s.heap.push (itO b l)).push { cls := .type "enumerate", data := .fields #[.none, .bool false, .ref s.heap.objs.size, rawInt 0, .none, .none] } }) :=
  .of_wp fun prog w A R s h => by
    obtain ⟨hp, g, d, tk, os⟩ := s; obtain ⟨hl, h⟩ := h
    have hsub := sub_enumerate
    have o1 : sOb b (Shared.heap ⟨hp, g, d, tk, os⟩) l xs := hl
    wp_walk using sIter o1
    refine wpAny_stack_any fun st => wpAny_pure ?_
    split
    · rename_i c _ _ _ _ _
      cases (c == Value.type "enumerate")
      · wp_walk using sIter o1
        exact ⟨_, rfl, h⟩
      · wp_walk using sIter o1
        exact ⟨_, rfl, h⟩
    · wp_walk using sIter o1
      exact ⟨_, rfl, h⟩
theorem call_eg {prog : Program} {w : World} {A : Around} {E : Value → Shared → Prop} {s : Shared} {b : Bool} {l : Addr} {xs : Array Value} {Q : Value → Shared → Prop} (hL : sOb b s.heap l xs)
    (h : ∀ h', IsEnum h' (s.heap.objs.size + 1) s.heap.objs.size 0 .none → sIt b h' s.heap.objs.size l 0 → (∀ b o, s.heap.get? b = some o → h'.get? b = some o) → Q (.ref (s.heap.objs.size + 1)) { s with heap := h' }) :
    wpAny (model prog w) A (call (.type "enumerate") [.ref l]) Q E s := by
  refine callType_new F.called_enumerate (by decide) (F.typeCall_enumerate_1 _) (F.newCall_enumerate_1 _) (fun obj => F.args_object_init_2 obj _) F.entry_enumerate_new (meets_eg b l xs) ⟨hL, ?_⟩
  have hz : (s.heap.push (itO b l)).objs.size = s.heap.objs.size + 1 := Heap.size_push ..
  show _ ∧ _
  rw [hz]
  have he : IsEnum ((s.heap.push (itO b l)).push { cls := .type "enumerate", data := .fields #[.none, .bool false, .ref s.heap.objs.size, rawInt 0, .none, .none] }) (s.heap.objs.size + 1) s.heap.objs.size 0 .none := by
    have := Heap.get?_push_size (s.heap.push (itO b l)) (o := { cls := .type "enumerate", data := .fields #[.none, .bool false, .ref s.heap.objs.size, rawInt 0, .none, .none] }) rfl
    rw [hz] at this; exact this
  exact ⟨⟨_, he, rfl⟩, h _ he (sIt_new (Heap.get?_push_of_some _ (Heap.get?_push_size _ rfl))) fun b o x => Heap.get?_push_of_some _ (Heap.get?_push_of_some _ x)⟩
theorem sDraws {prog : Program} {w : World} {A : Around} (hh : A.handled = none) (b : Bool) (it l : Addr) (hne : l ≠ it) (xs : Array Value) :
    Draws prog w A it [it, l] xs.size (fun i v => xs[i]? = some v) (fun i h => sIt b h it l i ∧ sOb b h l xs) where
  live := fun _ _ st => let ⟨o, e, _⟩ := st.1.obj; ⟨o, e⟩
  frame := fun _ _ _ st hk => ⟨st.1.move fun o e => hk it (by simp) o e, st.2.move fun o e => hk l (by simp) o e⟩
  item := fun i s Q E hi st hQ => by
    refine sNx st.1 st.2 (x := xs[i]) (by simp [hi]) fun h' hit' hs' => ?_
    exact hQ _ h' s.toks (by simp [hi]) ⟨hit', st.2.move fun o e => hs'.extBut _ _ hne e⟩ hs'
  done := fun s Q E st hE => sEnd hh st.1 st.2 (by simp) hE
/-- each item in a new pair with its index -/
def Ieg (b : Bool) (K : PySem.W.Frag) (a : Addr) : L2.It :=
  ⟨fun i H => ∃ (xs : List V) (x : V), SqB b K H a xs ∧ xs[i]? = some x,
    fun i H v H' => ∃ T x, v = .ref T ∧ H T = none ∧ H' = upd H T (.tup [.int (i : Nat), x]) ∧ ∀ xs, SqB b K H a xs → xs[i]? = some x,
    fun i H => ∃ xs : List V, SqB b K H a xs ∧ xs.length ≤ i⟩
theorem turn_eg {P : Program} {w : World} {K : PySem.W.Frag} {b : Bool} {elts : List Expr} {kk : Nat} {tpos : Pos} (a e it : Addr) (hai : a ≠ it) (hea : e ≠ a) :
    Turn P w K (.Tuple elts kk tpos) (Ieg b K a) [e, it] e (fun i h => (∃ old, IsEnum h e it ((i : Nat) : Int) old) ∧ sIt b h it a i ∧ e ≠ it) where
  mem := by simp
  obj := fun i h st c hc => by
    obtain ⟨⟨old, he⟩, hi, _⟩ := st
    have e' : c = e ∨ c = it := by simpa using hc
    rcases e' with z | z
    · rw [z]; exact ⟨_, he, fun v q => nomatch q⟩
    · rw [z]; exact hi.obj
  keep := fun i h h' st k => let ⟨⟨old, he⟩, hi, hne⟩ := st; ⟨⟨old, k e (by simp) _ he⟩, hi.move fun o q => k it (by simp) o q, hne⟩
  item := by
    intro X hP hw hK hc i pins s σ H E I hf st hg
    subst hP hw hK
    obtain ⟨⟨old, he⟩, hit, hne⟩ := st
    obtain ⟨xs, x, hq, hx⟩ := hg
    obtain ⟨its, rv, p⟩ := hq.at_ I
    obtain ⟨u, hu, ru⟩ := rv.get hx
    have hel : e < s.heap.objs.size := Heap.lt_size he
    have hil : it < s.heap.objs.size := by obtain ⟨_, q, _⟩ := hit.obj; exact Heap.lt_size q
    have hlt : i < its.toArray.size := by
      have := (List.getElem?_eq_some_iff.mp hu).1
      simpa using this
    have ar : X.A.in1.handled = none := I.ok.hd hc
    refine wpAny_pyNext_enum_itemD (sDraws ar b it a hai its.toArray) he ⟨hit, p⟩ hlt hne (by simp [hne, hea]) fun y h' tk hy ho hit' hT hsz hk => ?_
    have hy : y = u := by
      have : its[i]? = some y := by simpa using hy
      rw [hu] at this; cases this; rfl
    subst hy
    refine ⟨_, rfl, wpAny_letOwnedTupleGo_enum (s := { s with heap := h', toks := tk + 1 }) ho fun h'' he' sb => ?_⟩
    have hT2 : h''.get? s.heap.objs.size = some { cls := .type "tuple", data := .seq #[.int i tk, y] } := (sb.2 _ (Nat.ne_of_gt hel)).trans hT
    have new : ObjOk X.prog X.w (upd H s.heap.objs.size (.tup [.int (i : Nat), x])) h'' s.heap.objs.size (.tup [.int (i : Nat), x]) :=
      ⟨by show 2 ≤ sizeLine; decide, [.int i tk, y], .cons ⟨_, rfl⟩ (.cons ru .nil), ⟨_, hT2, rfl, _, rfl⟩⟩
    have I1 : Inv X pins σ (upd H s.heap.objs.size (.tup [.int (i : Nat), x])) { s with heap := h'', toks := tk + 1 } :=
      I.turnedNew (ch := [e, it]) (fun c ob hb q => (sb.2 c (fun z => hb (by simp [z]))).trans (hk c ob (fun z => hb (by simp [z])) (fun z => hb (by simp [z])) q)) hf (Nat.le_refl _) new
    refine ⟨.ref s.heap.objs.size, _, I1, rfl, ⟨_, x, rfl, I.hok.fresh (Nat.le_refl _), rfl, fun ys hy => by rw [hy.inj I hq]; exact hx⟩, ⟨⟨y, ?_⟩, hit'.1.move fun o q => (sb.2 it (Ne.symm hne)).trans q, hne⟩, fun c hc => ?_⟩
    · have e1 : ((i + 1 : Nat) : Int) = (i : Int) + 1 := by omega
      rw [e1]; exact he'
    · have hb' : c < s.heap.objs.size := by
        have e' : c = e ∨ c = it := by simpa using hc
        rcases e' with z | z
        · rw [z]; exact hel
        · rw [z]; exact hil
      rw [upd_ne (Nat.ne_of_lt hb')]
      exact (hf c hc).1
  done := by
    intro X hP hw hK hc i pins s σ H E I hf st hg
    subst hP hw hK
    obtain ⟨⟨old, he⟩, hit, hne⟩ := st
    obtain ⟨xs, hq, hx⟩ := hg
    obtain ⟨its, rv, p⟩ := hq.at_ I
    obtain ⟨f0, f1, f2, f3, f4, f5⟩ := hf it (by simp)
    have hl := rv.length
    have ar : X.A.in1.handled = none := I.ok.hd hc
    have D : Draws X.prog X.w X.A.in1 it [it, a] 0 (fun _ _ => True) (fun _ h => sIt b h it a i ∧ sOb b h a its.toArray) := {
      live := fun _ _ st => let ⟨o, e, _⟩ := st.1.obj; ⟨o, e⟩
      frame := fun _ _ _ st hk => ⟨st.1.move fun o e => hk it (by simp) o e, st.2.move fun o e => hk a (by simp) o e⟩
      item := fun j _ _ _ hj _ _ => absurd hj (Nat.not_lt_zero j)
      done := fun s Q E st hE => sEnd ar st.1 st.2 (by simp; omega) hE }
    exact wpAny_pyNext_enum_endD D he ⟨hit, p⟩ fun h' eb => ⟨rfl, I.turned (t' := s.toks) (fun b o hb q => eb b o hb q) f0 f1 f3 f4 f5⟩
  self := fun A i s Q E st h => let ⟨⟨_, he⟩, _⟩ := st; wpAny_pyIter_enum he h
def iEg (K : PySem.W.Frag) (ta : TA) : TI := fun σ H R => ta σ H fun vs H1 => ∃ a b xs, vs = [.ref a] ∧ SqB b K H1 a xs ∧ R (Ieg b K a) H1
theorem pi_eg {X : Cx} {e : Expr} {ta : TA} {p pos tpos : Pos} {elts : List Expr} {kk : Nat} (hg : Gl X "enumerate") (hm : X.mg "enumerate" = none) (ha : PA X [e] ta) (hs : starEach [e] X.env = [(false, eval e X.env)] := by rfl) :
    PI X (.Tuple elts kk tpos) (.Call (.Name "enumerate" p) [e] [] pos) (iEg X.K ta) := by
  refine ⟨fun pins s σ H R I h => ?_⟩
  refine Call_ (ld_blt I hg hm boot_enumerate (PyProof.Rows.callWith_type1 (thn (ha.run pos pins s σ H _ I h) fun us s1 ⟨vs, H1, I1, r1, q1⟩ => ?_) hs rfl))
  obtain ⟨a, b, xs, ex, hq, q⟩ := q1
  subst ex
  cases r1 with
  | cons r rr =>
    cases rr
    cases r
    obtain ⟨its, rv, p'⟩ := hq.at_ I1
    have al := p'.lt
    refine call_eg p' fun h' he hit hk => wpAny_pyIter_enum he ?_
    have I2 : Inv X pins σ H1 { s1 with heap := h' } := I1.kept (t' := s1.toks) hk
    refine ⟨s1.heap.objs.size + 1, [s1.heap.objs.size + 1, s1.heap.objs.size], _, _, H1, rfl, I2, turn_eg a (s1.heap.objs.size + 1) s1.heap.objs.size (Nat.ne_of_lt al) (Nat.ne_of_gt (Nat.lt_succ_of_lt al)), ⟨⟨.none, he⟩, hit, Nat.succ_ne_self _⟩, fun b hb => ?_, q⟩
    have e' : b = s1.heap.objs.size + 1 ∨ b = s1.heap.objs.size := by simpa using hb
    have hle : s1.heap.objs.size ≤ b := by
      rcases e' with z | z
      · rw [z]; exact Nat.le_add_right _ _
      · rw [z]; exact Nat.le_refl _
    exact I1.fpOk hle (I1.hok.fresh hle)
end GS
-- GsEv8
namespace GS
open PySem PySem.Spec PyProof.Rows L2

-- GsEv8
theorem PE.imp {X : Cx} {e : Expr} {t t' : TE} (p : PE X e t) (h : ∀ σ H Q, t' σ H Q → t σ H Q) : PE X e t' := ⟨fun pins s σ H Q I hw => p.run pins s σ H Q I (h σ H Q hw)⟩
theorem PT.imp {X : Cx} {e : Expr} {t t' : TT} (p : PT X e t) (h : ∀ σ H Q, t' σ H Q → t σ H Q) : PT X e t' := ⟨fun pins s σ H Q I hw => p.run pins s σ H Q I (h σ H Q hw)⟩
theorem PW.imp {X : Cx} {e : Expr} {t t' : TT} (p : PW X e t) (h : ∀ σ H Q, t' σ H Q → t σ H Q) : PW X e t' := ⟨fun wh pins s σ H Q I hw => p.run wh pins s σ H Q I (h σ H Q hw)⟩
theorem PA.imp {X : Cx} {e : List Expr} {t t' : TA} (p : PA X e t) (h : ∀ σ H Q, t' σ H Q → t σ H Q) : PA X e t' := ⟨fun pos pins s σ H Q I hw => p.run pos pins s σ H Q I (h σ H Q hw)⟩
theorem PO.imp {X : Cx} {e : Option Expr} {t t' : TO} (p : PO X e t) (h : ∀ σ H Q, t' σ H Q → t σ H Q) : PO X e t' := ⟨fun pins s σ H Q I hw => p.run pins s σ H Q I (h σ H Q hw)⟩
theorem PI.imp {X : Cx} {tg e : Expr} {t t' : TI} (p : PI X tg e t) (h : ∀ σ H Q, t' σ H Q → t σ H Q) : PI X tg e t' := ⟨fun pins s σ H Q I hw => p.run pins s σ H Q I (h σ H Q hw)⟩
theorem PS.imp {X : Cx} {e : Stmt} {t t' : TS} (p : PS X e t) (h : ∀ D σ H, t' D σ H → t D σ H) : PS X e t' := ⟨fun pins s σ H D I hw => p.run pins s σ H D I (h D σ H hw)⟩
theorem PSs.imp {X : Cx} {e : List Stmt} {t t' : TS} (p : PSs X e t) (h : ∀ D σ H, t' D σ H → t D σ H) : PSs X e t' := ⟨fun pins s σ H D I hw => p.run pins s σ H D I (h D σ H hw)⟩
theorem PTs.imp {X : Cx} {e : List Expr} {t t' : TT} (p : PTs X e t) (h : ∀ σ H Q, t' σ H Q → t σ H Q) : PTs X e t' := ⟨fun pins s σ H Q I hw => p.run pins s σ H Q I (h σ H Q hw)⟩

/-- a list of ours or a tuple -/
inductive SR (K : PySem.W.Frag) (m : Mp) (H : Hp) : W → Bool → Addr → Prop
  | obj {n : Nat} {a : Addr} : m n = some a → SR K m H (.obj n) false a
  | tup {ws : List W} {vs : List V} {a : Addr} : SqT K H a vs → RWs K m H ws vs → SR K m H (.tup ws) true a
theorem SR.mono {K : PySem.W.Frag} {G : Gl0} {m m' : Mp} {h : Hs} {H H' : Hp} (hr : HR K G m h H) (s : Stp m H m' H') {w : W} {b : Bool} {a : Addr} (q : SR K m H w b a) : SR K m' H' w b a := by
  cases q with
  | obj e => exact .obj (s.le _ _ e)
  | tup s1 r1 => exact .tup (hr.sqt s s1) (hr.rws s r1)
theorem SR.seq {K : PySem.W.Frag} {G : Gl0} {m : Mp} {h : Hs} {H : Hp} {w : W} {b : Bool} {a : Addr} {ws : List W} (hr : HR K G m h H) (q : SR K m H w b a) (e : seqOf h w = some ws) : ∃ vs, SqB b K H a vs ∧ RWs K m H ws vs := by
  cases q with
  | obj z =>
    simp only [seqOf] at e
    split at e
    · rename_i us hu
      cases e
      obtain ⟨vs, f1, rs⟩ := hr.lst z hu
      exact ⟨vs, (SqL.of f1 : SqL K H a vs), rs⟩
    · cases e
  | tup s1 r1 => simp only [seqOf, Option.some.injEq] at e; subst e; exact ⟨_, s1, r1⟩
section
variable (K : PySem.W.Frag) (G : Gl0) (E : XK)
def OkA (m : Mp) (H : Hp) (Q : List V → Hp → Prop) : List W → Hs → Prop := fun ws h' => ∀ m' H' xs, Stp m H m' H' → HR K G m' h' H' → RWs K m' H' ws xs → Q xs H'
def TRA (r : Env → Hs → R (List W)) : TA := fun σ H Q => ∃ m v h, FR K m H v σ ∧ HR K G m h H ∧ (r v h).post (OkA K G m H Q) (ExP K G E m H)
/-- any plain result -/
def OkB {α : Type} (m : Mp) (H : Hp) (Q : α → Hp → Prop) : α → Hs → Prop := fun a h' => ∀ m' H', Stp m H m' H' → HR K G m' h' H' → Q a H'
def TRT (r : Env → Hs → R Bool) : TT := fun σ H Q => ∃ m v h, FR K m H v σ ∧ HR K G m h H ∧ (r v h).post (OkB K G m H Q) (ExP K G E m H)
def TRO (r : Env → Hs → R (Option Int)) : TO := fun σ H Q => ∃ m v h, FR K m H v σ ∧ HR K G m h H ∧ (r v h).post (OkB K G m H Q) (ExP K G E m H)
/-- what a loop walks -/
inductive JR (m : Mp) (H : Hp) : ItV → L2.It → Prop
  | l {n : Nat} {a : Addr} : m n = some a → JR m H (.sq (.obj n)) (Itl K a)
  | t {ws : List W} {vs : List V} {a : Addr} : SqT K H a vs → RWs K m H ws vs → JR m H (.sq (.tup ws)) (Itt K a)
  | r (lo : Int) (n : Nat) : JR m H (.rg lo n) (Itr lo n)
  | e {w : W} {b : Bool} {a : Addr} : SR K m H w b a → JR m H (.en w) (Ieg b K a)
  | zg {w1 w2 : W} {b1 b2 : Bool} {a b : Addr} : SR K m H w1 b1 a → SR K m H w2 b2 b → JR m H (.zp w1 w2) (Izg b1 b2 K a b)
def OkI (m : Mp) (H : Hp) (R : L2.It → Hp → Prop) : ItV → Hs → Prop := fun I h' => ∀ m' H' J, Stp m H m' H' → HR K G m' h' H' → JR K m' H' I J → R J H'
def TRI (r : Env → Hs → R ItV) : TI := fun σ H R => ∃ m v h, FR K m H v σ ∧ HR K G m h H ∧ (r v h).post (OkI K G m H R) (ExP K G E m H)
/-- how a suite ends -/
def FlP (m : Mp) (H : Hp) (D : Ends) : Fl → Hs → Prop := fun f h' => ∀ m' H', Stp m H m' H' → HR K G m' h' H' → match f with
  | .nx v => ∀ σ, FR K m' H' v σ → D.nx σ H'
  | .rt w => ∀ x, RW K m' H' w x → D.rt x H'
  | .bk v => ∀ σ, FR K m' H' v σ → D.bk σ H'
  | .ct v => ∀ σ, FR K m' H' v σ → D.ct σ H'
def TRS (r : Env → Hs → R Fl) : TS := fun D σ H => ∃ m v h, FR K m H v σ ∧ HR K G m h H ∧ (r v h).post (FlP K G m H D) (ExP K G E m H)
end
section
variable {K : PySem.W.Frag} {G : Gl0} {E : XK} {m m' : Mp} {h : Hs} {H H' : Hp} {v : Env} {σ : L2.St}
theorem OkA.later {Q : List V → Hp → Prop} (s : Stp m H m' H') : ∀ a h, OkA K G m H Q a h → OkA K G m' H' Q a h := fun a h p m2 H2 xs s2 r2 q => p m2 H2 xs (s.trans s2) r2 q
theorem OkB.later {α : Type} {Q : α → Hp → Prop} (s : Stp m H m' H') : ∀ a h, OkB K G m H Q a h → OkB K G m' H' Q a h := fun a h p m2 H2 s2 r2 => p m2 H2 (s.trans s2) r2
theorem OkI.later {R : L2.It → Hp → Prop} (s : Stp m H m' H') : ∀ a h, OkI K G m H R a h → OkI K G m' H' R a h := fun a h p m2 H2 J s2 r2 q => p m2 H2 J (s.trans s2) r2 q
theorem FlP.later {D : Ends} (s : Stp m H m' H') : ∀ a h, FlP K G m H D a h → FlP K G m' H' D a h := fun a h p m2 H2 s2 r2 => p m2 H2 (s.trans s2) r2
theorem JR.mono (hr : HR K G m h H) (s : Stp m H m' H') {I : ItV} {J : L2.It} (q : JR K m H I J) : JR K m' H' I J := by
  cases q with
  | l e => exact .l (s.le _ _ e)
  | t st rs => exact .t (hr.sqt s st) (hr.rws s rs)
  | r lo n => exact .r lo n
  | e e => exact .e (e.mono hr s)
  | zg e1 e2 => exact .zg (e1.mono hr s) (e2.mono hr s)
/-- lists of one address are one -/
theorem sqL_of {a : Addr} {vs xs : List V} (e : H a = some (.lst vs)) (q : Rd H a (.lst xs)) : xs = vs := by
  rcases q with q | ⟨o, q⟩
  · rw [e] at q; cases q; rfl
  · rw [e] at q; cases q
end
-- GsEv8
section
variable {K : PySem.W.Frag} {G : Gl0} {m : Mp} {h : Hs} {H : Hp}
theorem JR.stop {I : ItV} {J : L2.It} {i : Nat} (hr : HR K G m h H) (q : JR K m H I J) (e : itAt I i h = some none) : J.stop i H := by
  cases q with
  | @l n a e1 =>
    simp only [itAt, seqOf] at e
    split at e
    · rename_i ws hw
      split at hw
      · rename_i us hu
        cases hw
        obtain ⟨vs, e2, rs⟩ := hr.lst e1 hu
        refine ⟨vs, .of e2, ?_⟩
        rw [← rs.length]
        have e : ws[i]? = none := by simpa using e
        simpa using e
      · cases hw
    · cases e
  | t st rs =>
    simp only [itAt, seqOf, Option.some.injEq] at e
    refine ⟨_, st, ?_⟩
    rw [← rs.length]
    simpa using e
  | r lo n =>
    simp only [itAt, Option.some.injEq] at e
    show n ≤ i
    split at e
    · cases e
    · omega
  | e e1 =>
    simp only [itAt] at e
    split at e
    · rename_i ws hw
      obtain ⟨vs, f1, rs⟩ := e1.seq hr hw
      refine ⟨vs, f1, ?_⟩
      rw [← rs.length]
      cases hg : ws[i]? with
      | none => simpa using hg
      | some x => rw [hg] at e; cases e
    · cases e
  | zg e1 e2 =>
    simp only [itAt] at e
    split at e
    · rename_i ws us hw hu
      obtain ⟨vs, f1, rs⟩ := e1.seq hr hw
      obtain ⟨xs, f2, r2⟩ := e2.seq hr hu
      refine ⟨vs, xs, f1, f2, ?_⟩
      rw [← rs.length, ← r2.length]
      cases hg : ws[i]? with
      | none => exact .inl (by simpa using hg)
      | some x =>
        cases hg2 : us[i]? with
        | none => exact .inr (by simpa using hg2)
        | some y => rw [hg, hg2] at e; cases e
    · cases e
/-- at a turn -/
theorem pairT {H : Hp} {x y : V} {w u : W} {T : Addr} (hr : HR K G m h H) (hT : H T = none) (q : RW K m H w x) (q2 : RW K m H u y) :
    Stp m H m (upd H T (.tup [x, y])) ∧ HR K G m h (upd H T (.tup [x, y])) ∧ RW K m (upd H T (.tup [x, y])) (.tup [w, u]) (.ref T) :=
  ⟨.tup hT, hr.tup hT, .tup (.of upd_same) (.cons (hr.rw (.tup hT) q) (.cons (hr.rw (.tup hT) q2) .nil))⟩
theorem JR.go {I : ItV} {J : L2.It} {i : Nat} {w : W} (hr : HR K G m h H) (q : JR K m H I J) (e : itAt I i h = some (some w)) :
    J.go i H ∧ ∀ x H', J.yld i H x H' → Stp m H m H' ∧ HR K G m h H' ∧ RW K m H' w x := by
  cases q with
  | @l n a e1 =>
    simp only [itAt, seqOf] at e
    split at e
    · rename_i ws hw
      split at hw
      · rename_i us hu
        cases hw
        obtain ⟨vs, e2, rs⟩ := hr.lst e1 hu
        have e : ws[i]? = some w := by simpa using e
        obtain ⟨x1, hx1, q1⟩ := rs.get e
        refine ⟨⟨vs, x1, .of e2, hx1⟩, fun x H' ⟨eH, hall⟩ => ?_⟩
        subst eH
        have := hall vs (.of e2)
        rw [hx1] at this
        cases this
        exact ⟨.refl, hr, q1⟩
      · cases hw
    · cases e
  | @t ws vs a st rs =>
    simp only [itAt, seqOf, Option.some.injEq] at e
    obtain ⟨x1, hx1, q1⟩ := rs.get e
    refine ⟨⟨vs, x1, st, hx1⟩, fun x H' ⟨eH, hall⟩ => ?_⟩
    subst eH
    have := hall vs st
    rw [hx1] at this
    cases this
    exact ⟨.refl, hr, q1⟩
  | r lo n =>
    simp only [itAt, Option.some.injEq] at e
    split at e
    · rename_i hi
      cases e
      refine ⟨hi, fun x H' ⟨eH, ex⟩ => ?_⟩
      subst eH; subst ex
      exact ⟨.refl, hr, .int _⟩
    · cases e
  | e e1 =>
    simp only [itAt] at e
    split at e
    · rename_i ws hw
      obtain ⟨vs, f1, rs⟩ := e1.seq hr hw
      cases hg : ws[i]? with
      | none => rw [hg] at e; cases e
      | some y =>
        rw [hg] at e
        cases e
        obtain ⟨x1, hx1, q1⟩ := rs.get hg
        refine ⟨⟨vs, x1, f1, hx1⟩, fun x H' ⟨T, x2, ex, hT, eH, hall⟩ => ?_⟩
        have := hall vs f1
        rw [hx1] at this
        cases this
        subst ex; subst eH
        exact pairT hr hT (.int _) q1
    · cases e
  | zg e1 e2 =>
    simp only [itAt] at e
    split at e
    · rename_i ws us hw hu
      obtain ⟨vs, f1, rs⟩ := e1.seq hr hw
      obtain ⟨xs, f2, r2⟩ := e2.seq hr hu
      cases hg : ws[i]? with
      | none => rw [hg] at e; cases e
      | some x =>
        cases hg2 : us[i]? with
        | none => rw [hg, hg2] at e; cases e
        | some y =>
          rw [hg, hg2] at e
          cases e
          obtain ⟨x1, hx1, q1⟩ := rs.get hg
          obtain ⟨y1, hy1, q2⟩ := r2.get hg2
          refine ⟨⟨vs, xs, x1, y1, f1, f2, hx1, hy1⟩, fun z H' ⟨T, x2, y2, ex, hT, eH, ha, hb⟩ => ?_⟩
          have z1 := ha vs f1
          have z2 := hb xs f2
          rw [hx1] at z1; cases z1
          rw [hy1] at z2; cases z2
          subst ex; subst eH
          exact pairT hr hT q1 q2
    · cases e
end
end GS
-- GsFork
namespace GS
open PySem PySem.Spec PyProof.Rows L2
section
variable {K : PySem.W.Frag} {G : Gl0} {E : XK} {m m' : Mp} {h h' : Hs} {H H' : Hp} {v : Env} {σ : L2.St}
theorem set_same {v : Env} {σ : L2.St} (fr : FR K m H v σ) {i : Nat} {w : W} {x : V} (e : σ[i]? = some (some x)) (q : RW K m H w x) : FR K m H (v.set i (some w)) σ := by
  refine ⟨by rw [List.length_set]; exact fr.len, fun j u ej => ?_⟩
  by_cases hj : i = j
  · subst hj
    by_cases hl : i < v.length
    · rw [List.getElem?_set_self hl] at ej
      cases ej
      exact ⟨x, e, q⟩
    · rw [List.getElem?_eq_none (by simpa using hl)] at ej; cases ej
  · rw [List.getElem?_set_ne hj] at ej
    exact fr.at_ j u ej
theorem splits_fr : ∀ {is : List Nat} {v : Env}, FR K m H v σ → ∃ vs : Env, vs ∈ splits is v ∧ FR K m H vs σ ∧ vs.length = v.length ∧ ∀ (i : Nat) (w : W), v[i]? = some (some w) → ∃ w' : W, vs[i]? = some (some w') ∧
    ∀ (m' : Mp) (H' : Hp) (x : V), (∀ n a, m n = some a → m' n = some a) → RW K m' H' w' x → RW K m' H' w x
  | [], v, fr => ⟨v, by simp [splits], fr, rfl, fun i w e => ⟨w, e, fun _ _ _ _ q => q⟩⟩
  | i :: is, v, fr => by
    unfold splits
    split
    · rename_i ws e
      obtain ⟨x, ex, q⟩ := fr.at_ _ _ e
      cases q with
      | @ch _ w0 _ hm hd q =>
        obtain ⟨vs, h1, h2, h3, h4⟩ := splits_fr (is := is) (set_same fr ex q)
        refine ⟨vs, List.mem_flatMap.mpr ⟨w0, hm, h1⟩, h2, by rw [h3, List.length_set], fun j w ej => ?_⟩
        by_cases hj : i = j
        · subst hj
          rw [e] at ej
          cases ej
          have hl : i < v.length := (List.getElem?_eq_some_iff.mp e).1
          obtain ⟨w', e', k⟩ := h4 i w0 (List.getElem?_set_self hl)
          exact ⟨w', e', fun m' H' x hm' q => .ch hm (W.doms.mono hm' hd) (k m' H' x hm' q)⟩
        · exact h4 j w (by rw [List.getElem?_set_ne hj]; exact ej)
    · exact splits_fr fr
theorem keeps_get (hl : h.c.length = h.n) (hl' : h'.c.length = h'.n) (e : h.keeps h' = true) : h.n ≤ h'.n ∧ ∀ n, n < h.n → h'.get n = h.get n := by
  unfold Hs.keeps at e
  rw [Bool.and_eq_true] at e
  have h1 := Nat.le_of_ble_eq_true e.1
  have h2 := osSame_eq e.2
  refine ⟨h1, fun n hn => ?_⟩
  unfold Hs.get
  rw [if_pos (show n < h'.n by omega), if_pos hn, ← h2, List.getElem?_drop]
  congr 1
  omega
theorem stp_keep (s : Stp m H m' H') : Stp m H m H' where
  le := fun _ _ e => e
  kp := s.kp
  fr := fun _ _ e => .inl e
  al := s.al
  ko := s.ko
theorem KR.back (hm : ∀ n a, m n = some a → m' n = some a) {kvs : List (W × W)} {ks ks0 : List (List Key × V)} {H0 : Hp} (q : KR K m' H' kvs ks) (q0 : KR K m H0 kvs ks0) : KR K m H' kvs ks := by
  induction q generalizing ks0 with
  | nil => exact .nil
  | cons k r _ ih => cases q0 with | cons _ r0 q0 => exact .cons k (r.back hm r0.dom) (ih q0)
theorem KN.back (hm : ∀ n a, m n = some a → m' n = some a) {kvs : List (W × W)} {ks ks0 : List (Key × V)} {H0 : Hp} (q : KN K m' H' kvs ks) (q0 : KN K m H0 kvs ks0) : KN K m H' kvs ks := by
  induction q generalizing ks0 with
  | nil => exact .nil
  | cons k r _ ih => cases q0 with | cons _ r0 q0 => exact .cons k (r.back hm r0.dom) (ih q0)
theorem hr_keep (hr : HR K G m h H) (s : Stp m H m' H') (hr' : HR K G m' h' H') (e : h.keeps h' = true) : HR K G m h H' where
  len := hr.len
  dom := hr.dom
  dom' := hr.dom'
  inj := hr.inj
  ob := fun n a o en eo => by
    obtain ⟨_, hg⟩ := keeps_get hr.len hr'.len e
    have eo' : h'.get n = some o := by rw [hg n (hr.dom' n a en)]; exact eo
    have r := hr'.ob n a o (s.le _ _ en) eo'
    have r0 := hr.ob n a o en eo
    cases o with
    | lst ws =>
      obtain ⟨vs, e1, q⟩ := r
      obtain ⟨_, _, q0⟩ := r0
      exact ⟨vs, e1, q.back s.le q0.doms⟩
    | bag => exact r
    | ins c fs =>
      obtain ⟨C, dx, us, hc, sl, d, q⟩ := r
      obtain ⟨_, _, _, _, _, _, q0⟩ := r0
      refine ⟨C, dx, us, hc, sl, d, fun i w hi => ?_⟩
      obtain ⟨v, e1, r1⟩ := q i w hi
      obtain ⟨_, _, r2⟩ := q0 i w hi
      exact ⟨v, e1, r1.back s.le r2.dom⟩
    | dct kvs =>
      obtain ⟨ks, e1, q⟩ := r
      obtain ⟨_, _, q0⟩ := r0
      exact ⟨ks, e1, q.back s.le q0⟩
    | dk kvs =>
      obtain ⟨ks, e1, q⟩ := r
      obtain ⟨_, _, q0⟩ := r0
      exact ⟨ks, e1, q.back s.le q0⟩
  tab := hr'.tab
theorem oneW_all {w : W} : ∀ {l : List (R W)}, oneW h l = some w → ∀ r, r ∈ l → ∃ h', r = .ok w h' ∧ w.pure = true ∧ h.keeps h' = true
  | [], e, _, hm => by cases hm
  | [.ok u h'], e, r, hm => by
    simp only [oneW] at e
    split at e
    · rename_i hc
      cases e
      rw [Bool.and_eq_true] at hc
      rw [List.mem_singleton] at hm
      exact ⟨h', hm, hc.1, hc.2⟩
    · cases e
  | .ok u h' :: r2 :: l, e, r, hm => by
    simp only [oneW] at e
    split at e
    · rename_i hc
      rw [Bool.and_eq_true] at hc
      split at e
      · rename_i w2 e2
        split at e
        · rename_i hs
          cases e
          have hu := W.same_eq hs
          subst hu
          rcases List.mem_cons.mp hm with rfl | hm
          · exact ⟨h', rfl, hc.1, hc.2⟩
          · exact oneW_all (l := r2 :: l) e2 r hm
        · cases e
      · cases e
    · cases e
  | .ex _ _ _ :: _, e, _, _ => by simp [oneW] at e
  | .no :: _, e, _, _ => by simp [oneW] at e
  | .dr _ _ :: _, e, _, _ => by simp [oneW] at e
theorem fork_e {r : Env → Hs → R W} {is : List Nat} {Q : VK} (q : TR K G E (fun v h => match oneW h ((splits is v).map fun v => r v h) with
    | some w => .ok w h
    | none => .no) σ H Q) : TR K G E r σ H Q := by
  obtain ⟨m, v, h, fr, hr, p⟩ := q
  dsimp only at p
  split at p
  · rename_i w e
    obtain ⟨vs, hm, f2, _, _⟩ := splits_fr (is := is) fr
    obtain ⟨h', e1, hp, hk⟩ := oneW_all e _ (List.mem_map.mpr ⟨vs, hm, rfl⟩)
    refine ⟨m, vs, h, f2, hr, ?_⟩
    rw [e1]
    exact fun m' H' x s hr' q => p m H' x (stp_keep s) (hr_keep hr s hr' hk) (q.ofPure (fun _ _ _ z => z) hp)
  · exact p.elim
theorem FO.same_eq {a b : FO} (h : a.same b = true) : a = b := by
  cases a <;> cases b <;> first
    | rfl
    | (simp [FO.same] at h; done)
    | (simp only [FO.same] at h; rw [W.same_eq h])
theorem oneF_all {own : List Nat} {f : Env → R Fl} {o : FO} : ∀ {l : List Env}, oneF own h f l = some o → ∀ v, v ∈ l → flOut own v h (f v) = some o
  | [], e, _, hm => by cases hm
  | [u], e, v, hm => by rw [List.mem_singleton] at hm; rw [hm]; exact e
  | u :: u2 :: l, e, v, hm => by
    simp only [oneF] at e
    split at e
    · rename_i a ea
      split at e
      · rename_i b eb
        split at e
        · rename_i hs
          cases e
          have hu := FO.same_eq hs
          subst hu
          rcases List.mem_cons.mp hm with rfl | hm
          · exact ea
          · exact oneF_all (l := u2 :: l) eb v hm
        · cases e
      · cases e
    · cases e
theorem envSame_at {own : List Nat} : ∀ {k : Nat} {v v' : Env}, envSame own k v v' = true → v.length = v'.length ∧ ∀ i w, (k + i) ∉ own → v[i]? = some (some w) → v'[i]? = some (some w)
  | _, [], [], _ => ⟨rfl, fun i w _ e => by simp at e⟩
  | _, [], _ :: _, e => by simp [envSame] at e
  | _, _ :: _, [], e => by simp [envSame] at e
  | k, a :: v, b :: v', e => by
    unfold envSame at e
    rw [Bool.and_eq_true, Bool.or_eq_true] at e
    obtain ⟨hl, hs⟩ := envSame_at e.2
    refine ⟨by simp [hl], fun i w hi ei => ?_⟩
    cases i with
    | zero =>
      simp only [List.getElem?_cons_zero, Option.some.injEq] at ei
      subst ei
      rcases e.1 with z | z
      · exact absurd (by simpa using z) hi
      · cases b with
        | none => simp at z
        | some u => simp only [List.getElem?_cons_zero]; rw [W.same_eq z]
    | succ i =>
      rw [List.getElem?_cons_succ] at ei ⊢
      exact hs i w (by rw [show k + 1 + i = k + (i + 1) by omega]; exact hi) ei
theorem wipeE_at {i : Nat} {w : W} : ∀ {own : List Nat} {v : Env}, (wipeE v own)[i]? = some (some w) → i ∉ own ∧ v[i]? = some (some w)
  | [], _, e => ⟨List.not_mem_nil, e⟩
  | j :: own, v, e => by
    unfold wipeE at e
    by_cases hj : j = i
    · subst hj
      by_cases hl : j < (wipeE v own).length
      · rw [List.getElem?_set_self hl] at e; cases e
      · rw [List.getElem?_eq_none (by simpa using hl)] at e; cases e
    · rw [List.getElem?_set_ne hj] at e
      obtain ⟨h1, h2⟩ := wipeE_at e
      exact ⟨fun z => by rcases List.mem_cons.mp z with z | z; exact hj z.symm; exact h1 z, h2⟩
theorem wipeE_len {v : Env} : ∀ {own : List Nat}, (wipeE v own).length = v.length
  | [] => rfl
  | j :: own => by unfold wipeE; rw [List.length_set]; exact wipeE_len
theorem fork_s {rb rr : Env → Hs → R Fl} {is own : List Nat} {D : Ends} {t : TS} (ht : ∀ σ H, TRS K G E rr D σ H → t D σ H) (q : TRS K G E (fun v h => match oneF own h (fun v => rb v h) (splits is v) with
    | some .nx => rr (wipeE v own) h
    | some (.rt w) => .ok (.rt w) h
    | none => .no) D σ H) : TRS K G E rb { D with nx := t D } σ H := by
  obtain ⟨m, v, h, fr, hr, p⟩ := q
  obtain ⟨vs, hm, f2, hl2, hw2⟩ := splits_fr (is := is) fr
  refine ⟨m, vs, h, f2, hr, ?_⟩
  dsimp only at p
  split at p
  · rename_i e
    have e1 := oneF_all e _ hm
    unfold flOut at e1
    split at e1
    · rename_i v' h' er
      split at e1
      · rename_i hc
        rw [Bool.and_eq_true] at hc
        obtain ⟨hl, hs⟩ := envSame_at hc.1
        rw [er]
        refine fun m' H' s hr' σ' f' => ht _ _ ⟨m, wipeE v own, h, ⟨?_, fun i w ei => ?_⟩, hr_keep hr s hr' hc.2, later (stp_keep s) (FlP.later (stp_keep s)) p⟩
        · rw [wipeE_len, ← f'.len, ← hl, hl2]
        · obtain ⟨hi, ev⟩ := wipeE_at ei
          obtain ⟨w', e', k⟩ := hw2 i w ev
          obtain ⟨x, ex, qx⟩ := f'.at_ i w' (hs i w' (by simpa using hi) e')
          obtain ⟨x0, _, q0⟩ := fr.at_ i w ev
          exact ⟨x, ex, (k m' H' x s.le qx).back s.le q0.dom⟩
      · cases e1
    · split at e1 <;> cases e1
    · cases e1
  · rename_i w e
    have e1 := oneF_all e _ hm
    unfold flOut at e1
    split at e1
    · split at e1 <;> cases e1
    · rename_i w' h' er
      split at e1
      · rename_i hc
        cases e1
        rw [Bool.and_eq_true] at hc
        rw [er]
        exact fun m' H' s hr' x q => p m H' (stp_keep s) (hr_keep hr s hr' hc.2) x (q.ofPure (fun _ _ _ z => z) hc.1)
      · cases e1
    · cases e1
  · exact p.elim
end
end GS
-- GsDk
namespace GS
open PySem PySem.Spec PyProof.Rows L2
section
variable {K : PySem.W.Frag} {G : Gl0} {m m' : Mp} {h h' : Hs} {H H' : Hp}
theorem key_of_flat {w : W} {x : V} (q : RW K m H w x) (hf : flatW w = true) : ∃ k, keyRel w k ∧ x = kV k := by
  cases q <;> first
    | exact ⟨_, rfl, rfl⟩
    | cases hf
theorem eqFlat_iff {a b : W} {k l : Key} (h1 : keyRel a k) (h2 : keyRel b l) : eqFlat a b = decide (k = l) := by
  cases a <;> first
    | exact (show False from h1).elim
    | skip
  all_goals
    cases b <;> first
      | exact (show False from h2).elim
      | skip
  all_goals
    have h1 : k = _ := h1
    have h2 : l = _ := h2
    subst h1 h2
    simp [eqFlat]
theorem kn_get {kvs : List (W × W)} {ks : List (Key × V)} (r : KN K m H kvs ks) {k w : W} {kk : Key} (hk : keyRel k kk) (e : dkGet kvs k = some w) : ∃ v, valV ks kk = some v ∧ RW K m H w v := by
  induction r with
  | nil => cases e
  | @cons a u x v r s ha q _ ih =>
    simp only [dkGet] at e
    rw [eqFlat_iff ha hk] at e
    by_cases hx : x = kk
    · rw [if_pos (by simpa using hx)] at e
      cases e
      exact ⟨v, by rw [valV_pos hx], q⟩
    · rw [if_neg (by simpa using hx)] at e
      obtain ⟨v', e1, q1⟩ := ih e
      exact ⟨v', by rw [valV_neg hx]; exact e1, q1⟩
theorem kn_any {kvs : List (W × W)} {ks : List (Key × V)} (r : KN K m H kvs ks) {k : W} {kk : Key} (hk : keyRel k kk) : kvs.any (fun p => eqFlat p.1 k) = ks.any fun kv => decide (kv.1 = kk) := by
  induction r with
  | nil => rfl
  | cons ha _ _ ih => rw [List.any_cons, List.any_cons, ih, eqFlat_iff ha hk]
theorem kn_put {kvs : List (W × W)} {ks : List (Key × V)} (r : KN K m H kvs ks) {k w : W} {kk : Key} {v : V} (hk : keyRel k kk) (q : RW K m H w v) : KN K m H (dkPut kvs k w) (putK ks kk v) := by
  have h1 : KN K m H (kvs.map fun p => if eqFlat p.1 k = true then (p.1, w) else p) (ks.map fun kv => if kv.1 = kk then (kv.1, v) else kv) := by
    induction r with
    | nil => exact .nil
    | @cons a u x y r s ha qa _ ih =>
      rw [List.map_cons, List.map_cons]
      rw [show (if eqFlat a k = true then (a, w) else (a, u)) = if x = kk then (a, w) else (a, u) by rw [eqFlat_iff ha hk]; simp]
      by_cases hx : x = kk
      · rw [if_pos hx, if_pos hx]; exact .cons ha q ih
      · rw [if_neg hx, if_neg hx]; exact .cons ha qa ih
  have h2 : KN K m H (kvs ++ [(k, w)]) (ks ++ [(kk, v)]) := by
    clear h1
    induction r with
    | nil => exact .cons hk q .nil
    | cons ha qa _ ih => exact .cons ha qa ih
  unfold dkPut putK
  rw [kn_any r hk]
  split
  · exact h1
  · exact h2
theorem kn_len {kvs : List (W × W)} {ks : List (Key × V)} (r : KN K m H kvs ks) : kvs.length = ks.length := by
  induction r with
  | nil => rfl
  | cons _ _ _ ih => simp [ih]
theorem KN.mapW {kvs : List (W × W)} {ks : List (Key × V)} (f : ∀ w x, RW K m H w x → RW K m' H' w x) (r : KN K m H kvs ks) : KN K m' H' kvs ks := by
  induction r with
  | nil => exact .nil
  | cons k q _ ih => exact .cons k (f _ _ q) ih
theorem Stp.setO {n : Nat} {a : Addr} {u : HO} (e : m n = some a) (hu : ∀ ps, u ≠ .tbl ps) : Stp m H m (upd H a u) where
  le := fun _ _ e => e
  kp := fun b x eb hn _ _ => by rw [upd_ne]; exact eb; intro z; subst z; exact hn n e
  fr := fun _ _ e => .inl e
  al := fun b x eb nt => by
    by_cases hb : b = a
    · exact ⟨_, by rw [hb, upd_same], hu⟩
    · exact ⟨x, by rw [upd_ne hb]; exact eb, nt⟩
  ko := fun b y eb hn => .inl (by rw [upd_ne]; exact eb; intro z; subst z; exact hn n e)
theorem HR.setK (hr : HR K G m h H) {n : Nat} {a : Addr} {ks ls : List (Key × V)} {kvs : List (W × W)} (e : m n = some a) (hq : H a = some (.dK ks)) (q : KN K m H kvs ls) : HR K G m (h.set n (.dk kvs)) (upd H a (.dK ls)) where
  len := by simp [Hs.set, hr.len]
  dom := hr.dom
  dom' := hr.dom'
  inj := hr.inj
  ob := fun i b o ei qi => by
    rw [get_set hr.len (hr.dom' n a e) i (hr.dom' i b ei)] at qi
    have st : Stp m H m (upd H a (.dK ls)) := .setO e fun ps z => by cases z
    split at qi
    · rename_i hi
      subst hi
      rw [e] at ei; cases ei; cases qi
      exact ⟨ls, upd_same, q.mapW fun _ _ z => hr.rw st z⟩
    · rename_i hi
      have hb : b ≠ a := fun z => by subst z; exact hi (hr.inj i n b ei e)
      exact (hr.ob i b o ei qi).step hr st (by rw [upd_ne hb])
  tab := tabs_upd hr.tab fun u eu => by rw [hq] at eu; cases eu; exact .inr (.inr ⟨_, rfl⟩)
theorem dix_run {E : XK} {Q : VK} (hr : HR K G m h H) {w k : W} {x y : V} (q1 : RW K m H w x) (q2 : RW K m H k y) (p : (dixW w k h).post (OkP K G m H Q) (ExP K G E m H)) : ∃ a v, x = .ref a ∧ DGet H a y (some v) ∧ Q v H := by
  cases q1 <;> try exact (show False from p).elim
  rename_i n a e
  simp only [dixW] at p
  split at p
  · rename_i kvs hk
    obtain ⟨hf, p⟩ := post_if p
    obtain ⟨ks, e1, r⟩ := hr.ob _ _ _ e hk
    obtain ⟨kk, hkr, rfl⟩ := key_of_flat q2 hf
    cases hg : dkGet kvs k with
    | none => rw [hg] at p; exact p.elim
    | some w =>
      rw [hg] at p
      obtain ⟨v, ev, qv⟩ := kn_get r hkr hg
      exact ⟨a, v, rfl, .inl ⟨ks, kk, .inl e1, rfl, ev.symm⟩, ok_val hr qv p⟩
  · exact p.elim
theorem dset_run {α : Type} {f : Hs → R α} {Qo : α → Hs → Prop} {Qe : Nat → W → Hs → Prop} (hr : HR K G m h H) {w k u : W} {x y z : V} (q1 : RW K m H w x) (q2 : RW K m H k y) (q3 : RW K m H u z) (p : ((dsetW w k u h).bind fun _ h => f h).post Qo Qe) :
    ∃ a H' h', x = .ref a ∧ DPut H a y z H' ∧ Stp m H m H' ∧ HR K G m h' H' ∧ (f h').post Qo Qe := by
  cases q1 <;> try exact (show False from p).elim
  rename_i n a e
  have p := post_bind p
  simp only [dsetW] at p
  split at p
  · rename_i kvs hk
    obtain ⟨⟨hf, hl⟩, p⟩ := post_if p
    obtain ⟨ks, e1, r⟩ := hr.ob _ _ _ e hk
    obtain ⟨kk, hkr, rfl⟩ := key_of_flat q2 hf
    exact ⟨a, _, _, rfl, .inl ⟨ks, kk, e1, rfl, by rw [← kn_len r]; exact hl, rfl⟩, .setO e (fun ps z => by cases z), hr.setK e e1 (kn_put r hkr q3), p⟩
  · exact p.elim
end
section
variable {K : PySem.W.Frag} {G : Gl0} {m m' : Mp} {h : Hs} {H H' : Hp}
/-- a new object that is nobody's -/
theorem HR.fresh (hr : HR K G m h H) {p : Addr} {o : HO} (hp : H p = none) : HR K G m h (upd H p o) where
  len := hr.len
  dom := hr.dom
  dom' := hr.dom'
  inj := hr.inj
  ob := fun n a o e q => by
    obtain ⟨u, hu, _⟩ := hr.mut e
    exact (hr.ob n a o e q).step hr (.tup hp) (by rw [upd_ne (ne_of_none hu hp)])
  tab := tabs_upd hr.tab fun u e => by rw [hp] at e; cases e
end
section
variable {X : Cx}
/-- a tuple's display, told as what it is -/
def tTupF (t : TA) : TE := fun σ H Q => t σ H fun xs H1 => xs.length ≤ sizeLine ∧ ∀ p o, H1 p = none → o.dict = none → Q (.ref p) (upd H1 p (.frz o (.tup xs)))
theorem pe_tupF {es : List Expr} {t : TA} {k : Nat} {pos : Pos} (h : PA X es t) : PE X (.Tuple es k pos) (tTupF t) := by
  refine ⟨fun pins s σ H Q I hq => ?_⟩
  refine wpAny_Tuple_spliced (thn (h.run pos pins s σ H _ I hq) fun us s1 ⟨xs, H1, I1, r, z, q⟩ => ⟨by rw [← r.length]; exact z, ?_⟩)
  have hf : H1 s1.heap.objs.size = none := I1.hok.fresh (Nat.le_refl _)
  refine ⟨.ref s1.heap.objs.size, _, I1.laid (t' := s1.toks) (o := .frz { cls := .type "tuple", data := .seq us.toArray } (.tup xs)) (fun b u e => Heap.get?_push_of_some _ e) (Nat.le_refl _) ⟨Heap.get?_push_size _ rfl, z, us, r, ⟨_, Heap.get?_push_size _ rfl, rfl, _, rfl⟩⟩, rfl, q _ _ hf rfl⟩
/-- o.index(k), o a tuple of ints -/
def tTixV (K : PySem.W.Frag) (to : TE) (t2 : TA) : TE := fun σ H Q => to σ H fun x H1 => ∃ p xs, x = .ref p ∧ Sq K H1 .f p xs ∧ t2 σ H1 fun ys H2 => ∃ (ns : List Int) (k : Int), xs = ns.map V.int ∧ ys = [V.int k] ∧ SqT K H2 p xs ∧ k ∈ ns ∧ Q (.int (ns.idxOf k : Nat)) H2
theorem pe_tixV {o e : Expr} {to : TE} {t2 : TA} {apos cpos : Pos} (ho : PE X o to) (ha : PA X [e] t2) (hbase : attributeBase o "index" X.env (eval o X.env) = eval o X.env)
    (hfew : ((backTo cpos (starEach [e] X.env)).all (fun x => !x.1) && (backToKw cpos (keywordEach [] X.env)).all (fun x => x.1.isSome)
      && decide (([e] : List Expr).length + ([] : List Keyword).length + (if ([] : List Keyword).isEmpty then 0 else 1) < 30)) = true)
    (hline : (apos.endLine == cpos.line) = true) (hs : starEach [e] X.env = (false, eval e X.env) :: starEach [] X.env) (hplain : (backTo cpos (starEach [] X.env)).any (·.1) = false) :
    PE X (.Call (.Attribute o "index" apos) [e] [] cpos) (tTixV X.K to t2) := by
  refine ⟨fun pins s σ H Q I hq => ?_⟩
  refine wpAny_Call_method_late hbase hfew hline rfl (thn (ho.run pins s σ H _ I hq) fun v s1 ⟨x, H1, I1, r1, p, xs, ex, st, q1⟩ => ?_)
  subst ex
  cases r1
  obtain ⟨its, rv, pl, hz⟩ := I1.tuple (sqf st)
  obtain ⟨ob, e1, e2, n, e3⟩ := pl
  obtain ⟨od, hf, hdn⟩ := st
  refine ⟨"tuple", _, PySem.F.plainAttrs_tuple, PySem.F.slot_tuple_index, PySem.F.type_tuple_index, ⟨ob, e1, e2⟩, fun a ea => ?_, ?_⟩
  · cases ea
    obtain ⟨e1', _⟩ := (show ObjOk X.prog X.w H1 s1.heap _ (.frz od (.tup xs)) from I1.hok _ _ hf)
    exact ⟨od, e1', hdn⟩
  · have hA := ha.run cpos pins _ σ _ _ I1 q1
    rw [hs] at hA ⊢
    refine Calls.callWith_builtin (by show (false || (backTo cpos (starEach [] X.env)).any (·.1)) = false; rw [hplain] <;> rfl) (Calls.evalArgs_plain ?_)
    refine thn hA fun ws s2 ⟨ys, H2, I3, r2, ns, k, e1, e2, hp, hk, q2⟩ => ?_
    subst e2
    obtain ⟨u, rfl, t, rfl⟩ := vals1 r2
    obtain ⟨its, rv, pl, hz⟩ := I3.tuple hp
    rw [e1] at rv
    exact PySem.SeqAt.tuple_index_ints (show s2.heap.IsTuple _ its.toArray from pl) (intsAre_of rv) hk ⟨.int _, H2, I3.tok _, ⟨_, rfl⟩, q2⟩
end
end GS
-- GsSm
namespace GS
open PySem PySem.Spec PyProof.Rows L2
theorem spl_spl1 (d : Nat) : ∀ (l acc : List Nat), ∃ p q, spl1 d l = p :: q ∧ TL.spl [d] 0 acc l = (acc ++ p) :: q
  | [], acc => ⟨[], [], rfl, by rw [TL.spl_nil, List.append_nil]⟩
  | c :: r, acc => by
    by_cases h : c = d
    · subst h
      obtain ⟨p, q, e1, e2⟩ := spl_spl1 c r []
      refine ⟨[], spl1 c r, by rw [spl1, Nat.beq_refl], ?_⟩
      rw [TL.spl_hit (by simp [TL.pre]), List.append_nil]
      show acc :: TL.spl [c] 0 [] r = _
      rw [e2, e1, List.nil_append]
    · obtain ⟨p, q, e1, e2⟩ := spl_spl1 d r (acc ++ [c])
      refine ⟨c :: p, q, ?_, ?_⟩
      · have hb : Nat.beq c d = false := by rw [Bool.eq_false_iff]; exact fun z => h (Nat.eq_of_beq_eq_true z)
        rw [spl1, hb, e1]
      · rw [TL.spl_miss (by simp [TL.pre, h]), e2, List.append_assoc]
        rfl
theorem sep1_ok {b : Str} {d : Nat} (h : sep1 b = some d) : b.cps.toList = [d] ∧ d < 256 := by
  unfold sep1 at h
  split at h
  · rename_i e he
    split at h
    · rename_i hd
      cases h
      exact ⟨he, hd⟩
    · cases h
  · cases h
theorem mk_of {x : Str} {l : List Nat} (h : x.cps.toList = l) : x = mkS l := by
  subst h
  unfold mkS
  cases x
  simp
theorem split_1 {a b : Str} {d : Nat} (h : sep1 b = some d) : Txt.split a b = (spl1 d a.cps.toList).map mkS := by
  obtain ⟨e, hd⟩ := sep1_ok h
  have e : TL.tl b = [d] := e
  refine TL.map_tl_inj ?_
  have hk : b.cps.all (· < 256) = true := by
    rw [mk_of e]
    simp [mkS, hd]
  rw [TL.split_spl a b (by rw [e]; simp) (TL.kind_ok hk), e]
  obtain ⟨p, q, e1, e2⟩ := spl_spl1 d (TL.tl a) []
  rw [e2, List.map_map]
  have e1 : spl1 d a.cps.toList = p :: q := e1
  rw [e1, List.nil_append]
  have : (TL.tl ∘ mkS) = id := by funext l; simp [mkS]
  rw [this, List.map_id]
theorem spl1_rep {c d : Nat} (h : Nat.beq c d = false) : ∀ n : Nat, spl1 d (List.replicate n c) = [List.replicate n c]
  | 0 => rfl
  | n + 1 => by
    rw [List.replicate_succ]
    rw [spl1, h, spl1_rep h n]
theorem par_par1 (d : Nat) : ∀ (l acc : List Nat), TL.par [d] acc l = (par1 d l).map fun p => (acc ++ p.1, p.2)
  | [], acc => rfl
  | c :: r, acc => by
    by_cases h : c = d
    · subst h
      have hp : TL.pre [c] (c :: r) = true := by simp [TL.pre]
      unfold TL.par par1
      rw [if_pos hp, Nat.beq_refl]
      simp
    · have hb : Nat.beq c d = false := by rw [Bool.eq_false_iff]; exact fun z => h (Nat.eq_of_beq_eq_true z)
      have hp : ¬ TL.pre [d] (c :: r) = true := by simp [TL.pre, h]
      unfold TL.par par1
      rw [if_neg hp, hb, par_par1 d r (acc ++ [c])]
      simp only [Option.map_map]
      congr 1
      funext p
      simp
theorem joinN_eq (S : List Nat) : ∀ l : List (List Nat), joinN S l = TL.joinL S l
  | [] => rfl
  | [_] => rfl
  | p :: q :: r => by rw [joinN, joinN_eq S (q :: r)]; rfl
theorem join_1 (a : Str) (ys : List Str) : Txt.join a ys = mkS (joinN a.cps.toList (ys.map fun y => y.cps.toList)) := by
  refine TL.ext_tl ?_
  rw [TL.join_eq, TL.tl_join, joinN_eq]
  rfl
theorem strs_rel {K : PySem.W.Frag} {m : Mp} {H : Hp} : ∀ {ws : List W} {vs : List V} {ys : List Str}, RWs K m H ws vs → strsOf ws = some ys → vs = ys.map V.str
  | _, _, _, .nil, e => by simp [strsOf] at e; subst e; rfl
  | _, _, _, .cons q r, e => by
    cases q <;> first
      | (simp only [strsOf, Option.map_eq_some_iff] at e
         obtain ⟨cs, e1, rfl⟩ := e
         rw [List.map_cons, strs_rel r e1])
      | (simp [strsOf] at e)
theorem rws_strs {K : PySem.W.Frag} {m : Mp} {H : Hp} : ∀ ys : List Str, RWs K m H (ys.map W.str) (ys.map V.str)
  | [] => .nil
  | y :: ys => .cons (.str y) (rws_strs ys)
def Sm.nm : Sm → Str
  | .split => "split" | .partition => "partition" | .join => "join"
def Sm.id : Sm → String
  | .split => "str.split" | .partition => "str.partition" | .join => "str.join"
theorem sm_slot (m : Sm) : Slot "str" m.nm m.id := by
  cases m
  · exact F.slot_str_split
  · exact F.slot_str_partition
  · exact F.slot_str_join
theorem sm_type (m : Sm) : typeOf (.builtin m.id) = pure (.type "method_descriptor") := by
  cases m
  · exact F.type_str_split
  · exact F.type_str_partition
  · exact F.type_str_join
theorem isS_of {K : PySem.W.Frag} {m : Mp} {H : Hp} {w : W} {x : V} (q : RW K m H w x) (h : isS w = true) : ∃ a, x = .str a := by
  cases q with
  | str x => exact ⟨_, rfl⟩
  | srep c n => exact ⟨_, rfl⟩
  | _ => cases h
section
variable {X : Cx} {G : Gl0} {E : XK}
theorem sm_ok (m : Sm) : MtR X m.id (fun x xs H Q => ∃ mm h w ws, HR X.K G mm h H ∧ RW X.K mm H w x ∧ RWs X.K mm H ws xs ∧ (smW m w ws h).post (OkP X.K G mm H Q) (ExP X.K G E mm H)) := by
  intro pins s σ H x xs v us Q I rx rs p
  obtain ⟨mm, h, w, ws, hr, qx, qs, p⟩ := p
  have no : ∀ {P : Prop}, (R.no (α := W)).post (OkP X.K G mm H Q) (ExP X.K G E mm H) → P := fun z => z.elim
  unfold smW at p
  split at p
  · rename_i h a b
    cases qx
    cases qs with
    | cons q1 qs =>
      cases qs
      cases q1
      split at p
      · rename_i d hd
        obtain ⟨hz, p⟩ := post_if p
        obtain ⟨e1, hd2⟩ := sep1_ok hd
        have hl : b.length = 1 := by
          have : b.length = b.cps.toList.length := by simp [Str.length]
          rw [this, e1]; rfl
        refine mt_split pins s σ H _ _ v us Q I rx rs ⟨a, b, rfl, rfl, by rw [hl]; rfl, hz, ?_⟩
        rw [split_1 hd]
        have r1 : RWs X.K mm H ((spl1 d a.cps.toList).map fun l => W.str (mkS l)) (((spl1 d a.cps.toList).map mkS).map V.str) := by
          have := rws_strs (K := X.K) (m := mm) (H := H) ((spl1 d a.cps.toList).map mkS)
          rw [List.map_map] at this
          exact this
        exact ok_new hr r1 p
      · exact p.elim
  · rename_i h c n b
    cases qx
    cases qs with
    | cons q1 qs =>
      cases qs
      cases q1
      split at p
      · rename_i d hd
        obtain ⟨hz, p⟩ := post_if p
        rw [Bool.and_eq_true, Bool.not_eq_true'] at hz
        obtain ⟨e1, hd2⟩ := sep1_ok hd
        have hl : b.length = 1 := by
          have : b.length = b.cps.toList.length := by simp [Str.length]
          rw [this, e1]; rfl
        have hn : n ≤ 1000000 := Nat.le_of_ble_eq_true hz.1
        have hr1 : (repS c n).length = n := by simp [repS, Str.length]
        refine mt_split pins s σ H _ _ v us Q I rx rs ⟨_, b, rfl, rfl, by rw [hl]; rfl, by rw [hr1, sizeLine_eq]; omega, ?_⟩
        rw [split_1 hd]
        have e2 : (repS c n).cps.toList = List.replicate n c := by simp [repS]
        rw [e2, spl1_rep hz.2]
        exact ok_new hr (.cons (.srep c n) .nil) p
      · exact p.elim
  · rename_i h a b
    cases qx
    cases qs with
    | cons q1 qs =>
      cases qs
      cases q1
      split at p
      · rename_i d hd
        obtain ⟨hz, p⟩ := post_if p
        obtain ⟨e1, hd2⟩ := sep1_ok hd
        have hl : b.length = 1 := by
          have : b.length = b.cps.toList.length := by simp [Str.length]
          rw [this, e1]; rfl
        refine mt_partition pins s σ H _ _ v us Q I rx rs ⟨a, b, rfl, rfl, by rw [hl]; rfl, hz, ?_⟩
        rw [TL.partition_par a b (by show b.cps.toList ≠ []; rw [e1]; simp)]
        have e3 : TL.tl b = [d] := e1
        rw [e3, par_par1 d (TL.tl a) []]
        have e4 : par1 d (TL.tl a) = par1 d a.cps.toList := rfl
        rw [e4]
        revert p
        cases par1 d a.cps.toList with
        | none => exact fun p => ok_tup hr (.cons (.str _) (.cons (.str _) (.cons (.str _) .nil))) p
        | some q =>
          obtain ⟨l, r⟩ := q
          exact fun p => ok_tup hr (.cons (.str _) (.cons (.str _) (.cons (.str _) .nil))) p
      · exact p.elim
  · rename_i h a c
    cases qx
    cases qs with
    | cons q1 qs =>
      cases qs
      split at p
      · rename_i ws hw
        split at p
        · rename_i ys hy
          obtain ⟨hz, p⟩ := post_if p
          obtain ⟨ad, vs, rfl, hs, r1⟩ := q1.seq hr hw
          cases strs_rel r1 hy
          refine mt_join pins s σ H _ _ v us Q I rx rs ⟨a, ad, ys, rfl, rfl, hs, hz, ?_⟩
          rw [join_1]
          exact ok_val hr (.str _) p
        · exact p.elim
      · exact p.elim
  · exact p.elim
end
end GS
-- GsEv9
namespace GS
open PySem PySem.Spec PyProof.Rows L2

inductive Dc where
  | fn (f : Nat) | cst (w : W) | cls (c : Nat) | clsT (c : Nat) | blt
  /-- of attributes (their names with a dot ahead): a slot, a property, a method; a class with slots and its __init__ -/
  | slt (c i : Nat) | prp (c f : Nat) | mth (c f : Nat) | icl (c f : Nat)
  /-- a method with one parameter besides self, by keyword only, and its default -/
  | mtk (c f : Nat) (k : Str) (w : W)
/-- what stands fixed in a def: its names, its scope, the module's names, the catcher's name -/
structure Cc where
  N : List Str
  sc : Scope
  D : List (Str × Dc)
  met : Option Str
  top : Str → Bool
  /-- no guard stands around -/
  g : Bool

def okNm (x : Str) : Bool := !(x == ("__debug__" : Str)) && !(x == ("__classdict__" : Str)) && !(x == ("__name__" : Str))
def noStar : Expr → Bool
  | .Starred _ _ => false
  | _ => true
def plainIx : Expr → Bool
  | .Slice _ _ _ _ => false
  | _ => true
/-- can stand as a test -/
def testOk : Expr → Bool
  | .IfExp _ _ _ _ => false
  | .Lambda _ _ _ _ => false
  | _ => true
def isSet : Expr → Bool
  | .Set _ _ _ => true
  | _ => false
def isComp : Expr → Bool
  | .ListComp _ _ _ _ => true
  | .SetComp _ _ _ _ => true
  | .DictComp _ _ _ _ _ => true
  | _ => false
def isTup : Expr → Bool
  | .Tuple _ _ _ => true
  | .List _ _ => true
  | _ => false
def isTuple : Expr → Bool
  | .Tuple _ _ _ => true
  | _ => false
def notAt : Expr → Bool
  | .Attribute _ _ _ => false
  | _ => true
/-- not super() -/
def basOk : Expr → Bool
  | .Call _ _ _ _ => false
  | _ => true
theorem starEach_ns {e : Expr} {es : List Expr} {env : PySem.Env} (h : noStar e = true) : starEach (e :: es) env = (false, eval e env) :: starEach es env := by
  cases e <;> first
    | rfl
    | cases h
theorem backTo_ns {pos : Pos} {env : PySem.Env} : ∀ {es : List Expr}, es.all noStar = true → (backTo pos (starEach es env)).any (·.1) = false
  | [], _ => rfl
  | e :: es, h => by
    rw [List.all_cons, Bool.and_eq_true] at h
    rw [starEach_ns h.1]
    show (false || (backTo pos (starEach es env)).any (·.1)) = false
    rw [backTo_ns h.2]
    rfl
theorem few_ns {pos : Pos} {env : PySem.Env} {e : Expr} {es : List Expr} (h : (e :: es).all noStar = true) (hl : es.length < 20) : ((backTo pos (starEach (e :: es) env)).all (fun x => !x.1) && (backToKw pos (keywordEach [] env)).all (fun x => x.1.isSome)
      && decide ((e :: es).length + ([] : List Keyword).length + (if ([] : List Keyword).isEmpty then 0 else 1) < 30)) = true := by
  have h1 : ∀ {es : List Expr}, es.all noStar = true → (backTo pos (starEach es env)).all (fun x => !x.1) = true := fun {es} h => by
    have := backTo_ns (pos := pos) (env := env) h
    rw [List.all_eq_true]
    intro x hx
    rw [List.any_eq_false] at this
    simpa using this x hx
  rw [h1 h]
  have h2 : (backToKw pos (keywordEach [] env)).all (fun x => x.1.isSome) = true := rfl
  rw [h2]
  simp
  omega
theorem isTrue_val {e : Expr} {env : PySem.Env} (h : testOk e = true) (h2 : ∀ x p, e ≠ .UnaryOp .Not x p) (h3 : ∀ o vs p, e ≠ .BoolOp o vs p) (h4 : ∀ a o c p, e ≠ .Compare a o c p) : ∀ whole, isTrue e env whole = (do let v ← whole; standAt e.pos; holding [v] (truthy v)) := by
  intro whole
  cases e with
  | BoolOp op vs p => exact absurd rfl (h3 op vs p)
  | Compare a o c p => exact absurd rfl (h4 a o c p)
  | IfExp _ _ _ _ => cases h
  | UnaryOp op x p =>
    cases op with
    | Not => exact absurd rfl (h2 x p)
    | _ => rfl
  | _ => rfl
theorem plainIx_ok {e : Expr} (h : plainIx e = true) : PlainIx e := by
  intro o i
  cases e <;> first
    | rfl
    | cases h
theorem noSl_ok {i : Expr} (h : plainIx i = true) : NoSl i := by
  intro ov iv
  cases i <;> first
    | rfl
    | cases h
theorem folded_ok {e : Expr} (h : isSet e = false) (env : PySem.Env) (x : Value) : foldedSetIterable e env x = pure x := by
  cases e <;> first
    | rfl
    | cases h
theorem swaps_none {e : Expr} {t : Option Expr} {l : Nat} {env : PySem.Env} (h : isComp e = false) : swapsWith e t l env = pure false := by
  cases e <;> first
    | rfl
    | cases h
theorem base_ok {e : Expr} {a : Str} {env : PySem.Env} {w : Sem Value} (h : basOk e = true) : attributeBase e a env w = w := by
  cases e <;> first
    | rfl
    | cases h

def Bi.nm : Bi → Str
  | .len => "len" | .abs => "abs" | .all => "all" | .any => "any" | .sum => "sum" | .sorted => "sorted" | .max => "max" | .min => "min" | .max2 => "max" | .min2 => "min"
  | .tuple => "tuple" | .list => "list" | .int => "int" | .listRange => "list" | .tupRange => "tuple" | .str => "str"
def Ty.nm : Ty → Str
  | .int => "int" | .bool => "bool" | .str => "str" | .tuple => "tuple"
def Me.nm : Me → Str
  | .append => "append" | .extend => "extend" | .pop => "pop"
def lamParams : Arguments := ⟨[], [], none, [], [], none, []⟩
abbrev lamParD (y : Str) (an : Option Expr) (q : Pos) (i : Int) (j : Nat) (p : Pos) : Arguments := ⟨[], [⟨y, an, q⟩], none, [], [], none, [.Constant (.int i) j p]⟩
def lamDB (sc scope : Scope) (y : Str) : Bool :=
  decide (scope.kind = .function) && !scope.isCoroutine && !scope.isGenerator && decide (scope.names.lookup y = some .local) && scope.names.all fun z => !decide (z.2 = .cell) && (!decide (z.2 = .local) || decide (z.1 = y)) && (!decide (z.2 = .free) || decide (sc.names.lookup z.1 = some .cell) || decide (sc.names.lookup z.1 = some .free))
/-- x is a name of the module, or of the builtins -/
def GlD (C : Cc) (x : Str) (d : Dc) : Prop := C.sc.names.lookup x = some .globalImplicit ∧ C.D.lookup x = some d ∧ okNm x = true
def Blt (C : Cc) (x : Str) : Prop := GlD C x .blt
def atK (f : Str) : Str := ("." : Str) ++ f
def AtD (C : Cc) (f : Str) (d : Dc) : Prop := C.D.lookup (atK f) = some d
/-- the block of a comprehension -/
def Cc.blk (C : Cc) (scope : Scope) : Cc := { C with sc := relS scope C.sc, met := none, top := fun x => scope.names.lookup x == some .cell }
def Cc.lam (C : Cc) (scope : Scope) : Cc := { C with sc := scope, met := none, top := fun _ => false, g := false }
def tgIx : Tg → List Nat
  | .one i => [i]
  | .many is => is

/-- targets -/
inductive CG1 (C : Cc) : Expr → Nat → Prop
  | mk {x : Str} {i : Nat} {pos : Pos} : C.N[i]? = some x → (C.sc.names.lookup x = some .local ∨ (C.sc.names.lookup x = some .cell ∧ C.top x = true)) → CG1 C (.Name x pos) i
inductive CGs (C : Cc) : List Expr → List Nat → Prop
  | nil : CGs C [] []
  | cons {e : Expr} {i : Nat} {es : List Expr} {is : List Nat} : CG1 C e i → CGs C es is → CGs C (e :: es) (i :: is)
inductive CG (C : Cc) : Expr → Tg → Prop
  | one {e : Expr} {i : Nat} : CG1 C e i → CG C e (.one i)
  | many {es : List Expr} {is : List Nat} {k : Nat} {pos : Pos} : CGs C es is → CG C (.Tuple es k pos) (.many is)

mutual
inductive CE (P : Pg) : Cc → Expr → Ex → Prop
  | var {C : Cc} {x : Str} {i : Nat} {pos : Pos} : C.N[i]? = some x → Vis C.sc x → okNm x = true → CE P C (.Name x pos) (.var i)
  | glo {C : Cc} {x : Str} {w : W} {pos : Pos} : GlD C x (.cst w) → CE P C (.Name x pos) (.cst w)
  | int {C : Cc} {i : Int} {j : Nat} {pos : Pos} : CE P C (.Constant (.int i) j pos) (.cst (.int i))
  | bl {C : Cc} {i : Bool} {j : Nat} {pos : Pos} : CE P C (.Constant (.bool i) j pos) (.cst (.bl i))
  | non {C : Cc} {j : Nat} {pos : Pos} : CE P C (.Constant .none j pos) (.cst .non)
  | str {C : Cc} {x : Str} {j : Nat} {pos : Pos} : CE P C (.Constant (.str x) j pos) (.cst (.str x))
  | tup {C : Cc} {es : List Expr} {xs : Exs} {k : Nat} {pos : Pos} : CEs P C es xs → CE P C (.Tuple es k pos) (.tup xs)
  | lst {C : Cc} {es : List Expr} {xs : Exs} {pos : Pos} : CEs P C es xs → CE P C (.List es pos) (.lst xs)
  | bin {C : Cc} {a b : Expr} {x y : Ex} {o : BOp} {pos : Pos} : CE P C a x → CE P C b y → CE P C (.BinOp a o.op b pos) (.bin o x y)
  | neg {C : Cc} {a : Expr} {x : Ex} {pos : Pos} : CE P C a x → CE P C (.UnaryOp .USub a pos) (.neg x)
  | nt {C : Cc} {a : Expr} {x : Ex} {pos : Pos} : testOk a = true → CE P C a x → CE P C (.UnaryOp .Not a pos) (.nt x)
  | cmp {C : Cc} {a b : Expr} {x y : Ex} {o : COp} {pos : Pos} : isSet b = false → CE P C a x → CE P C b y → CE P C (.Compare a [o.op] [b] pos) (.cmp o x y)
  | cmp2 {C : Cc} {a b c : Expr} {x y z : Ex} {o o' : COp} {pos : Pos} : isSet c = false → CE P C a x → CE P C b y → CE P C c z → CE P C (.Compare a [o.op, o'.op] [b, c] pos) (.cmp2 o o' x y z)
  | and2 {C : Cc} {a b : Expr} {x y : Ex} {pos : Pos} : testOk a = true → testOk b = true → CE P C a x → CE P C b y → CE P C (.BoolOp .And [a, b] pos) (.and x y)
  | andN {C : Cc} {a b c : Expr} {r : List Expr} {x y : Ex} {pos : Pos} : testOk a = true → CE P C a x → CE P C (.BoolOp .And (b :: c :: r) pos) y → CE P C (.BoolOp .And (a :: b :: c :: r) pos) (.and x y)
  | or2 {C : Cc} {a b : Expr} {x y : Ex} {pos : Pos} : testOk a = true → testOk b = true → CE P C a x → CE P C b y → CE P C (.BoolOp .Or [a, b] pos) (.or x y)
  | orN {C : Cc} {a b c : Expr} {r : List Expr} {x y : Ex} {pos : Pos} : testOk a = true → CE P C a x → CE P C (.BoolOp .Or (b :: c :: r) pos) y → CE P C (.BoolOp .Or (a :: b :: c :: r) pos) (.or x y)
  | ite {C : Cc} {c a b : Expr} {x y z : Ex} {pos : Pos} : testOk c = true → CE P C c z → CE P C a x → CE P C b y → CE P C (.IfExp c a b pos) (.ite z x y)
  | ix {C : Cc} {a b : Expr} {x y : Ex} {pos : Pos} : plainIx b = true → CE P C a x → CE P C b y → CE P C (.Subscript a b pos) (.ix x y)
  | sl {C : Cc} {a : Expr} {lo hi : Option Expr} {x : Ex} {l u : Exs} {p2 pos : Pos} : CE P C a x → CO P C lo l → CO P C hi u → CE P C (.Subscript a (.Slice lo hi none p2) pos) (.sl x l u)
  | isa {C : Cc} {a : Expr} {x : Ex} {t : Ty} {p p2 pos : Pos} : Blt C "isinstance" → Blt C t.nm → noStar a = true → CE P C a x → CE P C (.Call (.Name "isinstance" p) [a, .Name t.nm p2] [] pos) (.isa x t)
  | bi {C : Cc} {b : Bi} {e : Expr} {es : List Expr} {xs : Exs} {p pos : Pos} : b.plain = true → Blt C b.nm → (e :: es).all noStar = true → CEs P C (e :: es) xs → CE P C (.Call (.Name b.nm p) (e :: es) [] pos) (.bi b xs)
  | tupRange {C : Cc} {e : Expr} {es : List Expr} {xs : Exs} {p p2 pos2 pos : Pos} : Blt C "tuple" → Blt C "range" → (e :: es).all noStar = true → es.length ≤ 1 → CEs P C (e :: es) xs → CE P C (.Call (.Name "tuple" p) [.Call (.Name "range" p2) (e :: es) [] pos2] [] pos) (.bi .tupRange xs)
  | listRange {C : Cc} {e : Expr} {es : List Expr} {xs : Exs} {p p2 pos2 pos : Pos} : Blt C "list" → Blt C "range" → (e :: es).all noStar = true → es.length ≤ 1 → CEs P C (e :: es) xs → CE P C (.Call (.Name "list" p) [.Call (.Name "range" p2) (e :: es) [] pos2] [] pos) (.bi .listRange xs)
  | me {C : Cc} {m : Me} {o e : Expr} {es : List Expr} {x : Ex} {xs : Exs} {apos pos : Pos} : basOk o = true → (apos.endLine == pos.line) = true → (e :: es).all noStar = true → es.length < 20 → CE P C o x → CEs P C (e :: es) xs → CE P C (.Call (.Attribute o m.nm apos) (e :: es) [] pos) (.me m x xs)
  | me0 {C : Cc} {m : Me} {o : Expr} {x : Ex} {apos pos : Pos} : basOk o = true → (apos.endLine == pos.line) = true → CE P C o x → CE P C (.Call (.Attribute o m.nm apos) [] [] pos) (.me m x .nil)
  | tix {C : Cc} {es : List Expr} {e : Expr} {x1 : Nat} {xs : Exs} {y : Ex} {tp apos pos : Pos} : (apos.endLine == pos.line) = true → noStar e = true → CEs P C es xs → CE P C e y → CE P C (.Call (.Attribute (.Tuple es x1 tp) "index" apos) [e] [] pos) (.tix xs y)
  | call {C : Cc} {x : Str} {f : Nat} {e : Expr} {es : List Expr} {xs : Exs} {p pos : Pos} : GlD C x (.fn f) → (P.hot f = true → C.g = true) → (e :: es).all noStar = true → CEs P C (e :: es) xs → CE P C (.Call (.Name x p) (e :: es) [] pos) (.call f xs)
  | lc {C : Cc} {elt tg iter : Expr} {ifs : List Expr} {scope : Scope} {own : List (Str × Nat)} {x : Ex} {t : Tg} {it : It} {cs : Exs} {pos : Pos} : BlkOk C.N C.sc scope own → (tgIx t).all (fun i => (own.map (·.2)).contains i) = true → isSet iter = false → CI P C tg iter it → CG (C.blk scope) tg t → CT P (C.blk scope) ifs cs → CE P (C.blk scope) elt x →
      CE P C (.ListComp elt [⟨tg, iter, ifs, 0⟩] scope pos) (.lc x t it cs (own.map (·.2)))
  | lc2 {C : Cc} {elt tg iter tg1 iter1 : Expr} {ifs ifs1 : List Expr} {scope : Scope} {own : List (Str × Nat)} {own1 : List Nat} {x : Ex} {t t1 : Tg} {it it1 : It} {cs cs1 : Exs} {pos : Pos} : BlkOk C.N C.sc scope own → (tgIx t).all (fun i => (own.map (·.2)).contains i) = true →
      (tgIx t1).all (fun i => own1.contains i) = true → own1.all (fun i => (own.map (·.2)).contains i) = true → isSet iter = false → isSet iter1 = false → CI P C tg iter it → CG (C.blk scope) tg t → CT P (C.blk scope) ifs cs →
      CI P (C.blk scope) tg1 iter1 it1 → CG (C.blk scope) tg1 t1 → CT P (C.blk scope) ifs1 cs1 → CE P (C.blk scope) elt x →
      CE P C (.ListComp elt [⟨tg, iter, ifs, 0⟩, ⟨tg1, iter1, ifs1, 0⟩] scope pos) (.lc2 x t it cs t1 it1 cs1 (own.map (·.2)) own1)
  | dcS {C : Cc} {kx tg iter : Expr} {scope : Scope} {own : List (Str × Nat)} {k : Ex} {t : Tg} {it : It} {p q pos2 pos : Pos} {j : Nat} : Blt C "sorted" → BlkOk C.N C.sc scope own → (tgIx t).all (fun i => (own.map (·.2)).contains i) = true → isSet iter = false → CI P C tg iter it → CG (C.blk scope) tg t → CE P (C.blk scope) kx k →
      CE P C (.Call (.Name "sorted" p) [.DictComp kx (.Constant (.bool true) j q) [⟨tg, iter, [], 0⟩] scope pos2] [] pos) (.dc true k t it (own.map (·.2)))
  | dcL {C : Cc} {kx tg iter : Expr} {scope : Scope} {own : List (Str × Nat)} {k : Ex} {t : Tg} {it : It} {p q pos2 pos : Pos} {j : Nat} : Blt C "len" → BlkOk C.N C.sc scope own → (tgIx t).all (fun i => (own.map (·.2)).contains i) = true → isSet iter = false → CI P C tg iter it → CG (C.blk scope) tg t → CE P (C.blk scope) kx k →
      CE P C (.Call (.Name "len" p) [.DictComp kx (.Constant (.bool true) j q) [⟨tg, iter, [], 0⟩] scope pos2] [] pos) (.dc false k t it (own.map (·.2)))
  | metD {C : Cc} {x y : Str} {an : Option Expr} {q0 p0 : Pos} {i0 : Int} {j0 : Nat} {body : Expr} {scope : Scope} {own : List Nat} {e : Ex} {p lpos pos : Pos} : C.met = some x → lamDB C.sc scope y = true → (∀ i, C.N[i]? = some y → i ∈ own) → CE P (C.lam scope) body e → CE P C (.Call (.Name x p) [.Lambda (lamParD y an q0 i0 j0 p0) body scope lpos] [] pos) (.metD own e)
  | rp {C : Cc} {a : Expr} {x : Ex} {p pos : Pos} : Blt C "repr" → C.g = true → noStar a = true → CE P C a x → CE P C (.Call (.Name "repr" p) [a] [] pos) (.rp x)
  | dnew {C : Cc} {pos : Pos} : CE P C (.Dict [] [] pos) .dnew
  | met {C : Cc} {x : Str} {body : Expr} {scope : Scope} {e : Ex} {p lpos pos : Pos} : C.met = some x → LamX.lamSB C.sc scope = true → CE P (C.lam scope) body e → CE P C (.Call (.Name x p) [.Lambda lamParams body scope lpos] [] pos) (.met e)
  | fork {C : Cc} {e : Expr} {x : Ex} {is : List Nat} : CE P C e x → CE P C e (.fork is x)
  | join {C : Cc} {e : Expr} {x : Ex} : CE P C e x → CE P C e (.join x)
  | dnewK {C : Cc} {pos : Pos} : CE P C (.Dict [] [] pos) .dnewK
  | dix {C : Cc} {a b : Expr} {x y : Ex} {pos : Pos} : plainIx b = true → CE P C a x → CE P C b y → CE P C (.Subscript a b pos) (.dix x y)
  | tixv {C : Cc} {o e : Expr} {x y : Ex} {apos pos : Pos} : basOk o = true → (apos.endLine == pos.line) = true → noStar e = true → CE P C o x → CE P C e y → CE P C (.Call (.Attribute o "index" apos) [e] [] pos) (.tixv x y)
  | varF {C : Cc} {x : Str} {i : Nat} {pos : Pos} : C.N[i]? = some x → Vis C.sc x → okNm x = true → CE P C (.Name x pos) (.varF i)
  | tupF {C : Cc} {es : List Expr} {xs : Exs} {k : Nat} {pos : Pos} : CEs P C es xs → CE P C (.Tuple es k pos) (.tupF xs)
  | att {C : Cc} {o : Expr} {f : Str} {c i : Nat} {x : Ex} {pos : Pos} : AtD C f (.slt c i) → basOk o = true → CE P C o x → CE P C (.Attribute o f pos) (.att c i x)
  | prp {C : Cc} {o : Expr} {f : Str} {c g : Nat} {x : Ex} {pos : Pos} : AtD C f (.prp c g) → basOk o = true → CE P C o x → CE P C (.Attribute o f pos) (.prp c g x)
  | mth {C : Cc} {o e : Expr} {es : List Expr} {m : Str} {c g : Nat} {x : Ex} {xs : Exs} {apos pos : Pos} : AtD C m (.mth c g) → basOk o = true → (apos.endLine == pos.line) = true → (e :: es).all noStar = true → es.length < 20 → CE P C o x → CEs P C (e :: es) xs → CE P C (.Call (.Attribute o m apos) (e :: es) [] pos) (.mth c g x xs)
  | mth0 {C : Cc} {o : Expr} {m : Str} {c g : Nat} {x : Ex} {apos pos : Pos} : AtD C m (.mth c g) → basOk o = true → (apos.endLine == pos.line) = true → CE P C o x → CE P C (.Call (.Attribute o m apos) [] [] pos) (.mth c g x .nil)
  | sm {C : Cc} {m : Sm} {o e : Expr} {x y : Ex} {apos pos : Pos} : basOk o = true → (apos.endLine == pos.line) = true → noStar e = true → CE P C o x → CE P C e y → CE P C (.Call (.Attribute o m.nm apos) [e] [] pos) (.sm m x (.cons y .nil))
  | fst {C : Cc} {e1 e2 : Expr} {es : List Expr} {xs : Exs} {pos : Pos} : CPs P C (e1 :: e2 :: es) xs → es.length ≤ 98 → CE P C (.JoinedStr (e1 :: e2 :: es) pos) (.fst xs)
  | icall {C : Cc} {fn e : Expr} {es : List Expr} {c g : Nat} {x : Ex} {xs : Exs} {pos : Pos} : AtD C "__call__" (.mth c g) → notAt fn = true → (e :: es).all noStar = true → CE P C fn x → CEs P C (e :: es) xs → CE P C (.Call fn (e :: es) [] pos) (.icall c g x xs)
  | mthK {C : Cc} {o e : Expr} {m k : Str} {c g : Nat} {w0 : W} {x y : Ex} {apos kpos pos : Pos} : AtD C m (.mtk c g k w0) → basOk o = true → (apos.endLine == pos.line) = true → CE P C o x → CE P C e y → CE P C (.Call (.Attribute o m apos) [] [⟨some k, e, kpos⟩] pos) (.mth c g x (.cons y .nil))
  | mthK0 {C : Cc} {o : Expr} {m k : Str} {c g : Nat} {w0 : W} {x : Ex} {apos pos : Pos} : AtD C m (.mtk c g k w0) → basOk o = true → (apos.endLine == pos.line) = true → CE P C o x → CE P C (.Call (.Attribute o m apos) [] [] pos) (.mth c g x (.cons (.cst w0) .nil))
  | mk {C : Cc} {x : Str} {c f : Nat} {e : Expr} {es : List Expr} {xs : Exs} {p pos : Pos} : GlD C x (.icl c f) → (e :: es).all noStar = true → CEs P C (e :: es) xs → CE P C (.Call (.Name x p) (e :: es) [] pos) (.mk c f xs)
inductive CEs (P : Pg) : Cc → List Expr → Exs → Prop
  | nil {C : Cc} : CEs P C [] .nil
  | cons {C : Cc} {e : Expr} {es : List Expr} {x : Ex} {xs : Exs} : noStar e = true → CE P C e x → CEs P C es xs → CEs P C (e :: es) (.cons x xs)
  | star {C : Cc} {e : Expr} {es : List Expr} {x : Ex} {xs : Exs} {p : Pos} : CE P C e x → CEs P C es xs → CEs P C (.Starred e p :: es) (.star x xs)
inductive CPs (P : Pg) : Cc → List Expr → Exs → Prop
  | nil {C : Cc} : CPs P C [] .nil
  | cst {C : Cc} {t : Str} {j : Nat} {p : Pos} {es : List Expr} {xs : Exs} : t.length ≤ 100000 → CPs P C es xs → CPs P C (.Constant (.str t) j p :: es) (.cons (.cst (.str t)) xs)
  | fmt {C : Cc} {e : Expr} {p : Pos} {es : List Expr} {x : Ex} {xs : Exs} : CE P C e x → CPs P C es xs → CPs P C (.FormattedValue e (-1) none p :: es) (.cons (.fmtE x) xs)
inductive CO (P : Pg) : Cc → Option Expr → Exs → Prop
  | none {C : Cc} : CO P C none .nil
  | some {C : Cc} {e : Expr} {x : Ex} : CE P C e x → CO P C (some e) (.cons x .nil)
inductive CI (P : Pg) : Cc → Expr → Expr → It → Prop
  | seq {C : Cc} {tg e : Expr} {x : Ex} : CE P C e x → CI P C tg e (.seq x)
  | rng {C : Cc} {tg e : Expr} {es : List Expr} {xs : Exs} {p pos : Pos} : Blt C "range" → (e :: es).all noStar = true → es.length ≤ 1 → CEs P C (e :: es) xs → CI P C tg (.Call (.Name "range" p) (e :: es) [] pos) (.rng xs)
  | enm {C : Cc} {e : Expr} {x : Ex} {elts : List Expr} {kk : Nat} {tpos p pos : Pos} : Blt C "enumerate" → noStar e = true → CE P C e x → CI P C (.Tuple elts kk tpos) (.Call (.Name "enumerate" p) [e] [] pos) (.enm x)
  | zip {C : Cc} {a b : Expr} {x y : Ex} {elts : List Expr} {kk : Nat} {tpos p pos : Pos} : Blt C "zip" → noStar a = true → noStar b = true → CE P C a x → CE P C b y → CI P C (.Tuple elts kk tpos) (.Call (.Name "zip" p) [a, b] [] pos) (.zip x y)
inductive CT (P : Pg) : Cc → List Expr → Exs → Prop
  | nil {C : Cc} : CT P C [] .nil
  | one {C : Cc} {e : Expr} {x : Ex} : testOk e = true → CE P C e x → CT P C [e] (.cons x .nil)
end
end GS
-- GsEv10
namespace GS
open PySem PySem.Spec PyProof.Rows L2

def E0 : XK := fun _ _ _ => False
theorem noEx_post {α : Type} {Qo : α → Hs → Prop} {Qe : Nat → W → Hs → Prop} : ∀ {r : R α}, r.noEx.post Qo Qe → r.post Qo (fun _ _ _ => False)
  | .ok _ _, p => p
  | .ex _ _ _, p => p.elim
  | .no, p => p.elim
  | .dr _ k, p => fun i hi => noEx_post (r := k i) (p i hi)
/-- a target -/
def TGR (K : PySem.W.Frag) (G : Gl0) (t : Tg) : TG := fun x σ H Q => ∃ m h w v v2, HR K G m h H ∧ RW K m H w x ∧ FR K m H v σ ∧ setTg t w v = some v2 ∧ ∀ σ2, FR K m H v2 σ2 → σ2.length = σ.length → (∀ i, i ∉ tgIx t → σ2[i]? = σ[i]?) → Q σ2 H
section
variable {X : Cx} {C : Cc} {G : Gl0}
theorem pgs_run (hN : X.N = C.N) (nd : C.N.Nodup) (hs : X.env.scope = C.sc) (hf : ∀ x, C.top x = true → X.fn x = true) : ∀ {es : List Expr} {is : List Nat}, CGs C es is → ∃ t, PGs X es t ∧ ∀ (ws : List W) (xs : List V) (m : Mp) (H : Hp) (v v2 : Env) (σ : L2.St) (Q : L2.St → Hp → Prop), RWs X.K m H ws xs → FR X.K m H v σ → setMany is ws v = some v2 →
    (∀ σ2, FR X.K m H v2 σ2 → σ2.length = σ.length → (∀ i, i ∉ is → σ2[i]? = σ[i]?) → Q σ2 H) → t xs σ H Q
  | _, _, .nil => ⟨_, pgs_nil, fun ws xs m H v v2 σ Q r f e k => by
    cases r with
    | nil => simp [setMany] at e; subst e; exact ⟨rfl, k σ f rfl fun _ _ => rfl⟩
    | cons _ _ => simp [setMany] at e⟩
  | _, _, @CGs.cons _ _ i _ is (.mk hi hl) hr => by
    obtain ⟨t, pt, ht⟩ := pgs_run hN nd hs hf hr
    refine ⟨_, pgs_cons (pg_name (by rw [hN]; exact nd) (by rw [hN]; exact hi) (by rw [hs]; rcases hl with z | z; exact .inl z; exact .inr z.1) (by rw [hs]; rcases hl with z | z; exact .inr z; exact .inl (hf _ z.2))) pt, fun ws xs m H v v2 σ Q r f e k => ?_⟩
    cases r with
    | nil => simp [setMany] at e
    | cons q r =>
      simp only [setMany] at e
      split at e
      · rename_i hlt
        refine ⟨_, _, rfl, ht _ _ m H _ v2 _ Q r (f.set i q) e fun σ2 f2 l2 o2 => k σ2 f2 (by rw [l2]; simp) fun b hb => ?_⟩
        rw [o2 b fun z => hb (List.mem_cons_of_mem _ z), List.getElem?_set_ne fun z => hb (by rw [← z]; exact List.mem_cons_self ..)]
      · cases e
theorem cgs_len {C : Cc} {env : PySem.Env} : ∀ {es : List Expr} {is : List Nat}, CGs C es is → (assignEach es env).length = is.length
  | _, _, .nil => rfl
  | _, _, .cons (.mk _ _) h => by
    show (assignEach _ env).length + 1 = _
    rw [cgs_len h]; rfl
theorem cgs_ns {C : Cc} {env : PySem.Env} : ∀ {es : List Expr} {is : List Nat}, CGs C es is → (assignEach es env).findIdx? (·.1) = none
  | _, _, .nil => rfl
  | _, _, .cons (es := es) (.mk hi hl) h => by
    have ih := cgs_ns (env := env) h
    rw [List.findIdx?_eq_none_iff] at ih ⊢
    intro x hx
    rcases List.mem_cons.mp (show x ∈ (false, _) :: assignEach es env from hx) with rfl | hx
    · rfl
    · exact ih x hx
theorem setMany_len : ∀ {is : List Nat} {ws : List W} {v v2 : Env}, setMany is ws v = some v2 → ws.length = is.length
  | [], [], _, _, _ => rfl
  | i :: is, w :: ws, v, v2, e => by
    simp only [setMany] at e
    split at e
    · simp [setMany_len e]
    · cases e
  | [], _ :: _, _, _, e => by simp [setMany] at e
  | _ :: _, [], _, _, e => by simp [setMany] at e
theorem pg_run (hc : X.calm = true) (hN : X.N = C.N) (nd : C.N.Nodup) (hs : X.env.scope = C.sc) (hf : ∀ x, C.top x = true → X.fn x = true) {e : Expr} {t : Tg} (h : CG C e t) : PG X e (TGR X.K G t) := by
  cases h with
  | @one _ i h =>
    cases h with
    | mk hi hl =>
      have p := pg_name (pos := by assumption) (X := X) (i := i) (by rw [hN]; exact nd) (by rw [hN]; exact hi) (by rw [hs]; rcases hl with z | z; exact .inl z; exact .inr z.1) (by rw [hs]; rcases hl with z | z; exact .inr z; exact .inl (hf _ z.2))
      refine ⟨fun pins s σ H x u Q I r q => p.run pins s σ H x u Q I r ?_⟩
      obtain ⟨m, h, w, v, v2, hr, qw, f, e, k⟩ := q
      simp only [setTg] at e
      split at e
      · cases e
        exact k _ (f.set i qw) (by simp) fun b hb => List.getElem?_set_ne fun z => hb (by rw [← z]; exact List.mem_cons_self ..)
      · cases e
  | @many es is kk pos h =>
    obtain ⟨t, pt, ht⟩ := pgs_run hN nd hs hf h
    have p := pg_tup (k := kk) (pos := pos) (n := is.length) hc pt (cgs_len h) (cgs_ns h)
    refine ⟨fun pins s σ H x u Q I r q => p.run pins s σ H x u Q I r ?_⟩
    obtain ⟨m, h, w, v, v2, hr, qw, f, e, k⟩ := q
    cases qw with
    | tup st rs => exact ⟨_, _, rfl, st, by rw [← rs.length]; exact setMany_len e, ht _ _ m H v v2 σ Q rs f e k⟩
    | _ => simp [setTg] at e
end
-- GsEv10
theorem wipe_in {σ : L2.St} {i : Nat} : ∀ {vs : List Nat}, i ∈ vs → (wipe σ vs)[i]? = (σ[i]?).map fun _ => none
  | [], h => by simp at h
  | v :: vs, h => by
    unfold wipe
    by_cases e : v = i
    · subst e
      by_cases hl : v < (wipe σ vs).length
      · rw [List.getElem?_set_self hl]
        rw [wipe_length] at hl
        rw [List.getElem?_eq_getElem hl]
        rfl
      · rw [List.getElem?_eq_none (by simpa using hl)]
        rw [wipe_length] at hl
        rw [List.getElem?_eq_none (by omega)]
        rfl
    · rw [List.getElem?_set_ne e]
      rcases List.mem_cons.mp h with z | z
      · exact absurd z.symm e
      · exact wipe_in z
theorem wipe_not {σ : L2.St} {i : Nat} : ∀ {vs : List Nat}, i ∉ vs → (wipe σ vs)[i]? = σ[i]?
  | [], _ => rfl
  | v :: vs, h => by
    unfold wipe
    rw [List.getElem?_set_ne fun e => h (by rw [e]; exact List.mem_cons_self ..)]
    exact wipe_not fun z => h (List.mem_cons_of_mem _ z)
theorem wipe_eq {σ σ2 : L2.St} {vs : List Nat} (hl : σ2.length = σ.length) (h : ∀ i, i ∉ vs → σ2[i]? = σ[i]?) : wipe σ2 vs = wipe σ vs := by
  apply List.ext_getElem?
  intro i
  by_cases hi : i ∈ vs
  · rw [wipe_in hi, wipe_in hi]
    by_cases hlt : i < σ.length
    · rw [List.getElem?_eq_getElem hlt, List.getElem?_eq_getElem (by omega)]
      rfl
    · rw [List.getElem?_eq_none (by omega), List.getElem?_eq_none (by omega)]
  · rw [wipe_not hi, wipe_not hi]
    exact h i hi
theorem wipe_of {σ σ2 : L2.St} {is vs : List Nat} (hl : σ2.length = (wipe σ vs).length) (h : ∀ i, i ∉ is → σ2[i]? = (wipe σ vs)[i]?) (hs : is.all (fun i => vs.contains i) = true) : wipe σ2 vs = wipe σ vs := by
  rw [List.all_eq_true] at hs
  refine wipe_eq (by rw [hl, wipe_length]) fun i hi => ?_
  rw [h i fun z => hi (by simpa using hs i z), wipe_not hi]

-- GsEv10
def del (H : Hp) (D : Addr) : Hp := fun b => if b = D then none else H b
theorem del_ne {H : Hp} {D b : Addr} (h : b ≠ D) : del H D b = H b := by unfold del; rw [if_neg h]
theorem del_same {H : Hp} {D : Addr} : del H D D = none := by unfold del; rw [if_pos rfl]
theorem del_upd {H : Hp} {D : Addr} {o : HO} : del (upd H D o) D = del H D := by
  funext b
  unfold del
  by_cases h : b = D
  · rw [if_pos h, if_pos h]
  · rw [if_neg h, if_neg h, upd_ne h]
def NotIn (m : Mp) (D : Addr) : Prop := ∀ n, m n ≠ some D
/-- an object that no tuple, no table, no code is -/
class Own (u : HO) : Prop where
  nc : ∀ c q, u ≠ LamX.CodeO c q
  nt : ∀ ps, u ≠ .tbl ps
  ntup : ∀ xs, u ≠ .tup xs
  nfrz : ∀ o v, u ≠ .frz o v
  nown : ∀ y, u ≠ .own y
  nxd : ∀ fs, u ≠ .xd fs
instance {xs : List V} : Own (.lst xs) := ⟨fun _ _ z => (by unfold LamX.CodeO at z; cases z), fun _ z => (by cases z), fun _ z => (by cases z), fun _ _ z => (by cases z), fun _ z => (by cases z), fun _ z => (by cases z)⟩
instance {ks : List (Key × V)} : Own (.dK ks) := ⟨fun _ _ z => (by unfold LamX.CodeO at z; cases z), fun _ z => (by cases z), fun _ z => (by cases z), fun _ _ z => (by cases z), fun _ z => (by cases z), fun _ z => (by cases z)⟩
theorem tabs_own {T : List (Addr × Str)} {H : Hp} {a : Addr} {u o : HO} [ou : Own u] (ht : LamX.Tabs T H) (e : H a = some u) : LamX.Tabs T (upd H a o) := fun p hp => by
  obtain ⟨ps, h1, h2, h3⟩ := ht p hp
  refine ⟨ps, by rw [upd_ne (ne_of h1 e fun z => ou.nt _ z.symm)]; exact h1, h2, fun pos cv hc => ?_⟩
  obtain ⟨c, e1, e2⟩ := h3 pos cv hc
  exact ⟨c, e1, by rw [upd_ne (ne_of e2 e fun z => ou.nc _ _ z.symm)]; exact e2⟩
section
variable {K : PySem.W.Frag} {G : Gl0} {m m' m1 : Mp} {h : Hs} {H H' H1 : Hp} {D : Addr} {u u' : HO} [ou : Own u]
theorem SqT.other (e : H D = some u) {a : Addr} {vs : List V} (q : SqT K H a vs) : SqT K (upd H D u') a vs := by
  rcases q with (q | ⟨o, q⟩) | q
  · exact .inl (.inl (by rw [upd_ne (ne_of q e fun z => ou.ntup _ z.symm)]; exact q))
  · exact .inl (.inr ⟨o, by rw [upd_ne (ne_of q e fun z => ou.nfrz _ _ z.symm)]; exact q⟩)
  · exact .inr q
theorem Sq.other (e : H D = some u) (b : SK) {a : Addr} {vs : List V} (q : Sq K H b a vs) : Sq K (upd H D u') b a vs := by
  cases b with
  | t => exact SqT.other e q
  | s =>
    rcases q with ⟨o, q⟩ | q
    · exact .inl ⟨o, by rw [upd_ne (ne_of q e fun z => ou.nfrz _ _ z.symm)]; exact q⟩
    · exact .inr q
  | f =>
    obtain ⟨o, q, hd⟩ := q
    exact ⟨o, by rw [upd_ne (ne_of q e fun z => ou.nfrz _ _ z.symm)]; exact q, hd⟩
theorem RW.other (e : H D = some u) {w : W} {x : V} (q : RW K m H w x) : RW K m (upd H D u') w x := q.mono (fun _ _ z => z) fun b _ _ => Sq.other e b
theorem RWs.other (e : H D = some u) {w : List W} {x : List V} (q : RWs K m H w x) : RWs K m (upd H D u') w x := q.mono (fun _ _ z => z) fun b _ _ => Sq.other e b
theorem HR.other (hr : HR K G m h H) (hn : NotIn m D) (e : H D = some u) : HR K G m h (upd H D u') where
  len := hr.len
  dom := hr.dom
  dom' := hr.dom'
  inj := hr.inj
  ob := fun n a o ea qa => by
    have hne : a ≠ D := fun z => hn n (by rw [← z]; exact ea)
    exact (hr.ob n a o ea qa).mapW (upd_ne hne) (fun b z => by rw [upd_ne (ne_of z e fun y => ou.nxd _ y.symm)]; exact z) (fun b y z => .inl (by rw [upd_ne (ne_of z e fun y => ou.nown _ y.symm)]; exact z)) fun _ _ q => q.other e
  tab := tabs_own hr.tab e
theorem FR.other {v : Env} {σ : L2.St} (f : FR K m H v σ) (e : H D = some u) : FR K m (upd H D u') v σ :=
  ⟨f.len, fun i w ei => by obtain ⟨x, e1, q⟩ := f.at_ i w ei; exact ⟨x, e1, q.other e⟩⟩
theorem SR.other {w : W} {b : Bool} {a : Addr} (q : SR K m H w b a) (e : H D = some u) : SR K m (upd H D u') w b a := by
  cases q with
  | obj z => exact .obj z
  | tup st rs => exact .tup (SqT.other e st) (rs.other e)
theorem JR.other {I : ItV} {J : L2.It} (q : JR K m H I J) (e : H D = some u) : JR K m (upd H D u') I J := by
  cases q with
  | l e => exact .l e
  | t st rs => exact .t (SqT.other e st) (rs.other e)
  | r lo n => exact .r lo n
  | e e1 => exact .e (e1.other e)
  | zg e1 e2 => exact .zg (e1.other e) (e2.other e)
theorem Stp.notIn (s : Stp m H m' H') (hn : NotIn m D) (e : H D = some u) : NotIn m' D := fun n z => by
  rcases s.fr n D z with q | q
  · exact hn n q
  · obtain ⟨ps, q⟩ := q _ e
    exact ou.nt _ q
theorem Stp.keepD (s : Stp m H m' H') (hn : NotIn m D) (e : H D = some u) : H' D = some u := s.kp D _ e hn ou.nt ou.nown
theorem Stp.dels (s : Stp m H m' H') (hn : NotIn m D) (e : H D = some u) : Stp m (del H D) m' (del H' D) where
  le := s.le
  kp := fun a o ea hna ht hw => by
    by_cases ha : a = D
    · rw [ha, del_same] at ea; cases ea
    · rw [del_ne ha] at ea ⊢
      exact s.kp a o ea hna ht hw
  fr := fun n a ea => by
    rcases s.fr n a ea with q | q
    · exact .inl q
    · refine .inr fun o eo => ?_
      by_cases ha : a = D
      · rw [ha, del_same] at eo; cases eo
      · rw [del_ne ha] at eo
        exact q o eo
  al := fun a o ea ht => by
    by_cases ha : a = D
    · rw [ha, del_same] at ea; cases ea
    · rw [del_ne ha] at ea
      obtain ⟨o', e', n'⟩ := s.al a o ea ht
      exact ⟨o', by rw [del_ne ha]; exact e', n'⟩
  ko := fun a y ea hna => by
    by_cases ha : a = D
    · rw [ha, del_same] at ea; cases ea
    · rw [del_ne ha] at ea ⊢
      exact s.ko a y ea hna
omit ou in
theorem Stp.del0 (e : H D = none) : Stp m H m (del (upd H D u) D) := by
  have q : del (upd H D u) D = H := by
    rw [del_upd]
    funext b
    by_cases hb : b = D
    · rw [hb, del_same, e]
    · rw [del_ne hb]
  rw [q]
  exact .refl
omit ou
/-- it is taken in -/
theorem mpush_le (hr : HR K G m h H) : ∀ n a, m n = some a → mpush m h.n D n = some a := fun n a ea => by
  have := hr.dom' n a ea
  unfold mpush
  rw [if_neg (by omega)]; exact ea
theorem adoptO (s : Stp m1 H1 m (del H D)) (hr : HR K G m h H) (hn : NotIn m D) (hD : H1 D = none) {o : O} (new : ORel K G (mpush m h.n D) H D o) :
    Stp m1 H1 (mpush m h.n D) H ∧ HR K G (mpush m h.n D) (h.push o) H ∧ RW K (mpush m h.n D) H (.obj h.n) (.ref D) := by
  have le : ∀ n a, m n = some a → mpush m h.n D n = some a := fun n a ea => by
    have := hr.dom' n a ea
    unfold mpush
    rw [if_neg (by omega)]; exact ea
  refine ⟨⟨fun n a ea => le n a (s.le n a ea), fun a o ea hna ht hw => ?_, fun n a ea => ?_, fun a o ea ht => ?_, fun a y ea hna => (by have z := s.ko a y ea hna; rw [del_ne (ne_of_none ea hD)] at z; exact z)⟩, ⟨?_, fun n hn' => ?_, fun n a ea => ?_, fun i j a e1 e2 => ?_, fun n a o ea qa => ?_, hr.tab⟩, .obj mpush_self⟩
  · have z := s.kp a o ea hna ht hw
    rw [del_ne (ne_of_none ea hD)] at z
    exact z
  · unfold mpush at ea
    split at ea
    · cases ea
      exact .inr fun o eo => by rw [hD] at eo; cases eo
    · exact s.fr n a ea
  · obtain ⟨o', e', n'⟩ := s.al a o ea ht
    rw [del_ne (ne_of_none ea hD)] at e'
    exact ⟨o', e', n'⟩
  · simp [Hs.push, hr.len]
  · unfold mpush
    by_cases en : n = h.n
    · exact ⟨D, by rw [if_pos en]⟩
    · rw [if_neg en]; exact hr.dom n (by simp [Hs.push] at hn'; omega)
  · unfold mpush at ea
    split at ea
    · simp [Hs.push]; omega
    · have := hr.dom' n a ea; simp [Hs.push]; omega
  · unfold mpush at e1 e2
    split at e1 <;> split at e2
    · omega
    · cases e1; exact absurd e2 (hn j)
    · cases e2; exact absurd e1 (hn i)
    · exact hr.inj i j a e1 e2
  · rw [get_push hr.len] at qa
    unfold mpush at ea
    split at ea
    · rename_i en
      rw [if_pos en] at qa
      cases qa; cases ea
      exact new
    · rename_i en
      rw [if_neg en] at qa
      exact (hr.ob n a o ea qa).mapW rfl (fun _ z => z) (fun _ _ z => .inl z) fun _ _ q => q.mono le fun _ _ _ z => z
theorem adopt (s : Stp m1 H1 m (del H D)) (hr : HR K G m h H) (hn : NotIn m D) (hD : H1 D = none) {ws : List W} {xs : List V} (e : H D = some (.lst xs)) (q : RWs K m H ws xs) :
    Stp m1 H1 (mpush m h.n D) H ∧ HR K G (mpush m h.n D) (h.push (.lst ws)) H ∧ RW K (mpush m h.n D) H (.obj h.n) (.ref D) := adoptO s hr hn hD ⟨xs, e, q.mono (mpush_le hr) fun _ _ _ z => z⟩
end
end GS
-- GsEv11
namespace GS
open PySem PySem.Spec PyProof.Rows L2
section
variable (K : PySem.W.Frag) (G : Gl0) (N : Nat)
def TEu (r : Nat → Env → Hs → R W) : TE := fun σ H Q => ∃ k, k < N ∧ TR K G E0 (r k) σ H Q
def TTu (r : Nat → Env → Hs → R Bool) : TT := fun σ H Q => ∃ k, k < N ∧ TRT K G E0 (r k) σ H Q
def TIu (r : Nat → Env → Hs → R ItV) : TI := fun σ H Q => ∃ k, k < N ∧ TRI K G E0 (r k) σ H Q
end
section
variable {K : PySem.W.Frag} {G : Gl0} {E : XK}
theorem post_noex {α : Type} {Qo : α → Hs → Prop} {m : Mp} {H : Hp} {r : R α} (p : r.post Qo (fun _ _ _ => False)) : r.post Qo (ExP K G E m H) := post_mono (fun _ _ z => z) (fun _ _ _ z => z.elim) p
/-- the state within a comprehension's loop: D the new list -/
structure LcS (K : PySem.W.Frag) (G : Gl0) (m1 : Mp) (H1 : Hp) (D : Addr) (own : List Nat) (v : Env) (σ : L2.St) (I : ItV) (J : L2.It) (m : Mp) (h : Hs) (H : Hp) (ws : List W) (xs : List V) : Prop where
  fr : FR K m H (wipeE v own) (wipe σ own)
  hr : HR K G m h H
  ni : NotIn m D
  jr : JR K m H I J
  at_ : H D = some (.lst xs)
  rs : RWs K m H ws xs
  st : Stp m1 H1 m (del H D)
/-- what is to be shown of all items -/
def LcF (K : PySem.W.Frag) (G : Gl0) (m1 : Mp) (H1 : Hp) (D : Addr) (Q : VK) (ws : List W) (h' : Hs) : Prop := ∀ m' H' xs, Stp m1 H1 m' (del H' D) → HR K G m' h' H' → NotIn m' D → H' D = some (.lst xs) → RWs K m' H' ws xs → Q (.ref D) H'
theorem LcF.of {m1 : Mp} {H1 : Hp} {D : Addr} {Q : VK} (hD : H1 D = none) {ws : List W} {h' : Hs} (p : OkP K G m1 H1 Q (.obj h'.n) (h'.push (.lst ws))) : LcF K G m1 H1 D Q ws h' := fun m' H' xs st hr ni e rs => by
  obtain ⟨s, hr2, q⟩ := adopt st hr ni hD e rs
  exact p _ _ _ s hr2 q
section
variable {m1 : Mp} {H1 : Hp} {D : Addr} {own : List Nat} {v : Env} {σ : L2.St} {I : ItV} {J : L2.It} {m m' : Mp} {h h' : Hs} {H H' : Hp} {ws : List W} {xs : List V}
/-- a step of ours -/
theorem LcS.step (L : LcS K G m1 H1 D own v σ I J m h H ws xs) (s : Stp m H m' H') (hr : HR K G m' h' H') : LcS K G m1 H1 D own v σ I J m' h' H' ws xs :=
  ⟨L.fr.mono L.hr s, hr, s.notIn L.ni L.at_, L.jr.mono L.hr s, s.keepD L.ni L.at_, L.hr.rws s L.rs, L.st.trans (s.dels L.ni L.at_)⟩
/-- one more item -/
theorem LcS.app (L : LcS K G m1 H1 D own v σ I J m h H ws xs) {w : W} {y : V} (q : RW K m H w y) : LcS K G m1 H1 D own v σ I J m h (upd H D (.lst (xs ++ [y]))) (ws ++ [w]) (xs ++ [y]) :=
  ⟨L.fr.other L.at_, L.hr.other L.ni L.at_, L.ni, L.jr.other L.at_, upd_same, (L.rs.append (.cons q .nil)).other L.at_, by rw [del_upd]; exact L.st⟩
theorem LcS.fin (L : LcS K G m1 H1 D own v σ I J m h H ws xs) {Q : VK} (p : LcF K G m1 H1 D Q ws h) : Q (.ref D) H := p _ _ _ L.st L.hr L.ni L.at_ L.rs
end
theorem LcS.new {own : List Nat} {v : Env} {σ : L2.St} {I : ItV} {J : L2.It} {m m1 : Mp} {h h1 : Hs} {H H1 : Hp} {D : Addr} (fr : FR K m H v σ) (hr : HR K G m h H) (s1 : Stp m H m1 H1) (hr1 : HR K G m1 h1 H1) (jr : JR K m1 H1 I J) (hD : H1 D = none) :
    LcS K G m1 H1 D own v σ I J m1 h1 (upd H1 D (.lst [])) [] [] := by
  have ni : NotIn m1 D := fun n e => by obtain ⟨u, hu, _⟩ := hr1.mut e; rw [hD] at hu; cases hu
  have hr2 : HR K G m1 h1 (upd H1 D (.lst [])) := ⟨hr1.len, hr1.dom, hr1.dom', hr1.inj, fun n a o ea qa => by
    obtain ⟨u, hu, _⟩ := hr1.mut ea
    exact (hr1.ob n a o ea qa).step hr1 (.tup hD) (by rw [upd_ne (ne_of_none hu hD)]), tabs_upd hr1.tab fun u e => by rw [hD] at e; cases e⟩
  exact ⟨((fr.mono hr s1).mono hr1 (.tup hD)).wipe own, hr2, ni, jr.mono hr1 (.tup hD), upd_same, .nil, .del0 hD⟩
theorem setTg_run {t : Tg} {own : List Nat} (ht : (tgIx t).all (fun i => own.contains i) = true) {m : Mp} {H : Hp} {h : Hs} {w : W} {x : V} {v v2 : Env} {σ : L2.St} {Q : L2.St → Hp → Prop} (hr : HR K G m h H) (q : RW K m H w x) (fr : FR K m H (wipeE v own) (wipe σ own)) (e : setTg t w (wipeE v own) = some v2)
    (k : ∀ σ2, FR K m H v2 σ2 → wipe σ2 own = wipe σ own → Q σ2 H) : TGR K G t x (wipe σ own) H Q :=
  ⟨m, h, w, _, v2, hr, q, fr, e, fun σ2 f2 l2 o2 => k σ2 f2 (wipe_of l2 o2 ht)⟩

theorem lc_tLc {Cl : Cl} {n : Nat} {elt : Ex} {t : Tg} {it : It} {cs : Exs} {own : List Nat} (ht : (tgIx t).all (fun i => own.contains i) = true) {σ : L2.St} {H : Hp} {Q : VK} (q : TR K G E (rE Cl (n + 1) (.lc elt t it cs own)) σ H Q) :
    tLc (TRI K G E (rI Cl n it)) (TGR K G t) (TTu K G n fun k => rT Cl k cs) (TEu K G n fun k => rE Cl k elt) own σ H Q := by
  obtain ⟨m, v, h, fr, hr, p⟩ := q
  rw [rE] at p
  refine ⟨m, v, h, fr, hr, post_mono (fun I h1 p m1 H1 J s1 hr1 jr D hD => ?_) (fun _ _ _ z => z) (post_bind p)⟩
  have p : (rLc Cl n elt t I cs 0 0 (wipeE v own) h1).post (fun ws h' => LcF K G m1 H1 D Q ([] ++ ws) h') (fun _ _ _ => False) := post_mono (fun ws h' p => LcF.of hD (OkP.later s1 p)) (fun _ _ _ z => z) (noEx_post (post_bind p))
  have L0 : LcS K G m1 H1 D own v σ I J m1 h1 (upd H1 D (.lst [])) [] [] := LcS.new fr hr s1 hr1 jr hD
  refine ⟨fun i k H2 => ∃ m2 h2 ws xs, k ≤ n ∧ LcS K G m1 H1 D own v σ I J m2 h2 H2 ws xs ∧ (rLc Cl k elt t I cs i xs.length (wipeE v own) h2).post (fun us h' => LcF K G m1 H1 D Q (ws ++ us) h') (fun _ _ _ => False), ⟨n, m1, h1, [], [], Nat.le_refl _, L0, p⟩, ?_⟩
  rintro i k H2 ⟨m2, h2, ws, xs, hk, L, p⟩
  cases k with
  | zero => rw [rLc] at p; exact p.elim
  | succ k =>
    rw [rLc] at p
    split at p
    · exact p.elim
    · rename_i e
      have p : LcF K G m1 H1 D Q (ws ++ []) h2 := p
      rw [List.append_nil] at p
      exact .inl ⟨L.jr.stop L.hr e, L.fin p⟩
    · rename_i x e
      obtain ⟨go, yl⟩ := L.jr.go L.hr e
      refine .inr ⟨go, fun H' => ∃ k', k' < k + 1 ∧ _, fun H' z => z, fun x' H' yx => ?_⟩
      obtain ⟨s2, hr2, q2⟩ := yl x' H' yx
      have L2 := L.step s2 hr2
      split at p
      · exact p.elim
      · rename_i v2 e2
        refine setTg_run ht hr2 q2 L2.fr e2 fun σ2 f2 w2 => ⟨w2, k, by omega, m2, v2, h2, f2, hr2, post_mono (fun b h3 p m3 H3 s3 hr3 => ?_) (fun _ _ _ z => z.elim) (post_bind p)⟩
        have L3 := L2.step s3 hr3
        cases b with
        | false => exact ⟨k, by omega, m3, h3, ws, xs, by omega, L3, p⟩
        | true =>
          refine ⟨k, by omega, m3, v2, h3, f2.mono hr2 s3, hr3, post_mono (fun w h4 p m4 H4 y s4 hr4 qy => ?_) (fun _ _ _ z => z.elim) (post_bind p)⟩
          have L4 := L3.step s4 hr4
          obtain ⟨hz, p⟩ := post_if p
          refine ⟨xs, L4.at_, hz, k, by omega, m4, h4, ws ++ [w], xs ++ [y], by omega, L4.app qy, ?_⟩
          rw [List.length_append]
          exact post_mono (fun us h' p => by rw [List.append_assoc]; exact p) (fun _ _ _ z => z) (post_bind p)

theorem lc2_tLc {Cl : Cl} {n : Nat} {elt : Ex} {t t1 : Tg} {it it1 : It} {cs cs1 : Exs} {own own1 : List Nat} (ht : (tgIx t).all (fun i => own.contains i) = true) (ht1 : (tgIx t1).all (fun i => own1.contains i) = true) {σ : L2.St} {H : Hp} {Q : VK}
    (q : TR K G E (rE Cl (n + 1) (.lc2 elt t it cs t1 it1 cs1 own own1)) σ H Q) :
    tLc2 (TRI K G E (rI Cl n it)) (TGR K G t) (TTu K G n fun k => rT Cl k cs) (TIu K G n fun k => rI Cl k it1) (TGR K G t1) (TTu K G n fun k => rT Cl k cs1) (TEu K G n fun k => rE Cl k elt) own own1 σ H Q := by
  obtain ⟨m, v, h, fr, hr, p⟩ := q
  rw [rE] at p
  refine ⟨m, v, h, fr, hr, post_mono (fun I h1 p m1 H1 J s1 hr1 jr D hD => ?_) (fun _ _ _ z => z) (post_bind p)⟩
  have p : (rLc2 Cl n elt t I cs t1 it1 cs1 own1 0 0 (wipeE v own) h1).post (fun ws h' => LcF K G m1 H1 D Q ([] ++ ws) h') (fun _ _ _ => False) := post_mono (fun ws h' p => LcF.of hD (OkP.later s1 p)) (fun _ _ _ z => z) (noEx_post (post_bind p))
  have L0 : LcS K G m1 H1 D own v σ I J m1 h1 (upd H1 D (.lst [])) [] [] := LcS.new fr hr s1 hr1 jr hD
  refine ⟨fun i k H2 => ∃ m2 h2 ws xs, k ≤ n ∧ LcS K G m1 H1 D own v σ I J m2 h2 H2 ws xs ∧ (rLc2 Cl k elt t I cs t1 it1 cs1 own1 i xs.length (wipeE v own) h2).post (fun us h' => LcF K G m1 H1 D Q (ws ++ us) h') (fun _ _ _ => False), ⟨n, m1, h1, [], [], Nat.le_refl _, L0, p⟩, ?_⟩
  rintro i k H2 ⟨m2, h2, ws, xs, hk, L, p⟩
  cases k with
  | zero => rw [rLc2] at p; exact p.elim
  | succ k =>
    rw [rLc2] at p
    split at p
    · exact p.elim
    · rename_i e
      have p : LcF K G m1 H1 D Q (ws ++ []) h2 := p
      rw [List.append_nil] at p
      exact .inl ⟨L.jr.stop L.hr e, L.fin p⟩
    · rename_i x e
      obtain ⟨go, yl⟩ := L.jr.go L.hr e
      refine .inr ⟨go, fun H' => ∃ k', k' < k + 1 ∧ _, fun H' z => z, fun x' H' yx => ?_⟩
      obtain ⟨s2, hr2, q2⟩ := yl x' H' yx
      have L2 := L.step s2 hr2
      split at p
      · exact p.elim
      · rename_i v2 e2
        refine setTg_run ht hr2 q2 L2.fr e2 fun σ2 f2 w2 => ⟨w2, k, by omega, m2, v2, h2, f2, hr2, post_mono (fun b h3 p m3 H3 s3 hr3 => ?_) (fun _ _ _ z => z.elim) (post_bind p)⟩
        have L3 := L2.step s3 hr3
        cases b with
        | false => exact ⟨k, by omega, m3, h3, ws, xs, by omega, L3, p⟩
        | true =>
          refine ⟨k, by omega, m3, v2, h3, f2.mono hr2 s3, hr3, post_mono (fun I1 h4 p m4 H4 J1 s4 hr4 jr1 => ?_) (fun _ _ _ z => z.elim) (post_bind p)⟩
          have L4 := L3.step s4 hr4
          have f4 : FR K m4 H4 v2 σ2 := (f2.mono hr2 s3).mono hr3 s4
          -- the second clause's own loop
          have M0 : LcS K G m1 H1 D own1 v2 σ2 I1 J1 m4 h4 H4 ws xs := ⟨f4.wipe own1, hr4, L4.ni, jr1, L4.at_, L4.rs, L4.st⟩
          refine ⟨fun j l H5 => ∃ m5 h5 us ys, l ≤ k ∧ LcS K G m1 H1 D own1 v2 σ2 I1 J1 m5 h5 H5 (ws ++ us) ys ∧ LcS K G m1 H1 D own v σ I J m5 h5 H5 (ws ++ us) ys ∧ ys.length = xs.length + us.length ∧
              (rLc Cl l elt t1 I1 cs1 j ys.length (wipeE v2 own1) h5).post (fun us2 h' => ((rLc2 Cl k elt t I cs t1 it1 cs1 own1 (i + 1) (xs.length + (us ++ us2).length) (wipeE v own) h').bind fun us' h => .ok ((us ++ us2) ++ us') h).post (fun us h' => LcF K G m1 H1 D Q (ws ++ us) h') (fun _ _ _ => False)) (fun _ _ _ => False),
            ⟨k, m4, h4, [], xs, Nat.le_refl _, by rw [List.append_nil]; exact M0, by rw [List.append_nil]; exact L4, rfl, post_bind p⟩, ?_⟩
          rintro j l H5 ⟨m5, h5, us, ys, hl, M, L5, el, p⟩
          cases l with
          | zero => rw [rLc] at p; exact p.elim
          | succ l =>
            rw [rLc] at p
            split at p
            · exact p.elim
            · rename_i e5
              refine .inl ⟨M.jr.stop M.hr e5, k, by omega, m5, h5, ws ++ us, ys, by omega, L5, ?_⟩
              have p : ((rLc2 Cl k elt t I cs t1 it1 cs1 own1 (i + 1) (xs.length + (us ++ []).length) (wipeE v own) h5).bind fun us' h => .ok ((us ++ []) ++ us') h).post (fun us h' => LcF K G m1 H1 D Q (ws ++ us) h') (fun _ _ _ => False) := p
              rw [List.append_nil, ← el] at p
              exact post_mono (fun us' h' p => by rw [List.append_assoc]; exact p) (fun _ _ _ z => z) (post_bind p)
            · rename_i x5 e5
              obtain ⟨go5, yl5⟩ := M.jr.go M.hr e5
              refine .inr ⟨go5, fun H' => ∃ k', k' < l + 1 ∧ _, fun H' z => z, fun x' H' yx => ?_⟩
              obtain ⟨s6, hr6, q6⟩ := yl5 x' H' yx
              have M6 := M.step s6 hr6
              have L6 := L5.step s6 hr6
              split at p
              · exact p.elim
              · rename_i v6 e6
                refine setTg_run ht1 hr6 q6 M6.fr e6 fun σ6 f6 w6 => ⟨w6, l, by omega, m5, v6, h5, f6, hr6, post_mono (fun b h7 p m7 H7 s7 hr7 => ?_) (fun _ _ _ z => z.elim) (post_bind p)⟩
                have M7 := M6.step s7 hr7
                have L7 := L6.step s7 hr7
                cases b with
                | false => exact ⟨l, by omega, m7, h7, us, ys, by omega, M7, L7, el, p⟩
                | true =>
                  refine ⟨l, by omega, m7, v6, h7, f6.mono hr6 s7, hr7, post_mono (fun w h8 p m8 H8 y s8 hr8 qy => ?_) (fun _ _ _ z => z.elim) (post_bind p)⟩
                  have M8 := M7.step s8 hr8
                  have L8 := L7.step s8 hr8
                  obtain ⟨hz, p⟩ := post_if p
                  refine ⟨ys, M8.at_, hz, l, by omega, m8, h8, us ++ [w], ys ++ [y], by omega, by rw [← List.append_assoc]; exact M8.app qy, by rw [← List.append_assoc]; exact L8.app qy, by simp only [List.length_append, List.length_singleton, el]; omega, ?_⟩
                  rw [List.length_append]
                  exact post_mono (fun us2 h' p => by rw [List.append_assoc]; exact p) (fun _ _ _ z => z) (post_bind p)
end
end GS
-- GsDc1
namespace GS
open PySem PySem.Spec PyProof.Rows L2
/-- how a dict grows: what stands at its address, what one more key makes of it -/
structure Grw (P : Program) (w : World) (K : PySem.W.Frag) where
  T : Type
  ob : Addr → T → HO
  t0 : T
  put : T → V → V → Hp → T → Prop
  new : ∀ (H : Hp) (h : Heap), sysModules < h.objs.size → ObjOk P w H (h.push { cls := .type "dict", data := .dict #[] }) h.objs.size (ob h.objs.size t0)
  set : ∀ (X : Cx), X.prog = P → X.w = w → X.K = K → X.A.units + 1 < cLine → ∀ {pins : List (Addr × Obj)} {s : Shared} {σ : L2.St} {H : Hp} {E : Value → Shared → Prop} {d : Addr} {t t' : T} {y z : V} {u r : Value} {Q : Unit → Shared → Prop}, Inv X pins σ H s → H d = some (ob d t) → put t y z H t' → RelV y u → RelV z r →
    (∀ s', Inv X pins σ (upd H d (ob d t')) s' → Q () s') → wpAny (model X.prog X.w) X.A (dictSet d u r) Q E s
/-- {k: v for target in iter if ..} -/
def tDg {P : Program} {w : World} {K : PySem.W.Frag} (A : Grw P w K) (wi : TI) (g : TG) (tt : TT) (tk tv : TE) (vs : List Nat) : TE := fun σ H Q => wi σ H fun J H1 => ∀ d, H1 d = none →
  ∃ W : Nat → Nat → Hp → Prop, (∃ n, W 0 n (upd H1 d (A.ob d A.t0))) ∧ ∀ i n H, W i n H →
    (J.stop i H ∧ Q (.ref d) H) ∨ (J.go i H ∧ ∃ On : Hp → Prop, (∀ H', On H' → ∃ n', n' < n ∧ W (i + 1) n' H') ∧ ∀ x H', J.yld i H x H' → g x (wipe σ vs) H' fun σ2 H2 => wipe σ2 vs = wipe σ vs ∧ tt σ2 H2 fun b H3 =>
      if b = true then tk σ2 H3 fun y H4 => tv σ2 H4 fun z H5 => ∃ t t', H5 d = some (A.ob d t) ∧ A.put t y z H5 t' ∧ On (upd H5 d (A.ob d t')) else On H3)
section
variable {X : Cx}
theorem pe_dg (A : Grw X.prog X.w X.K) {kx vx tg iter : Expr} {ifs : List Expr} {scope : Scope} {own : List (Str × Nat)} {pos : Pos} {wi : TI} {g : TG} {tt : TT} {tk tv : TE} (hu : X.A.units + 1 < cLine) (hc : X.calm = true) (hN : X.N.Nodup) (hi : PI X tg iter wi) (ok : BlkOk X.N X.env.scope scope own)
    (hg : ∀ s H C cl fp, PG (X.blk s H scope (compEnvC scope cl C X.env) fp) tg g) (ht : ∀ s H C cl fp, PTs (X.blk s H scope (compEnvC scope cl C X.env) fp) ifs tt)
    (hk : ∀ s H C cl fp, PE (X.blk s H scope (compEnvC scope cl C X.env) fp) kx tk) (hv : ∀ s H C cl fp, PE (X.blk s H scope (compEnvC scope cl C X.env) fp) vx tv) (hs : ∀ x, foldedSetIterable iter X.env x = pure x) :
    PE X (.DictComp kx vx [⟨tg, iter, ifs, 0⟩] scope pos) (tDg A wi g tt tk tv (own.map (·.2))) := by
  refine ⟨fun pins s σ H Q I h => ?_⟩
  rw [arm_eval_DictComp]
  have cap : ∀ y ∈ scope.names, y.2 = .free → ∃ c, X.env.cells.lookup y.1 = some c := fun y hy e => (ok.free y hy e).elim (fun z => I.ok.has _ (.inl z)) fun z => I.ok.has _ (.inr z)
  refine wpAny_comprehension_free (use := none) rfl hs (closure_ok cap) ok.kind (fun y hy e => (ok.uniq y hy).trans (congrArg some e)) (thn (hi.run pins s σ H _ I h) fun xv sa ha => thn ha fun iv sb hb => ?_)
  obtain ⟨it, fp, tn, J, Hb, rfl, Ib, T, stb, fb, q⟩ := hb
  refine wpAny_newObj_type (newEnv_comp ?_)
  generalize ed : sb.heap.objs.size = d
  obtain ⟨W, ⟨n0, w0⟩, turn⟩ := q d (Ib.hok.fresh (Nat.le_of_eq ed))
  -- the empty dict is laid
  generalize ec : ({ sb with heap := sb.heap.push { cls := .type "dict", data := .dict #[] } } : Shared) = sc
  have Ic : Inv X pins σ (upd Hb d (A.ob d A.t0)) sc := by
    rw [← ec]
    refine Ib.laid (t' := sb.toks) (fun _ _ e => Heap.get?_push_of_some _ e) (Nat.le_of_eq ed) ?_
    subst ed
    exact A.new _ _ Ib.big
  have hc3 : sc.heap = sb.heap.push { cls := .type "dict", data := .dict #[] } := by rw [← ec]
  have fc : ∀ b ∈ fp, FpOk X pins (upd Hb d (A.ob d A.t0)) b ∧ b < sc.heap.objs.size := fun b hb => by
    obtain ⟨o, e, _⟩ := T.obj _ _ stb b hb
    have lt := Heap.lt_size e
    exact ⟨⟨(upd_ne (ed ▸ Nat.ne_of_lt lt)).trans (fb b hb).1, (fb b hb).2⟩, by rw [hc3, Heap.size_push]; exact Nat.lt_succ_of_lt lt⟩
  have stc : tn 0 sc.heap := T.keep _ _ _ stb fun b _ o e => by rw [hc3]; exact Heap.get?_push_of_some _ e
  have Id := block_start Ic ok hN fc
  have pg := hg sc (upd Hb d (A.ob d A.t0)) sc.heap.objs.size (cellsFrom (sc.heap.objs.size + 1) scope.names (cloFrom X.env.cells scope.names [])) fp
  have pt := ht sc (upd Hb d (A.ob d A.t0)) sc.heap.objs.size (cellsFrom (sc.heap.objs.size + 1) scope.names (cloFrom X.env.cells scope.names [])) fp
  have pk := hk sc (upd Hb d (A.ob d A.t0)) sc.heap.objs.size (cellsFrom (sc.heap.objs.size + 1) scope.names (cloFrom X.env.cells scope.names [])) fp
  have pv := hv sc (upd Hb d (A.ob d A.t0)) sc.heap.objs.size (cellsFrom (sc.heap.objs.size + 1) scope.names (cloFrom X.env.cells scope.names [])) fp
  show codeAny _ _ (.compStart (.DictComp kx vx [⟨tg, iter, ifs, 0⟩] scope pos) 0 (.ref it) (.ref d) (compEnvC scope (cellsFrom (sc.heap.objs.size + 1) scope.names (cloFrom X.env.cells scope.names [])) sc.heap.objs.size X.env)) _ { sc with heap := pushCells (sc.heap.push { cls := .type "dict", data := .dict #[] }) scope.names }
  generalize eE : compEnvC scope (cellsFrom (sc.heap.objs.size + 1) scope.names (cloFrom X.env.cells scope.names [])) sc.heap.objs.size X.env = env at Id pg pt pk pv ⊢
  have eL : env.locals = sc.heap.objs.size := by subst eE; rfl
  generalize eH : upd Hb d (A.ob d A.t0) = Hc at Ic Id pg pt pk pv w0 fc
  generalize es : ({ sc with heap := pushCells (sc.heap.push { cls := .type "dict", data := .dict #[] }) scope.names } : Shared) = sd at Id ⊢
  have std : tn 0 sd.heap := T.keep _ _ _ stc fun b _ o e => by rw [← es]; exact pushCells_keeps _ _ _ _ (Heap.get?_push_of_some _ e)
  have own1 : ∀ {σ' : L2.St} {H' : Hp} {s' : Shared}, Inv (X.blk sc Hc scope env fp) [] σ' H' s' → (∀ b ∈ fp, H' b = none) → ∀ b ∈ fp, FpOk (X.blk sc Hc scope env fp) [] H' b := fun I' hn b hb =>
    ⟨hn b hb, (I'.ok.exf b hb).1, I'.ok.exfs b hb, .inl hb, fun x c e => (I'.ok.exf b hb).2 x c e, fun p hp => absurd (show p ∈ ([] : List (Addr × Obj)) ++ [] from hp) (by simp)⟩
  have loop := compLoop_anyD (prog := X.prog) (w := X.w) (A := X.A) (kx := kx) (vx := vx) (target := tg) (iter := iter) (ifs := ifs) (scope := scope) (pos := pos) (it := .ref it) (D := d) (env := env) (R := compPost (model X.prog X.w) X.A X.xe none (EP X pins σ Q) (.ref d) sc.heap.objs.size) (s := sd)
    (fun n s' => ∃ i H', Inv (X.blk sc Hc scope env fp) [] (wipe σ (own.map (·.2))) H' s' ∧ tn i s'.heap ∧ (∀ b ∈ fp, H' b = none) ∧ W i n H') ?_ n0 ⟨0, Hc, Id, std, fun b hb => (fc b hb).1.1, w0⟩
  · exact codeAny_compStart_dict loop (T.self X.A 0 _ _ _ std loop)
  rintro n se ⟨i, He, Ie, ste, ne, we⟩
  rcases turn i n He we with ⟨stop, last⟩ | ⟨go, On, hOn, step⟩
  · refine thnF (T.done (X.blk sc Hc scope env fp) rfl rfl rfl hc i [] se _ He (fun _ _ => False) Ie (own1 Ie ne) ste stop) fun r sf ⟨er, If⟩ => ?_
    subst er
    have Ig : Inv X pins σ He sf := Ic.call' (ch := fp) If.os If.base If.hok If.bare fun b hb => by
      obtain ⟨k0, k1, k2, k3, k4, k5⟩ := (fc b hb).1
      exact ⟨k3, k1, k4, k5⟩
    have fre : He sc.heap.objs.size = none := by rw [← eL]; exact If.free
    obtain ⟨ns, hns, _⟩ := If.loc
    have hns : sf.heap.Ns env.locals ns := hns
    rw [eL] at hns
    obtain ⟨f0, f1, f2, f3, f4, f5⟩ := Ic.fpOk (Nat.le_refl _) fre
    exact ⟨ns, hns, fun h'' sbt => ⟨.ref d, He, Ig.turned (t' := sf.toks) (fun b o hb e => (sbt.2 b hb).trans e) f0 f1 f3 f4 f5, rfl, last⟩⟩
  · refine thnF (T.item (X.blk sc Hc scope env fp) rfl rfl rfl hc i [] se _ He (fun _ _ => False) Ie (own1 Ie ne) ste go) fun r sf ⟨u, er, hf⟩ => ?_
    subst er
    refine thnF hf fun _ sg ⟨x, Hg, Ig, rg, yg, stg, ng⟩ => ?_
    refine thnF (pg.run _ sg _ Hg x u _ (Ig.pinned (own1 Ig ng) (T.obj _ _ stg)) rg (step x Hg yg)) fun _ sh ⟨σh, Hh, Ih, ew, qh⟩ => ?_
    refine thnF (pt.run _ sh σh Hh _ Ih qh) fun b si ⟨Hi, Ii, qi⟩ => ?_
    have back : ∀ {s' : Shared} {H' : Hp}, Inv (X.blk sc Hc scope env fp) ([] ++ pinsAt fp sg.heap) σh H' s' → On H' → ∃ n', n' < n ∧ ∃ i H', Inv (X.blk sc Hc scope env fp) [] (wipe σ (own.map (·.2))) H' s' ∧ tn i s'.heap ∧ (∀ b ∈ fp, H' b = none) ∧ W i n' H' := fun {s' H'} I' on => by
      obtain ⟨n', lt, wn⟩ := hOn H' on
      have pin : ∀ b ∈ fp, ∀ o, sg.heap.get? b = some o → s'.heap.get? b = some o ∧ H' b = none := fun b hb o e => by
        obtain ⟨z1, z2, _⟩ := I'.pin (b, o) (List.mem_append_right _ (List.mem_append_right _ (mem_pinsAt hb e)))
        exact ⟨z1, z2⟩
      refine ⟨n', lt, i + 1, H', (I'.unpinned (pins := [])).weak (by rw [← ew, wipe_length]) (fun j v e => ?_), T.keep _ _ _ stg fun b hb o e => (pin b hb o e).1, fun b hb => ?_, wn⟩
      · rw [← ew] at e
        exact (wipe_some e).1
      · obtain ⟨o, e, _⟩ := T.obj _ _ stg b hb
        exact (pin b hb o e).2
    cases b with
    | false => exact back Ii (by simpa using qi)
    | true =>
      rw [if_pos rfl]
      rw [if_pos rfl] at qi
      refine thnF (pk.run _ si σh Hi _ Ii qi) fun zk sj ⟨yk, Hj, Ij, rj, qj⟩ => ?_
      refine thnF (pv.run _ sj σh Hj _ Ij qj) fun zv sk ⟨yv, Hk, Ik, rk, t, t', ek, pu, on⟩ => ?_
      exact A.set (X.blk sc Hc scope env fp) rfl rfl rfl hu Ik ek pu rj rk fun sl Il => back Il on
end
end GS
-- GsDc2
namespace GS
open PySem PySem.Spec PyProof.Rows L2
/-- a dict by tuples, as it stands -/
def dX (P : Program) (w : World) (d : Addr) (xs : List (List Key × Addr × Value)) : HO := .ext fun h => (d == sysModules) = false ∧ ∃ o es ep, h.get? d = some o ∧ o.ExactDict ∧ o.data = .dict es ep ∧ es.toList = xs.map (entryOfKey (tupleKind (mixKind P w)))
theorem rep_get {d c : Addr} {o oc : Obj} (h : ({ objs := Array.replicate (d + 1) o } : Heap).get? c = some oc) : oc = o := by
  unfold Heap.get? at h
  split at h
  · cases h
  · rename_i e
    have z : (Array.replicate (d + 1) o)[c]? = some oc := h
    rw [Array.getElem?_replicate] at z
    split at z
    · exact (Option.some.inj z).symm
    · cases z
theorem rep_at {d : Addr} {o : Obj} (ho : o.data ≠ .freed) : ({ objs := Array.replicate (d + 1) o } : Heap).get? d = some o := by
  have z : (Array.replicate (d + 1) o)[d]? = some o := by rw [Array.getElem?_replicate, if_pos (Nat.lt_succ_self d)]
  unfold Heap.get?
  show (match (Array.replicate (d + 1) o)[d]? with | some ⟨_, _, .freed, _⟩ => none | o => o) = some o
  rw [z]
  obtain ⟨c, dd, dt, sl⟩ := o
  cases dt <;> first
    | rfl
    | exact absurd rfl ho
instance {P : Program} {w : World} {d : Addr} {xs : List (List Key × Addr × Value)} : Own (dX P w d xs) where
  nc := fun c q z => by
    unfold dX LamX.CodeO at z
    injection z with z
    by_cases hd : (d == sysModules) = true
    · have a := congrFun z ({ objs := Array.replicate (c + 1) { cls := .none, data := .fields #[.none, .str q 0] } } : Heap)
      have b := (a.mpr ⟨_, _, 0, rep_at (by intro e; cases e), rfl, rfl⟩).1
      rw [hd] at b
      cases b
    · have a := congrFun z ({ objs := Array.replicate (d + 1) { cls := .type "dict", data := .dict (xs.map (entryOfKey (tupleKind (mixKind P w)))).toArray 0 } } : Heap)
      have b := a.mp ⟨by simpa using hd, _, _, 0, rep_at (by intro e; cases e), ⟨rfl, rfl, rfl⟩, rfl, rfl⟩
      obtain ⟨oc, vs, t, e1, e2, _⟩ := b
      have e3 := rep_get e1
      subst e3
      cases e2
  nt := fun _ z => by unfold dX at z; cases z
  ntup := fun _ z => by unfold dX at z; cases z
  nfrz := fun _ _ z => by unfold dX at z; cases z
  nown := fun _ z => by unfold dX at z; cases z
  nxd := fun _ z => by unfold dX at z; cases z
theorem dX_ok {P : Program} {w : World} {H : Hp} {h : Heap} {d : Addr} {xs : List (List Key × Addr × Value)} {o : Obj} {es : Array DictEntry} {ep : Nat} (h0 : (d == sysModules) = false) (h1 : h.get? d = some o) (h2 : o.ExactDict) (h3 : o.data = .dict es ep) (h4 : es.toList = xs.map (entryOfKey (tupleKind (mixKind P w)))) : ObjOk P w H h d (dX P w d xs) :=
  ⟨⟨h0, o, es, ep, h1, h2, h3, h4⟩, ⟨o, h1⟩, fun _ _ ⟨h0, o, es, ep, e1, e2⟩ k => ⟨h0, o, es, ep, k o e1, e2⟩⟩
abbrev DT : Type := List (Key × V) × List (List Key × Addr × Value)
def grwOb (P : Program) (w : World) : Bool → Addr → DT → HO
  | true, d, t => dX P w d t.2
  | false, _, t => .dK t.1
instance {P : Program} {w : World} {b : Bool} {d : Addr} {t : DT} : Own (grwOb P w b d t) := by
  cases b
  · exact (inferInstance : Own (.dK t.1))
  · exact (inferInstance : Own (dX P w d t.2))
def grwPut (K : PySem.W.Frag) : Bool → DT → V → V → Hp → DT → Prop
  | false, t, y, z, _, t' => ∃ k, y = kV k ∧ t.1.length < sizeLine ∧ t' = (putK t.1 k z, [])
  | true, t, y, z, H, t' => ∃ a ks, y = .ref a ∧ z = .bl true ∧ SqT K H a (ks.map kV) ∧ (∀ x ∈ t.2, SqT K H x.2.1 (x.1.map kV)) ∧ (t.2.map (·.1)).Nodup ∧ t.2.length < sizeLine ∧ t' = ([], storedH t.2 ks a (.bool true))
theorem key_sq {X : Cx} {pins : List (Addr × Obj)} {σ : L2.St} {H : Hp} {s : Shared} {a : Addr} {ks : List Key} (I : Inv X pins σ H s) (q : SqT X.K H a (ks.map kV)) : (tupleKind (mixKind X.prog X.w)).is s.heap ks a := by
  obtain ⟨its, r, ⟨o, h1, h2, n, h3⟩, _⟩ := I.tuple q
  exact ⟨o, its.toArray, n, h1, h2, h3, by simpa using items_are r⟩
def grw (P : Program) (w : World) (K : PySem.W.Frag) (b : Bool) : Grw P w K where
  T := DT
  ob := grwOb P w b
  t0 := ([], [])
  put := grwPut K b
  new := fun H h hb => by
    cases b
    · exact dk_empty h hb
    · exact dX_ok (by simpa using Nat.ne_of_gt hb) (Heap.get?_push_size _ rfl) ⟨rfl, rfl, rfl⟩ rfl rfl
  set := fun X e1 e2 e3 hu pins s σ H E d t t' y z u r Q I hd pu ry rz hQ => by
    subst e1 e2 e3
    cases b with
    | false =>
      obtain ⟨k, rfl, hl, rfl⟩ := pu
      exact d_dictSet I hd hl ry rz hQ
    | true =>
      obtain ⟨a, ks, rfl, rfl, q, qs, nd, hl, rfl⟩ := pu
      cases (show u = Value.ref a from ry)
      cases (show r = Value.bool true from rz)
      obtain ⟨⟨h0, o, es, ep, h1, h2, h3, h4⟩, _, _⟩ := (show ObjOk X.prog X.w H s.heap d (dX X.prog X.w d t.2) from I.hok d _ hd)
      refine wpAny_dictSet_heap (knd := tupleKind (mixKind X.prog X.w)) (hsz := Nat.le_of_lt hl) (show X.A.units < cLine by omega) (key_sq I q) ⟨o, es, ep, h1, h2, h3, h4, fun x hx => key_sq I (qs x hx), nd⟩ fun h' dd' sb => hQ _ ?_
      obtain ⟨o', es', ep', g1, g2, g3, g4, _, _⟩ := dd'
      exact d_write I (by rw [hd]; exact True.intro) sb ⟨o', g1⟩ (dX_ok h0 g1 g2 g3 g4)
end GS
-- GsDc3
namespace GS
open PySem PySem.Spec PyProof.Rows L2
/-- the keys, tuples of ints and texts -/
inductive KX (K : PySem.W.Frag) (m : Mp) (H : Hp) : List (W × W) → List (List Key × Addr × Value) → Prop
  | nil : KX K m H [] []
  | cons {us : List W} {u : W} {ks : List Key} {a : Addr} {v : Value} {r : List (W × W)} {s : List (List Key × Addr × Value)} : RW K m H (.tup us) (.ref a) → Paired keyRel us ks → KX K m H r s → KX K m H ((.tup us, u) :: r) ((ks, a, v) :: s)
def DR (K : PySem.W.Frag) (m : Mp) (H : Hp) : Bool → List (W × W) → DT → Prop
  | true, acc, t => KX K m H acc t.2 ∧ (t.2.map (·.1)).Nodup
  | false, acc, t => KN K m H acc t.1
section
variable {K : PySem.W.Frag} {G : Gl0} {m m' : Mp} {h h' : Hs} {H H' : Hp}
theorem KX.mapW (f : ∀ w x, RW K m H w x → RW K m' H' w x) {acc : List (W × W)} {xs : List (List Key × Addr × Value)} (q : KX K m H acc xs) : KX K m' H' acc xs := by
  induction q with
  | nil => exact .nil
  | cons r k _ ih => exact .cons (f _ _ r) k ih
theorem DR.mapW (f : ∀ w x, RW K m H w x → RW K m' H' w x) {b : Bool} {acc : List (W × W)} {t : DT} (q : DR K m H b acc t) : DR K m' H' b acc t := by
  cases b with
  | true => exact ⟨q.1.mapW f, q.2⟩
  | false => exact KN.mapW f q
theorem KX.length {acc : List (W × W)} {xs : List (List Key × Addr × Value)} (q : KX K m H acc xs) : acc.length = xs.length := by
  induction q with
  | nil => rfl
  | cons _ _ _ ih => simp [ih]
theorem keys_vals {us : List W} {ks : List Key} {vs : List V} (k : Paired keyRel us ks) (q : RWs K m H us vs) : vs = ks.map kV := by
  induction k generalizing vs with
  | nil => cases q; rfl
  | @cons w x us ks hk _ ih =>
    cases q with
    | cons r rs =>
      rw [List.map_cons, ih rs]
      congr 1
      cases w <;> first
        | exact (show False from hk).elim
        | (have hk : x = _ := hk; subst hk; cases r; rfl)
theorem KX.sq {acc : List (W × W)} {xs : List (List Key × Addr × Value)} (q : KX K m H acc xs) : ∀ x ∈ xs, SqT K H x.2.1 (x.1.map kV) := by
  induction q with
  | nil => intro x hx; cases hx
  | cons r k _ ih =>
    intro x hx
    rcases List.mem_cons.mp hx with rfl | hx
    · cases r with | tup st rs => rw [← keys_vals k rs]; exact st
    · exact ih x hx
theorem eqFlats_iff {xs ys : List W} {ks ls : List Key} (h1 : Paired keyRel xs ks) (h2 : Paired keyRel ys ls) : eqFlats xs ys = decide (ks = ls) := by
  induction h1 generalizing ys ls with
  | nil => cases h2 <;> simp [eqFlats]
  | cons a _ ih =>
    cases h2 with
    | nil => simp [eqFlats]
    | cons b h2 =>
      rw [eqFlats, ih h2, eqFlat_iff a b]
      simp
theorem KX.any {acc : List (W × W)} {xs : List (List Key × Addr × Value)} (q : KX K m H acc xs) {us : List W} {ks : List Key} (k : Paired keyRel us ks) : acc.any (fun p => eqKey p.1 (.tup us)) = (atKey xs ks).isSome := by
  induction q with
  | nil => rfl
  | @cons vs u ls a v r s _ k2 _ ih =>
    rw [List.any_cons, ih]
    unfold atKey
    rw [show eqKey (.tup vs) (.tup us) = decide (ls = ks) from eqFlats_iff k2 k, List.find?_cons]
    by_cases hl : ls = ks
    · simp [hl]
    · simp [hl]
theorem KX.put {acc : List (W × W)} {xs : List (List Key × Addr × Value)} (q : KX K m H acc xs) (ks : List Key) (v : Value) : KX K m H acc (xs.map (putAt ks v)) := by
  induction q with
  | nil => exact .nil
  | cons r k _ ih =>
    rw [List.map_cons]
    unfold putAt
    split
    · exact .cons r k ih
    · exact .cons r k ih
theorem KX.snoc {acc : List (W × W)} {xs : List (List Key × Addr × Value)} (q : KX K m H acc xs) {us : List W} {u : W} {ks : List Key} {a : Addr} {v : Value} (r : RW K m H (.tup us) (.ref a)) (k : Paired keyRel us ks) : KX K m H (acc ++ [(.tup us, u)]) (xs ++ [(ks, a, v)]) := by
  induction q with
  | nil => exact .cons r k .nil
  | cons r2 k2 _ ih => exact .cons r2 k2 ih
theorem stored_keys {xs : List (List Key × Addr × Value)} {ks : List Key} {a : Addr} {v : Value} (nd : (xs.map (·.1)).Nodup) : ((storedH xs ks a v).map (·.1)).Nodup := by
  unfold storedH
  split
  · rw [List.map_map]
    have e : ((fun x : List Key × Addr × Value => x.1) ∘ putAt ks v) = fun x => x.1 := by
      funext x
      show (putAt ks v x).1 = x.1
      unfold putAt
      split <;> rfl
    rw [e]; exact nd
  · rename_i hn
    rw [List.map_append, List.nodup_append]
    refine ⟨nd, by simp, fun x hx y hy e => hn ?_⟩
    simp only [List.map_cons, List.map_nil, List.mem_singleton] at hy
    subst hy e
    obtain ⟨z, hz, rfl⟩ := List.mem_map.mp hx
    unfold atKey
    rw [Option.isSome_map, List.find?_isSome]
    exact ⟨z, hz, by simp⟩
theorem flat_keys : ∀ {us : List W} {vs : List V}, RWs K m H us vs → us.all flatW = true → ∃ ks, Paired keyRel us ks
  | [], _, _, _ => ⟨[], .nil⟩
  | w :: us, _, .cons r rs, h => by
    rw [List.all_cons, Bool.and_eq_true] at h
    obtain ⟨k, hk, _⟩ := key_of_flat r h.1
    obtain ⟨ks, p⟩ := flat_keys rs h.2
    exact ⟨k :: ks, .cons hk p⟩
/-- one more key -/
theorem addK_put {b : Bool} {a : W} {acc acc' : List (W × W)} {t : DT} {y : V} (d : DR K m H b acc t) (q : RW K m H a y) (e : addK b a acc = some acc') : ∃ t', grwPut K b t y (.bl true) H t' ∧ DR K m H b acc' t' := by
  unfold addK at e
  split at e
  · rename_i hz
    cases b with
    | true =>
      simp only at e
      split at e
      · rename_i hk
        cases a <;> first
          | cases hk
          | skip
        rename_i us
        cases q with
        | tup st rs =>
          rename_i x vs
          obtain ⟨ks, hk⟩ := flat_keys rs hk
          refine ⟨([], storedH t.2 ks x (.bool true)), ⟨x, ks, rfl, rfl, by rw [← keys_vals hk rs]; exact st, d.1.sq, d.2, by rw [← d.1.length]; exact hz, rfl⟩, ?_, stored_keys d.2⟩
          rw [d.1.any hk] at e
          cases e
          show KX K m H _ (storedH t.2 ks x (.bool true))
          unfold storedH
          split
          · exact d.1.put ks _
          · exact d.1.snoc (.tup st rs) hk
      · cases e
    | false =>
      simp only at e
      split at e
      · rename_i hf
        cases e
        obtain ⟨k, hk, rfl⟩ := key_of_flat q hf
        exact ⟨(putK t.1 k (.bl true), []), ⟨k, rfl, by rw [← kn_len d]; exact hz, rfl⟩, kn_put d hk (.bl true)⟩
      · cases e
  · cases e
end
section
variable {K : PySem.W.Frag} {G : Gl0} {E : XK} {P : Program} {w : World}
/-- the state within the loop: D the new dict -/
structure DcS (K : PySem.W.Frag) (G : Gl0) (P : Program) (w : World) (b : Bool) (m1 : Mp) (H1 : Hp) (D : Addr) (own : List Nat) (v : Env) (σ : L2.St) (I : ItV) (J : L2.It) (m : Mp) (h : Hs) (H : Hp) (acc : List (W × W)) (t : DT) : Prop where
  fr : FR K m H (wipeE v own) (wipe σ own)
  hr : HR K G m h H
  ni : NotIn m D
  jr : JR K m H I J
  at_ : H D = some (grwOb P w b D t)
  rs : DR K m H b acc t
  st : Stp m1 H1 m (del H D)
section
variable {b : Bool} {m1 : Mp} {H1 : Hp} {D : Addr} {own : List Nat} {v : Env} {σ : L2.St} {I : ItV} {J : L2.It} {m m' : Mp} {h h' : Hs} {H H' : Hp} {acc acc' : List (W × W)} {t t' : DT}
theorem DcS.step (L : DcS K G P w b m1 H1 D own v σ I J m h H acc t) (s : Stp m H m' H') (hr : HR K G m' h' H') : DcS K G P w b m1 H1 D own v σ I J m' h' H' acc t :=
  ⟨L.fr.mono L.hr s, hr, s.notIn L.ni L.at_, L.jr.mono L.hr s, s.keepD L.ni L.at_, L.rs.mapW fun _ _ q => L.hr.rw s q, L.st.trans (s.dels L.ni L.at_)⟩
theorem DcS.put (L : DcS K G P w b m1 H1 D own v σ I J m h H acc t) (q : DR K m H b acc' t') : DcS K G P w b m1 H1 D own v σ I J m h (upd H D (grwOb P w b D t')) acc' t' :=
  ⟨L.fr.other L.at_, L.hr.other L.ni L.at_, L.ni, L.jr.other L.at_, upd_same, q.mapW fun _ _ r => r.other L.at_, by rw [del_upd]; exact L.st⟩
theorem DcS.new {m m1 : Mp} {h h1 : Hs} {H H1 : Hp} (fr : FR K m H v σ) (hr : HR K G m h H) (s1 : Stp m H m1 H1) (hr1 : HR K G m1 h1 H1) (jr : JR K m1 H1 I J) (hD : H1 D = none) :
    DcS K G P w b m1 H1 D own v σ I J m1 h1 (upd H1 D (grwOb P w b D ([], []))) [] ([], []) := by
  have ni : NotIn m1 D := fun n e => by obtain ⟨u, hu, _⟩ := hr1.mut e; rw [hD] at hu; cases hu
  have hr2 : HR K G m1 h1 (upd H1 D (grwOb P w b D ([], []))) := ⟨hr1.len, hr1.dom, hr1.dom', hr1.inj, fun n a o ea qa => by
    obtain ⟨u, hu, _⟩ := hr1.mut ea
    exact (hr1.ob n a o ea qa).step hr1 (.tup hD) (by rw [upd_ne (ne_of_none hu hD)]), tabs_upd hr1.tab fun u e => by rw [hD] at e; cases e⟩
  refine ⟨((fr.mono hr s1).mono hr1 (.tup hD)).wipe own, hr2, ni, jr.mono hr1 (.tup hD), upd_same, ?_, .del0 hD⟩
  cases b
  · exact KN.nil
  · exact ⟨.nil, .nil⟩
end
/-- it may stay behind -/
theorem Stp.undel {m1 m : Mp} {H1 H : Hp} {D : Addr} (s : Stp m1 H1 m (del H D)) (hD : H1 D = none) : Stp m1 H1 m H where
  le := s.le
  kp := fun a o ea hn ht hw => by
    have z := s.kp a o ea hn ht hw
    rw [del_ne (ne_of_none ea hD)] at z
    exact z
  fr := s.fr
  al := fun a o ea ht => by
    obtain ⟨o', e', n'⟩ := s.al a o ea ht
    rw [del_ne (ne_of_none ea hD)] at e'
    exact ⟨o', e', n'⟩
  ko := fun a y ea hn => by
    have z := s.ko a y ea hn
    rw [del_ne (ne_of_none ea hD)] at z
    exact z
/-- what is known of the dict at the end -/
def DQ (K : PySem.W.Frag) (G : Gl0) (P : Program) (w : World) (E : XK) (b : Bool) (Q : VK) : VK := fun x H => ∃ D m h acc t, x = .ref D ∧ HR K G m h H ∧ H D = some (grwOb P w b D t) ∧ DR K m H b acc t ∧ (dcEnd b acc h).post (OkP K G m H Q) (ExP K G E m H)
def tTrue : TE := fun _ H Q => Q (.bl true) H
theorem dc_tDg {Cl : Cl} {n : Nat} {b : Bool} {k : Ex} {t : Tg} {it : It} {own : List Nat} (ht : (tgIx t).all (fun i => own.contains i) = true) {σ : L2.St} {H : Hp} {Q : VK} (q : TR K G E (rE Cl (n + 1) (.dc b k t it own)) σ H Q) :
    tDg (grw P w K b) (TRI K G E (rI Cl n it)) (TGR K G t) tYes (TEu K G n fun j => rE Cl j k) tTrue own σ H (DQ K G P w E b Q) := by
  obtain ⟨m, v, h, fr, hr, p⟩ := q
  rw [rE] at p
  refine ⟨m, v, h, fr, hr, post_mono (fun I h1 p m1 H1 J s1 hr1 jr D hD => ?_) (fun _ _ _ z => z) (post_bind p)⟩
  have p : (rDc Cl n b k t I 0 [] (wipeE v own) h1).post (fun acc h' => ∀ m' H', Stp m1 H1 m' H' → (dcEnd b acc h').post (OkP K G m' H' Q) (ExP K G E m' H')) (fun _ _ _ => False) :=
    post_mono (fun ws h' p m' H' st => later (s1.trans st) (fun _ _ => OkP.later (s1.trans st)) p) (fun _ _ _ z => z) (noEx_post (post_bind p))
  have L0 : DcS K G P w b m1 H1 D own v σ I J m1 h1 (upd H1 D (grwOb P w b D ([], []))) [] ([], []) := DcS.new fr hr s1 hr1 jr hD
  refine ⟨fun i j H2 => ∃ m2 h2 acc u, j ≤ n ∧ DcS K G P w b m1 H1 D own v σ I J m2 h2 H2 acc u ∧ (rDc Cl j b k t I i acc (wipeE v own) h2).post (fun acc h' => ∀ m' H', Stp m1 H1 m' H' → (dcEnd b acc h').post (OkP K G m' H' Q) (ExP K G E m' H')) (fun _ _ _ => False), ⟨n, m1, h1, [], ([], []), Nat.le_refl _, L0, p⟩, ?_⟩
  rintro i j H2 ⟨m2, h2, acc, u, hj, L, p⟩
  cases j with
  | zero => rw [rDc] at p; exact p.elim
  | succ j =>
    rw [rDc] at p
    split at p
    · exact p.elim
    · rename_i e
      exact .inl ⟨L.jr.stop L.hr e, D, m2, h2, acc, u, rfl, L.hr, L.at_, L.rs, p m2 H2 (L.st.undel hD)⟩
    · rename_i x e
      obtain ⟨go, yl⟩ := L.jr.go L.hr e
      refine .inr ⟨go, fun H' => ∃ j', j' < j + 1 ∧ _, fun H' z => z, fun x' H' yx => ?_⟩
      obtain ⟨s2, hr2, q2⟩ := yl x' H' yx
      have L2 := L.step s2 hr2
      split at p
      · exact p.elim
      · rename_i v2 e2
        refine setTg_run ht hr2 q2 L2.fr e2 fun σ2 f2 w2 => ⟨w2, ?_⟩
        show TEu K G n (fun j => rE Cl j k) σ2 H' _
        refine ⟨j, by omega, m2, v2, h2, f2, hr2, post_mono (fun a h3 p m3 H3 y s3 hr3 qy => ?_) (fun _ _ _ z => z.elim) (post_bind p)⟩
        have L3 := L2.step s3 hr3
        split at p
        · rename_i acc' ea
          obtain ⟨u', pu, dr⟩ := addK_put L3.rs qy ea
          exact ⟨u, u', L3.at_, pu, j, by omega, m3, h3, acc', u', by omega, L3.put dr, p⟩
        · exact p.elim
end
end GS
-- GsDc4
namespace GS
open PySem PySem.Spec PyProof.Rows L2
theorem KX.rws {K : PySem.W.Frag} {m : Mp} {H : Hp} {acc : List (W × W)} {xs : List (List Key × Addr × Value)} (q : KX K m H acc xs) : RWs K m H (acc.map (·.1)) ((xs.map fun x => x.2.1).map V.ref) := by
  induction q with
  | nil => exact .nil
  | cons r _ _ ih => exact .cons r ih
theorem keys_at {P : Program} {w : World} {es : Array DictEntry} {xs : List (List Key × Addr × Value)} (he : es.toList = xs.map (entryOfKey (tupleKind (mixKind P w)))) {acc : Array Value} (it : ItemsOf (fun i v => ∃ en : DictEntry, es[i]? = some en ∧ v = en.key) acc es.size) : acc.toList = (xs.map fun x => x.2.1).map Value.ref := by
  have l1 : es.size = xs.length := by rw [← Array.length_toList, he, List.length_map]
  obtain ⟨hs, hi⟩ := it
  apply List.ext_getElem?
  intro j
  rw [List.getElem?_map, List.getElem?_map]
  cases hj : acc.toList[j]? with
  | none =>
    have z := List.getElem?_eq_none_iff.mp hj
    rw [Array.length_toList, hs, l1] at z
    rw [List.getElem?_eq_none z] <;> rfl
  | some v =>
    obtain ⟨en, e1, e2⟩ := hi j v (by rw [← Array.getElem?_toList]; exact hj)
    rw [← Array.getElem?_toList, he, List.getElem?_map] at e1
    cases hx : xs[j]? with
    | none => rw [hx] at e1; cases e1
    | some x =>
      rw [hx] at e1
      cases e1
      rw [e2] <;> rfl
def rDce (K : PySem.W.Frag) (G : Gl0) (P : Program) (w : World) (E : XK) (b : Bool) : List V → Hp → VK → Prop
  | [x], H, Q => DQ K G P w E b Q x H
  | _, _, _ => False
section
variable {X : Cx} {G : Gl0} {E : XK}
theorem cr_sortedD (hc : X.calm = true) (hu : X.A.units + 65 < cLine) : CallR X (.builtin "sorted") (rDce X.K G X.prog X.w E true) := by
  intro pins s σ H xs us Q I r q
  cases xs with
  | nil => exact (show False from q).elim
  | cons x xs =>
    cases xs with
    | cons _ _ => exact (show False from q).elim
    | nil =>
      obtain ⟨D, m, h, acc, t, rfl, hr, hD, dr, p⟩ := q
      obtain ⟨u, rfl, rx⟩ := r.one
      cases (show u = Value.ref D from rx)
      obtain ⟨⟨h0, o, es, ep, h1, h2, h3, h4⟩, _, _⟩ := (show ObjOk X.prog X.w H s.heap D (dX X.prog X.w D t.2) from I.hok D _ hD)
      have p : (if acc.length ≤ sizeLine then okL (sortW h (acc.map (·.1))) h else .no : R W).post (OkP X.K G m H Q) (ExP X.K G E m H) := p
      by_cases hz : acc.length ≤ sizeLine
      · rw [if_pos hz] at p
        unfold okL at p
        split at p
        · rename_i out e
          have l1 : es.size = t.2.length := by rw [← Array.length_toList, h4, List.length_map]
          have l2 : es.size ≤ sizeLine := by rw [l1, ← dr.1.length]; exact hz
          refine sort_ok hu I hr dr.1.rws (vals_refs _) (by rw [List.length_map, List.length_map, ← l1]; exact l2) (fun hQ => ?_) e p
          refine PySem.W.kdu_collect (kdl_raw h0 h2 h3) (I.ok.hd hc) h1 l2 fun h' tk acc' kp it => ?_
          rw [keys_at h4 it]
          exact hQ h' tk kp
        · exact p.elim
      · rw [if_neg hz] at p
        exact p.elim
theorem cr_lenD : CallR X (.builtin "len") (rDce X.K G X.prog X.w E false) := by
  intro pins s σ H xs us Q I r q
  cases xs with
  | nil => exact (show False from q).elim
  | cons x xs =>
    cases xs with
    | cons _ _ => exact (show False from q).elim
    | nil =>
      obtain ⟨D, m, h, acc, t, rfl, hr, hD, dr, p⟩ := q
      refine call_lenD pins s σ H _ us Q I r ⟨D, t.1, rfl, hD, ?_⟩
      have z : Q (.int acc.length) H := ok_val hr (.int _) p
      rw [kn_len dr] at z
      exact z
end
end GS
-- GsIn
namespace GS
open PySem PySem.Spec PyProof.Rows L2
section
variable {K : PySem.W.Frag} {G : Gl0} {E : XK} {m m' : Mp} {h h' : Hs} {H H' : Hp} {Q : VK}
theorem ins_of (hr : HR K G m h H) {c : Nat} {w : W} {x : V} {n : Nat} {fs : List (Option W)} (q : RW K m H w x) (e : insOf c w h = some (n, fs)) : ∃ a C dx us, x = .ref a ∧ m n = some a ∧ h.get n = some (.ins c fs) ∧ G.icls c = some C ∧ SlX.Slt H a C dx us ∧ (H dx = some (.own a) ∨ H dx = some (.xd [])) ∧
    ∀ (i : Nat) (w : W), fs[i]? = some (some w) → ∃ v, us[i]? = some (some v) ∧ RW K m H w v := by
  unfold insOf at e
  cases q with
  | @obj n' a hm =>
    simp only at e
    split at e
    · rename_i d gs hg
      split at e
      · rename_i hd
        cases e
        have hd := Nat.eq_of_beq_eq_true hd
        subst hd
        obtain ⟨C, dx, us, hc, s, d, r⟩ := hr.ob _ a _ hm hg
        exact ⟨a, C, dx, us, rfl, hm, hg, hc, s, d, r⟩
      · cases e
    · cases e
  | _ => cases e
theorem att_post {c i : Nat} {w : W} {x : V} (hr : HR K G m h H) (q : RW K m H w x) (p : (attW c i w h).post (OkP K G m H Q) (ExP K G E m H)) : ∃ a C dx us v, x = .ref a ∧ G.icls c = some C ∧ SlX.Slt H a C dx us ∧ us[i]? = some (some v) ∧ Q v H := by
  unfold attW at p
  split at p
  · rename_i n fs e
    obtain ⟨a, C, dx, us, rfl, _, _, hc, s, _, r⟩ := ins_of hr q e
    split at p
    · rename_i w hw
      obtain ⟨v, e1, r1⟩ := r i w hw
      exact ⟨a, C, dx, us, v, rfl, hc, s, e1, ok_val hr r1 p⟩
    · exact p.elim
  · exact p.elim
theorem slt_own {a C dx : Addr} {us : List (Option V)} (s : SlX.Slt H a C dx us) : ∃ u, H a = some u ∧ Own u := by
  rcases s with ⟨s, _⟩ | ⟨s, _⟩
  · exact ⟨_, s, ⟨fun _ _ z => (by unfold LamX.CodeO at z; cases z), fun _ z => (by cases z), fun _ z => (by cases z), fun _ _ z => (by cases z), fun _ z => (by cases z), fun _ z => (by cases z)⟩⟩
  · refine ⟨_, s, ⟨fun c q z => ?_, fun _ z => (by unfold SlX.SlO at z; cases z), fun _ z => (by unfold SlX.SlO at z; cases z), fun _ _ z => (by unfold SlX.SlO at z; cases z), fun _ z => (by unfold SlX.SlO at z; cases z), fun _ z => (by unfold SlX.SlO at z; cases z)⟩⟩
    unfold SlX.SlO LamX.CodeO at z
    injection z with z
    have a1 := congrFun z ({ objs := Array.replicate (c + 1) { cls := .none, data := .fields #[.none, .str q 0] } } : Heap)
    obtain ⟨sl, e1, _⟩ := a1.mpr ⟨_, _, 0, rep_at (by intro e; cases e), rfl, rfl⟩
    have e2 := rep_get e1
    have e3 := congrArg Obj.data e2
    cases e3
theorem tabs_ne {T : List (Addr × Str)} {H : Hp} {a : Addr} {u o : HO} (nc : ∀ c q, u ≠ LamX.CodeO c q) (nt : ∀ ps, u ≠ .tbl ps) (ht : LamX.Tabs T H) (e : H a = some u) : LamX.Tabs T (upd H a o) := fun p hp => by
  obtain ⟨ps, h1, h2, h3⟩ := ht p hp
  refine ⟨ps, by rw [upd_ne (ne_of h1 e fun z => nt _ z.symm)]; exact h1, h2, fun pos cv hc => ?_⟩
  obtain ⟨c, e1, e2⟩ := h3 pos cv hc
  exact ⟨c, e1, by rw [upd_ne (ne_of e2 e fun z => nc _ _ z.symm)]; exact e2⟩
/-- a slot is stored -/
theorem slot_set (hr : HR K G m h H) {n c i : Nat} {a C dx : Addr} {us : List (Option V)} {fs : List (Option W)} {w : W} {y : V} (hm : m n = some a) (hc : G.icls c = some C) (s : SlX.Slt H a C dx us) (d : H dx = some (.own a) ∨ H dx = some (.xd []))
    (r : ∀ (i : Nat) (w : W), fs[i]? = some (some w) → ∃ v, us[i]? = some (some v) ∧ RW K m H w v) (qw : RW K m H w y) : Stp m H m (SlX.slH H a C dx (SlX.putS i y us)) ∧ HR K G m (h.set n (.ins c (putF i w fs))) (SlX.slH H a C dx (SlX.putS i y us)) := by
  obtain ⟨ua, ha, ou⟩ := slt_own s
  have nd : dx ≠ a := fun z => by
    rw [z] at d
    rcases d with d | d
    · rw [ha] at d; cases d; exact ou.nown _ rfl
    · rw [ha] at d; cases d; exact ou.nxd _ rfl
  have no : ∀ n, m n ≠ some dx := fun n => by
    rcases d with d | d
    · exact hr.not d fun z => z
    · exact hr.not d fun z => z
  have at_d : SlX.slH H a C dx (SlX.putS i y us) dx = some (.xd []) := by unfold SlX.slH; rw [upd_ne nd, upd_same]
  have st : Stp m H m (SlX.slH H a C dx (SlX.putS i y us)) := {
    le := fun _ _ e => e
    kp := fun b o e hn _ hw => by
      by_cases hb : b = dx
      · subst hb
        rcases d with d | d
        · rw [d] at e; cases e; exact absurd rfl (hw a)
        · rw [d] at e; cases e; exact at_d
      · rw [SlX.slH_ne (fun z => hn n (by rw [z]; exact hm)) hb]; exact e
    fr := fun _ _ e => .inl e
    al := fun b o e ht => by
      by_cases hb : b = dx
      · exact ⟨_, by rw [hb]; exact at_d, fun _ z => by cases z⟩
      · by_cases hba : b = a
        · refine ⟨_, by rw [hba]; unfold SlX.slH; exact upd_same, fun _ z => by unfold SlX.SlO at z; cases z⟩
        · exact ⟨o, by rw [SlX.slH_ne hba hb]; exact e, ht⟩
    ko := fun b y e hn => by
      by_cases hb : b = dx
      · exact .inr (by rw [hb]; exact at_d)
      · exact .inl (by rw [SlX.slH_ne (fun z => hn n (by rw [z]; exact hm)) hb]; exact e) }
  refine ⟨st, ⟨by simp [Hs.set, hr.len], hr.dom, hr.dom', hr.inj, fun j b o ej qj => ?_, ?_⟩⟩
  · rw [get_set hr.len (hr.dom' n a hm) j (hr.dom' j b ej)] at qj
    split at qj
    · rename_i hj
      subst hj
      rw [hm] at ej; cases ej; cases qj
      refine ⟨C, dx, SlX.putS i y us, hc, SlX.slH_slt nd, .inr at_d, fun j w' hj => ?_⟩
      by_cases ji : j = i
      · subst ji
        have e1 : (putF j w fs)[j]? = some (some w) := by
          unfold putF
          exact List.getElem?_set_self (by simp only [List.length_append, List.length_replicate]; omega)
        rw [e1] at hj
        cases hj
        exact ⟨y, SlX.putS_get _ _ _, hr.rw st qw⟩
      · have e1 : fs[j]? = some (some w') := by
          unfold putF at hj
          rw [List.getElem?_set_ne (Ne.symm ji)] at hj
          by_cases hl : j < fs.length
          · rw [List.getElem?_append_left hl] at hj; exact hj
          · rw [List.getElem?_append_right (by omega), List.getElem?_replicate] at hj
            split at hj <;> cases hj
        obtain ⟨v, e2, r2⟩ := r j w' e1
        exact ⟨v, (SlX.putS_ne ji).mpr e2, hr.rw st r2⟩
    · rename_i hj
      have hb : b ≠ a := fun z => by subst z; exact hj (hr.inj j n b ej hm)
      exact (hr.ob j b o ej qj).step hr st (SlX.slH_ne hb fun z => no j (by rw [← z]; exact ej))
  · unfold SlX.slH
    have t1 : LamX.Tabs G.T (upd H dx (.xd [])) := by
      rcases d with d | d
      · exact tabs_ne (fun _ _ z => by unfold LamX.CodeO at z; cases z) (fun _ z => by cases z) hr.tab d
      · exact tabs_ne (fun _ _ z => by unfold LamX.CodeO at z; cases z) (fun _ z => by cases z) hr.tab d
    exact tabs_ne ou.nc ou.nt t1 (by rw [upd_ne (Ne.symm nd)]; exact ha)
/-- an instance is made -/
theorem HR.lay (hr : HR K G m h H) {p : Addr} {o : HO} (hp : H p = none) : HR K G m h (upd H p o) where
  len := hr.len
  dom := hr.dom
  dom' := hr.dom'
  inj := hr.inj
  ob := fun n a u e q => by
    obtain ⟨v, hv, _⟩ := hr.mut e
    exact (hr.ob n a u e q).step hr (.tup hp) (by rw [upd_ne (ne_of_none hv hp)])
  tab := tabs_upd hr.tab fun u e => by rw [hp] at e; cases e
theorem ins_new (hr : HR K G m h H) {c : Nat} {C x dx : Addr} (hc : G.icls c = some C) (h1 : H x = none) (h2 : H dx = none) (nd : dx ≠ x) :
    Stp m H (mpush m h.n x) (upd (upd H dx (.own x)) x (.ins C dx [])) ∧ HR K G (mpush m h.n x) (h.push (.ins c [])) (upd (upd H dx (.own x)) x (.ins C dx [])) := by
  have hr1 : HR K G m h (upd H dx (.own x)) := hr.lay h2
  have n1 : (upd H dx (.own x)) x = none := by rw [upd_ne (Ne.symm nd)]; exact h1
  exact ⟨Stp.trans (.tup h2) (.push hr1 n1), hr1.pushO n1 ⟨C, dx, [], hc, .inl ⟨upd_same, rfl⟩, .inl (by rw [upd_ne nd, upd_same]), fun i w hi => by simp at hi⟩⟩
end
end GS
-- GsIn2
namespace GS
open PySem PySem.Spec PyProof.Rows L2
theorem meth_eq {o : Expr} {m : Str} {es : List Expr} {apos pos : Pos} {env : PySem.Env} (h : basOk o = true) (hline : (apos.endLine == pos.line) = true)
    (hfew : ((backTo pos (starEach es env)).all (fun x => !x.1) && (backToKw pos (keywordEach [] env)).all (fun x => x.1.isSome) && decide (es.length + ([] : List Keyword).length + (if ([] : List Keyword).isEmpty then 0 else 1) < 30)) = true) :
    eval (.Call (.Attribute o m apos) es [] pos) env = (do
      let ov ← eval o env
      standAt apos.atName
      let (f, first) ← holding [ov] (getMethod ov m (do return (← importBound o env).getD true))
      callWith pos f first (backTo pos (starEach es env)) (backToKw pos (keywordEach [] env))) := by
  have hform : methodCallForm (es.length + ([] : List Keyword).length) (backTo pos (starEach es env)) (backToKw pos (keywordEach [] env)) = true := hfew
  have hpos : methodCallPos true o env apos pos = pure pos := by unfold methodCallPos; simp [hline]
  rw [arm_eval_Call, base_ok h]
  unfold methodCall
  rw [hform, hpos]
  rfl
theorem meth_eqK {o e : Expr} {m k : Str} {apos kpos pos : Pos} {env : PySem.Env} (h : basOk o = true) (hline : (apos.endLine == pos.line) = true) :
    eval (.Call (.Attribute o m apos) [] [⟨some k, e, kpos⟩] pos) env = (do
      let ov ← eval o env
      standAt apos.atName
      let (f, first) ← holding [ov] (getMethod ov m (do return (← importBound o env).getD true))
      callWith pos f first (backTo pos (starEach [] env)) (backToKw pos (keywordEach [⟨some k, e, kpos⟩] env))) := by
  have hform : methodCallForm (([] : List Expr).length + [(⟨some k, e, kpos⟩ : Keyword)].length) (backTo pos (starEach [] env)) (backToKw pos (keywordEach [⟨some k, e, kpos⟩] env)) = true := rfl
  have hpos : methodCallPos true o env apos pos = pure pos := by unfold methodCallPos; simp [hline]
  rw [arm_eval_Call, base_ok h]
  unfold methodCall
  rw [hform, hpos]
  rfl
theorem call_gen {fn : Expr} {args : List Expr} {kws : List Keyword} {pos : Pos} {env : PySem.Env} (h : notAt fn = true) : eval (.Call fn args kws pos) env = (eval fn env >>= fun f => callWith pos f [] (backTo pos (starEach args env)) (backToKw pos (keywordEach kws env))) := by
  cases fn <;> first
    | rfl
    | cases h
/-- an instance called, whatever its slots hold behind the arguments -/
theorem inst_call {M : Model} {A : Around} {E : Value → Shared → Prop} {s : Shared} {K : PySem.W.Frag} {env : PySem.Env} {pos : Pos} {x C : Addr} {Q : Value → Shared → Prop} {e : Expr} {es : List Expr} (he : starEach (e :: es) env = (false, eval e env) :: starEach es env) (hp : (backTo pos (starEach es env)).any (·.1) = false)
    (h : wpAny M A (spliced (backTo pos (starEach (e :: es) env))) (fun vs s1 => (∃ (o : Obj) (od : Option Obj), K.In s1.heap ∧ PySem.W.InstAt s1.heap x o C od ∧ o.data = .plain) ∧ wpAny M A (call (.ref x) vs) Q E s1) E s) :
    wpAny M A (callWith pos (.ref x) [] (backTo pos (starEach (e :: es) env)) []) Q E s := by
  rw [he] at h ⊢
  have hq : (((false, eval e env) :: backTo pos (starEach es env)).any (·.1) || ([] : List (Option Str × Sem Value)).any (·.1.isNone)) = false := by
    show ((false || (backTo pos (starEach es env)).any (·.1)) || false) = false
    rw [hp]; rfl
  have hv : wpAny M A (evalArgs (.ref x) true (backTo pos ((false, eval e env) :: starEach es env)) []) (fun a t => (∃ (o : Obj) (od : Option Obj), K.In t.heap ∧ PySem.W.InstAt t.heap x o C od ∧ o.data = .plain) ∧ wpAny M A (call (.ref x) ([] ++ a.pos) a.kw) Q E t) E s := PySem.Calls.evalArgs_plain h
  unfold callWith
  refine wpAny_bind (wpAny_holding (wpAny_mono hv (fun a t ht => wpAny_bind (wpAny_standAt ?_)) fun _ _ z => z))
  obtain ⟨⟨o, od, kK, ia, op⟩, hc⟩ := ht
  have kp : PySem.W.Looks M t.heap (keeperOf (.ref x)) .caller := PySem.W.kco_keeper ia op
  refine wpAny_bind (kp.here ?_)
  refine wpAny_bind (wpAny_mono (wpAny_operateT hc) (fun r t2 hr => ?_) fun _ _ z => z)
  exact wpAny_bind (wpAny_holding (wpAny_point (wpAny_pure hr)))
/-- a method that is a plain function -/
structure MethF (K : PySem.W.Frag) (C : Addr) (m : Str) (f : Addr) : Prop extends Meth K C m f where
  fnI : PySem.W.fnIn K f = true
/-- a promise by self and one value by keyword, or by its default -/
structure FnK (P : Program) (w : World) (K : PySem.W.Frag) (mg : Str → Option Value) (base : Heap) (CX : CXT) (k : Nat) (f : Addr) (kn : Str) (dv : V) (sp : Sp) : Prop where
  kw : ∀ (A : Around) (outer : List PySem.Env) (s : Shared) (H : Hp) (u1 u2 : Value) (v1 v2 : V) (Q : VK) (E : XK), Room k A → Env0 P w K mg base A outer s H → RelV v1 u1 → RelV v2 u2 → sp [v1, v2] H Q E → codeAny (model P w) A (.call (.ref f) ⟨[u1], [(kn, u2)]⟩) (CR CX outer P w H s Q E) s
  no : ∀ (A : Around) (outer : List PySem.Env) (s : Shared) (H : Hp) (u1 : Value) (v1 : V) (Q : VK) (E : XK), Room k A → Env0 P w K mg base A outer s H → RelV v1 u1 → sp [v1, dv] H Q E → codeAny (model P w) A (.call (.ref f) ⟨[u1], []⟩) (CR CX outer P w H s Q E) s
section
variable {X : Cx} {CX : CXT} {k : Nat} {C g : Addr} {sp : Sp} {E : XK} {kn m : Str} {dv : V} {o e : Expr} {ta te : TE} {apos kpos pos : Pos}
theorem run_of_code {pins : List (Addr × Obj)} {σ : L2.St} {H : Hp} {s : Shared} {Q : VK} {us : List Value} {ks : List (Str × Value)} (hx : Passes CX X E) (I : Inv X pins σ H s) (h : codeAny (model X.prog X.w) X.A (.call (.ref g) ⟨us, ks⟩) (CR CX X.stack X.prog X.w H s Q E) s) :
    wpAny (model X.prog X.w) X.A (call (.ref g) us ks) (EP X pins σ Q) X.xe s := by
  refine wpAny_call (codeAny_mono h fun r s' hq => ?_)
  cases r with
  | error e => exact hx pins σ H s e s' I hq
  | ok fl =>
    cases fl with
    | ret u => exact I.after hq
    | next => exact False.elim hq
    | brk => exact False.elim hq
    | cont => exact False.elim hq
def tICall (C : Addr) (sp : Sp) (E : XK) (ta : TE) (t : TA) : TE := fun σ H Q => ta σ H fun x H1 => ∃ a, x = .ref a ∧ t σ H1 fun ws H2 => (∃ dx us, SlX.Slt H2 a C dx us) ∧ sp (x :: ws) H2 Q E
theorem pe_icall {fn : Expr} {es : List Expr} {t : TA} {pos : Pos} (hn : notAt fn = true) (he : PE X fn ta) (hm : Meth X.K C "__call__" g) (hfn : PySem.W.fnIn X.K g = true) (F : FnR X.prog X.w X.K X.mg X.base CX k g sp) (hr : Room k X.A) (hx : Passes CX X E) (ha : PA X (e :: es) t)
    (hst : starEach (e :: es) X.env = (false, eval e X.env) :: starEach es X.env) (hpl : (backTo pos (starEach es X.env)).any (·.1) = false) : PE X (.Call fn (e :: es) [] pos) (tICall C sp E ta t) := by
  refine ⟨fun pins s σ H Q I h => ?_⟩
  rw [call_gen hn]
  refine wpAny_bind (thn (he.run pins s σ H _ I h) fun u s1 ⟨x, H1, I1, rx, a, ex, q⟩ => ?_)
  subst ex
  obtain rfl : u = Value.ref a := rx
  refine inst_call (K := X.K) (C := C) hst hpl (thn (ha.run pos pins s1 σ H1 _ I1 q) fun us s2 ⟨ws, H2, I2, r, ⟨dx, vs, sl⟩, q2⟩ => ?_)
  obtain ⟨arr, od, _, ia, _⟩ := SlX.slt_inst I2 sl
  refine ⟨⟨_, some od, I2.kIn, ia, rfl⟩, ?_⟩
  refine wpAny_call (PySem.W.kco_code I2.kIn ia rfl hm.at_ hm.fn hfn (codeAny_mono (F X.A X.stack s2 H2 (.ref a :: us) (.ref a :: ws) Q E hr I2.env0 (.cons rfl r) q2) fun r s' hq => ?_))
  cases r with
  | error e => exact hx pins σ H2 s2 e s' I2 hq
  | ok fl =>
    cases fl with
    | ret u => exact I2.after hq
    | next => exact False.elim hq
    | brk => exact False.elim hq
    | cont => exact False.elim hq
theorem pe_methK (he : PE X o ta) (hv : PE X e te) (c : SlX.SCls X.K C) (hm : Meth X.K C m g) (F : FnK X.prog X.w X.K X.mg X.base CX k g kn dv sp) (hr : Room k X.A) (hx : Passes CX X E) (hb : basOk o = true) (hl : (apos.endLine == pos.line) = true) :
    PE X (.Call (.Attribute o m apos) [] [⟨some kn, e, kpos⟩] pos) (SlX.tMethSl C (fun vs H Q E => ∃ v1 v2, vs = [v1, v2] ∧ sp [v1, v2] H Q E) E ta (tCons te tNil)) := by
  refine ⟨fun pins s σ H Q I h => ?_⟩
  refine PySem.W.methodCall_KW (thn (he.run pins s σ H _ I h) fun u s1 ⟨x, H1, I1, rx, a, dx, vs, ex, hsl, q⟩ => ?_) (meth_eqK hb hl)
  subst ex
  obtain rfl : u = Value.ref a := rx
  refine SlX.getmethsl_ok I1 hsl c hm ?_
  refine PySem.W.callWith_KW0 (first := [.ref a]) (h₀ := X.base) I1.ok.mod.kin hm.kp rfl ?_ rfl
  refine thn ((pk_cons (nm := some kn) (kpos := kpos) hv pk_nil).run pos pins s1 σ H1 _ I1 q) fun ws s2 ⟨zs, H2, I2, rz, v1, v2, ev, q2⟩ => ⟨I2.kIn, ?_⟩
  injection ev with e1 ev
  subst e1
  subst ev
  cases rz with
  | cons r2 rz =>
    cases rz
    exact run_of_code (us := [.ref a]) (ks := [(kn, _)]) hx I2 (F.kw X.A X.stack s2 H2 _ _ (.ref a) _ Q E hr I2.env0 rfl r2 q2)
theorem pe_methK0 (he : PE X o ta) (c : SlX.SCls X.K C) (hm : Meth X.K C m g) (F : FnK X.prog X.w X.K X.mg X.base CX k g kn dv sp) (hr : Room k X.A) (hx : Passes CX X E) (hb : basOk o = true) (hl : (apos.endLine == pos.line) = true) :
    PE X (.Call (.Attribute o m apos) [] [] pos) (SlX.tMethSl C (fun vs H Q E => ∃ v1, vs = [v1] ∧ sp [v1, dv] H Q E) E ta tNil) := by
  refine ⟨fun pins s σ H Q I h => ?_⟩
  refine PySem.W.methodCall_KW (thn (he.run pins s σ H _ I h) fun u s1 ⟨x, H1, I1, rx, a, dx, vs, ex, hsl, q⟩ => ?_) (meth_eq hb hl rfl)
  subst ex
  obtain rfl : u = Value.ref a := rx
  refine SlX.getmethsl_ok I1 hsl c hm ?_
  obtain ⟨v1, ev, q⟩ := q
  injection ev with e1 _
  subst e1
  exact PySem.W.callWith_K0 (first := [.ref a]) I1.kIn hm.kp (run_of_code (us := [.ref a]) (ks := []) hx I1 (F.no X.A X.stack s1 H1 _ (.ref a) Q E hr I1.env0 rfl q))
end
end GS
-- GsEv12
namespace GS
open PySem PySem.Spec PyProof.Rows L2

/-- a promise by positional values; b: where no guard stands around -/
def FnG (b : Bool) (P : Program) (w : World) (K : PySem.W.Frag) (mg : Str → Option Value) (base : Heap) (CX : CXT) (k : Nat) (f : Addr) (sp : Sp) : Prop :=
  ∀ (A : Around) (outer : List PySem.Env) (s : Shared) (H : Hp) (us : List Value) (vs : List V) (Q : VK) (E : XK), (b = true → A.guards = some []) → Room k A → Env0 P w K mg base A outer s H → Vals vs us → sp vs H Q E →
    codeAny (model P w) A (.call (.ref f) ⟨us, []⟩) (CR CX outer P w H s Q E) s
theorem FnG.mono {b : Bool} {P : Program} {w : World} {K : PySem.W.Frag} {mg : Str → Option Value} {base : Heap} {CX : CXT} {j k : Nat} {f : Addr} {sp : Sp} (F : FnG b P w K mg base CX j f sp) (h : j ≤ k) : FnG b P w K mg base CX k f sp := fun A outer s H us vs Q E hg hr => F A outer s H us vs Q E hg (hr.mono h)
theorem FnG.imp {b : Bool} {P : Program} {w : World} {K : PySem.W.Frag} {mg : Str → Option Value} {base : Heap} {CX : CXT} {k : Nat} {f : Addr} {sp sp' : Sp} (F : FnG b P w K mg base CX k f sp) (h : ∀ vs H Q E, sp' vs H Q E → sp vs H Q E) : FnG b P w K mg base CX k f sp' := fun A outer s H us vs Q E hg hr e0 r hs => F A outer s H us vs Q E hg hr e0 r (h _ _ _ _ hs)
theorem FnG.of {b : Bool} {P : Program} {w : World} {K : PySem.W.Frag} {mg : Str → Option Value} {base : Heap} {CX : CXT} {k : Nat} {f : Addr} {sp : Sp} (F : FnR P w K mg base CX k f sp) : FnG b P w K mg base CX k f sp := fun A outer s H us vs Q E _ hr => F A outer s H us vs Q E hr
theorem FnG.toR {P : Program} {w : World} {K : PySem.W.Frag} {mg : Str → Option Value} {base : Heap} {CX : CXT} {k : Nat} {f : Addr} {sp : Sp} (F : FnG false P w K mg base CX k f sp) : FnR P w K mg base CX k f sp := fun A outer s H us vs Q E hr e0 r hs => F A outer s H us vs Q E (fun z => by cases z) hr e0 r hs
/-- what a call of f does -/
def spC (K : PySem.W.Frag) (G : Gl0) (Cl : Cl) (f : Nat) : Sp := fun vs H Q E => ∃ m h ws, HR K G m h H ∧ RWs K m H ws vs ∧ (Cl.call f ws h).post (OkP K G m H Q) (ExP K G E m H)
/-- a property f of the class at C, its object at p, its def at a -/
structure PropA (K : PySem.W.Frag) (C : Addr) (f : Str) (p a : Addr) : Prop where
  at_ : PySem.W.findIn K (.ref C) f = some (some (.ref p))
  get : PySem.W.specialIn K (.ref p) "__get__" = some (some (.builtin "property.__get__"))
  tk : PySem.W.takesIn K (.ref p) = some true
  rc : ∃ rest, PySem.W.recIn K p "property" = some (.ref a :: rest)
structure XOk (P : Pg) (G : Gl0) (Cl : Cl) (j : Nat) (C : Cc) (E : XK) (X : Cx) : Prop where
  calm : X.calm = true
  N : X.N = C.N
  nd : C.N.Nodup
  sc : X.env.scope = C.sc
  fn : ∀ x, C.top x = true → X.fn x = true
  room : Room (j + 1) X.A
  pass : Passes (L2.CX X.prog X.w) X E
  cst : ∀ x w, C.D.lookup x = some (.cst w) → ∃ v u, X.mg x = some u ∧ RelV v u ∧ ∀ m H, RW X.K m H w v
  fns : ∀ x f, C.D.lookup x = some (.fn f) → ∃ a, X.mg x = some (.ref a) ∧ PySem.W.keepIn X.K (.ref a) = true ∧ FnG (P.hot f) X.prog X.w X.K X.mg X.base (L2.CX X.prog X.w) j a (spC X.K G Cl f)
  slt : ∀ f c i, C.D.lookup (atK f) = some (.slt c i) → ∃ Ca p, G.icls c = some Ca ∧ SlX.SCls X.K Ca ∧ SlX.Slot1 X.K Ca f p i
  prp : ∀ f c g, C.D.lookup (atK f) = some (.prp c g) → ∃ Ca p a, G.icls c = some Ca ∧ SlX.SCls X.K Ca ∧ PropA X.K Ca f p a ∧ FnG false X.prog X.w X.K X.mg X.base (L2.CX X.prog X.w) j a (spC X.K G Cl g)
  mth : ∀ f c g, C.D.lookup (atK f) = some (.mth c g) → ∃ Ca a, G.icls c = some Ca ∧ SlX.SCls X.K Ca ∧ MethF X.K Ca f a ∧ FnG false X.prog X.w X.K X.mg X.base (L2.CX X.prog X.w) j a (spC X.K G Cl g)
  mtk : ∀ f c g k w0, C.D.lookup (atK f) = some (.mtk c g k w0) → ∃ Ca a dv, G.icls c = some Ca ∧ SlX.SCls X.K Ca ∧ Meth X.K Ca f a ∧ (∀ m H, RW X.K m H w0 dv) ∧ FnK X.prog X.w X.K X.mg X.base (L2.CX X.prog X.w) j a k dv (spC X.K G Cl g)
  icl : ∀ x c g, C.D.lookup x = some (.icl c g) → ∃ Ca a, G.icls c = some Ca ∧ X.mg x = some (.ref Ca) ∧ Mk X.K Ca a ∧ FnG false X.prog X.w X.K X.mg X.base (L2.CX X.prog X.w) j a (spC X.K G Cl g)
  gd : C.g = true → X.A.guards = some []
  blt : ∀ x, C.D.lookup x = some .blt → X.mg x = none
  met : ∀ x, C.met = some x → ∀ body scope e p lpos pos, LamX.lamSB C.sc scope = true → CE P (C.lam scope) body e → PE X (.Call (.Name x p) [.Lambda lamParams body scope lpos] [] pos) (TR X.K G E fun v h => Cl.met e v h)
  metD : ∀ x, C.met = some x → ∀ (y : Str) (an : Option Expr) (q0 p0 : Pos) (i0 : Int) (j0 : Nat) (body : Expr) (scope : Scope) (own : List Nat) (e : Ex) (p lpos pos : Pos), lamDB C.sc scope y = true → (∀ i, C.N[i]? = some y → i ∈ own) → CE P (C.lam scope) body e → PE X (.Call (.Name x p) [.Lambda (lamParD y an q0 i0 j0 p0) body scope lpos] [] pos) (TR X.K G E fun v h => Cl.met e (wipeE v own) h)
section
variable {P : Pg} {G : Gl0} {Cl : Cl} {j : Nat} {C : Cc} {E : XK} {X : Cx}
theorem XOk.hu (ok : XOk P G Cl j C E X) : X.A.units + 64 < cLine := ok.room.units
theorem XOk.gl (ok : XOk P G Cl j C E X) {x : Str} {d : Dc} (h : GlD C x d) : Gl X x := by
  show X.env.scope.names.lookup x = _
  rw [ok.sc]; exact h.1
theorem okNm_d {x : Str} (h : okNm x = true) : (x == ("__debug__" : Str)) = false := by
  unfold okNm at h
  simp only [Bool.and_eq_true, Bool.not_eq_true'] at h
  exact h.1.1
theorem okNm_c {x : Str} (h : okNm x = true) : (x == ("__classdict__" : Str)) = false := by
  unfold okNm at h
  simp only [Bool.and_eq_true, Bool.not_eq_true'] at h
  exact h.1.2
theorem okNm_n {x : Str} (h : okNm x = true) : x ≠ "__name__" := by
  unfold okNm at h
  simp only [Bool.and_eq_true, Bool.not_eq_true', beq_eq_false_iff_ne] at h
  exact h.2
theorem noE0 {Pr : Program} {w : World} {outer : List PySem.Env} (H : Hp) (s : Shared) (e : Value) (s' : Shared) (h : L2.CX Pr w outer H s E0 e s') : False := by
  obtain ⟨_, _, _, _, _, _, _, _, _, _, _, _, z⟩ := h
  exact z.elim
theorem passL0 {X : Cx} : Passes (L2.CX X.prog X.w) X E0 := fun _ _ _ _ _ _ _ h => by
  obtain ⟨_, _, _, _, _, _, _, _, _, _, _, _, z⟩ := h
  exact z.elim
theorem XOk.blk (ok : XOk P G Cl j C E X) (scope : Scope) (s : Shared) (H : Hp) (Ca : Addr) (cl : List (Str × Addr)) (fp : List Addr) : XOk P G Cl j (C.blk scope) E0 (X.blk s H scope (compEnvC scope cl Ca X.env) fp) where
  calm := ok.calm
  N := ok.N
  nd := ok.nd
  sc := by rw [← show relS scope X.env.scope = (C.blk scope).sc by rw [ok.sc]; rfl]; rfl
  fn := fun _ h => h
  room := ok.room
  pass := passL0
  cst := ok.cst
  fns := ok.fns
  slt := ok.slt
  prp := ok.prp
  mth := ok.mth
  mtk := ok.mtk
  icl := ok.icl
  gd := ok.gd
  blt := ok.blt
  met := fun x h => by cases h
  metD := fun x h => by cases h
/-- x(e, ..), all arguments plain -/
theorem pe_callR {gb : Bool} {k : Nat} {f : Addr} {sp : Sp} {x : Str} {e : Expr} {es : List Expr} {t : TA} {p pos : Pos} (F : FnG gb X.prog X.w X.K X.mg X.base (L2.CX X.prog X.w) k f sp) (hgb : gb = true → X.A.guards = some []) (hr : Room k X.A) (hk : PySem.W.keepIn X.K (.ref f) = true) (hg : Gl X x) (hm : X.mg x = some (.ref f)) (hx : Passes (L2.CX X.prog X.w) X E) (ha : PA X (e :: es) t) (hd : (x == ("__debug__" : Str)) = false)
    (he : starEach (e :: es) X.env = (false, eval e X.env) :: starEach es X.env) (hpl : (backTo pos (starEach es X.env)).any (·.1) = false) :
    PE X (.Call (.Name x p) (e :: es) [] pos) (fun σ H Q => t σ H fun vs H1 => sp vs H1 Q E) := by
  refine ⟨fun pins s σ H Q I h => ?_⟩
  refine wpAny_Call_Name_kw (ld_glob I hg hm ?_ hd)
  refine PySem.W.callWith_K (h₀ := X.base) I.ok.mod.kin hk (thn (ha.run pos pins s σ H _ I h) fun us s1 ⟨vs, H1, I1, r, q⟩ => ⟨I1.kIn, ?_⟩) he hpl
  refine wpAny_call (codeAny_mono (F X.A X.stack s1 H1 us vs Q E hgb hr I1.env0 r q) fun r s' hq => ?_)
  cases r with
  | error e => exact hx pins σ H1 s1 e s' I1 hq
  | ok fl =>
    cases fl with
    | ret u => exact I1.after hq
    | next => exact False.elim hq
    | brk => exact False.elim hq
    | cont => exact False.elim hq
/-- a list or a tuple is walked -/
def iSeq (K : PySem.W.Frag) (tl : TE) : TI := fun σ H R => tl σ H fun x H1 => ∃ a, x = .ref a ∧ (((∃ xs, SqL K H1 a xs) ∧ R (Itl K a) H1) ∨ ((∃ xs, SqT K H1 a xs) ∧ R (Itt K a) H1))
theorem pi_seq {tg l : Expr} {tl : TE} (hl : PE X l tl) : PI X tg l (iSeq X.K tl) := by
  refine ⟨fun pins s σ H R I h => ?_⟩
  refine thn (hl.run pins s σ H _ I h) fun v s1 ⟨x, H1, I1, r1, q1⟩ => ?_
  obtain ⟨a, e, q⟩ := q1
  subst e
  cases r1
  have fp : ∀ {h1 : Heap}, ∀ b ∈ [s1.heap.objs.size], FpOk X pins H1 b := fun {h1} b hb => by
    have e : b = s1.heap.objs.size := by simpa using hb
    subst e
    exact I1.fpOk (Nat.le_refl _) (I1.hok.fresh (Nat.le_refl _))
  rcases q with ⟨⟨xs, hq⟩, q⟩ | ⟨⟨xs, hq⟩, q⟩
  · obtain ⟨its, rv, pl, hz⟩ := I1.list hq
    refine wpAny_pyIter_list pl.isList ?_
    exact ⟨s1.heap.objs.size, [s1.heap.objs.size], _, _, H1, rfl, I1.kept (t' := s1.toks) fun b o e => Heap.get?_push_of_some _ e, turn_list a _, ⟨_, Heap.get?_push_size _ rfl, rfl, rfl⟩, fp (h1 := s1.heap), q⟩
  · obtain ⟨its, rv, pl, hz⟩ := I1.tuple hq
    refine wpAny_pyIter_tuple (show s1.heap.IsTuple a its.toArray from pl) ?_
    exact ⟨s1.heap.objs.size, [s1.heap.objs.size], _, _, H1, rfl, I1.kept (t' := s1.toks) fun b o e => Heap.get?_push_of_some _ e, turn_tuple a _, ⟨_, Heap.get?_push_size _ rfl, rfl, rfl⟩, fp (h1 := s1.heap), q⟩
end
theorem boot_bi (b : Bi) (h : b.plain = true) : bootBuiltins b.nm = some b.val := by
  cases b with
  | listRange => cases h
  | tupRange => cases h
  | len => kernel_rfl
  | abs => kernel_rfl
  | all => kernel_rfl
  | any => kernel_rfl
  | sum => kernel_rfl
  | sorted => kernel_rfl
  | max => kernel_rfl
  | min => kernel_rfl
  | max2 => kernel_rfl
  | min2 => kernel_rfl
  | tuple => kernel_rfl
  | list => kernel_rfl
  | int => kernel_rfl
  | str => kernel_rfl
theorem boot_isi : bootBuiltins ("isinstance" : Str) = some (.builtin "isinstance") := by kernel_rfl
theorem boot_ty (t : Ty) : bootBuiltins t.nm = some (.type t.name) := by cases t <;> kernel_rfl
theorem asB_run {K : PySem.W.Frag} {m : Mp} {H : Hp} {w : W} {x : V} {α : Type} {f : Bool → Hs → R α} {h : Hs} {Qo : α → Hs → Prop} {Qe : Nat → W → Hs → Prop} (q : RW K m H w x) (p : ((asB w h).bind f).post Qo Qe) : ∃ b, w = .bl b ∧ x = .bl b ∧ (f b h).post Qo Qe := by
  cases q <;> first
    | exact p.elim
    | exact ⟨_, rfl, rfl, p⟩
/-- no fuel -/
theorem PE.no {X : Cx} {e : Expr} {t : TE} (h : ∀ σ H Q, ¬ t σ H Q) : PE X e t := ⟨fun _ _ σ H Q _ hw => (h σ H Q hw).elim⟩
structure SndE (P : Pg) (G : Gl0) (Cl : Cl) (n : Nat) : Prop where
  e : ∀ {j : Nat} {C : Cc} {E : XK} {X : Cx}, XOk P G Cl j C E X → ∀ {e : Expr} {x : Ex}, CE P C e x → PE X e (TR X.K G E (rE Cl n x))
  t : ∀ {j : Nat} {C : Cc} {E : XK} {X : Cx}, XOk P G Cl j C E X → ∀ {e : Expr} {x : Ex}, testOk e = true → CE P C e x → PT X e (tB (TR X.K G E (rE Cl n x)))
  w : ∀ {j : Nat} {C : Cc} {E : XK} {X : Cx}, XOk P G Cl j C E X → ∀ {op : BoolOp} {vs : List Expr} {pos : Pos} {x : Ex}, CE P C (.BoolOp op vs pos) x → PW X (.BoolOp op vs pos) (tB (TR X.K G E (rE Cl n x)))
  es : ∀ {j : Nat} {C : Cc} {E : XK} {X : Cx}, XOk P G Cl j C E X → ∀ {es : List Expr} {xs : Exs}, CEs P C es xs → PA X es (TRA X.K G E (rEs Cl n xs))
  o : ∀ {j : Nat} {C : Cc} {E : XK} {X : Cx}, XOk P G Cl j C E X → ∀ {e : Option Expr} {xs : Exs}, CO P C e xs → PO X e (TRO X.K G E (rO Cl n xs))
  i : ∀ {j : Nat} {C : Cc} {E : XK} {X : Cx}, XOk P G Cl j C E X → ∀ {tg e : Expr} {it : It}, CI P C tg e it → PI X tg e (TRI X.K G E (rI Cl n it))
  ts : ∀ {j : Nat} {C : Cc} {E : XK} {X : Cx}, XOk P G Cl j C E X → ∀ {es : List Expr} {xs : Exs}, CT P C es xs → PTs X es (TRT X.K G E (rT Cl n xs))
section
variable {P : Pg} {G : Gl0} {Cl : Cl}
theorem sndE0 : SndE P G Cl 0 where
  e := fun _ _ _ _ => ⟨fun _ _ σ H Q _ hw => by obtain ⟨_, _, _, _, _, p⟩ := hw; rw [rE] at p; exact p.elim⟩
  t := fun _ _ _ _ _ => ⟨fun _ _ σ H Q _ hw => by obtain ⟨_, _, _, _, _, p⟩ := hw; rw [rE] at p; exact p.elim⟩
  w := fun _ _ _ _ _ _ => ⟨fun _ _ _ σ H Q _ hw => by obtain ⟨_, _, _, _, _, p⟩ := hw; rw [rE] at p; exact p.elim⟩
  es := fun _ _ _ _ => ⟨fun _ _ _ σ H Q _ hw => by obtain ⟨_, _, _, _, _, p⟩ := hw; rw [rEs] at p; exact p.elim⟩
  o := fun _ _ _ _ => ⟨fun _ _ σ H Q _ hw => by obtain ⟨_, _, _, _, _, p⟩ := hw; rw [rO] at p; exact p.elim⟩
  i := fun _ _ _ _ _ => ⟨fun _ _ σ H Q _ hw => by obtain ⟨_, _, _, _, _, p⟩ := hw; rw [rI] at p; exact p.elim⟩
  ts := fun _ _ _ _ => ⟨fun _ _ σ H Q _ hw => by obtain ⟨_, _, _, _, _, p⟩ := hw; rw [rT] at p; exact p.elim⟩

-- GsEv12
variable {n : Nat}
theorem es_step (ih : SndE P G Cl n) {j : Nat} {C : Cc} {E : XK} {X : Cx} (ok : XOk P G Cl j C E X) {es : List Expr} {xs : Exs} (h : CEs P C es xs) : PA X es (TRA X.K G E (rEs Cl (n + 1) xs)) := by
  cases h with
  | nil =>
    refine PA.imp pa_nil fun σ H Q q => ?_
    obtain ⟨m, v, h, fr, hr, p⟩ := q
    rw [rEs] at p
    exact p _ _ _ .refl hr .nil
  | @cons _ e es x xs hns he hes =>
    refine PA.imp (pa_cons (ih.e ok he) (ih.es ok hes) (starEach_ns hns)) fun σ H Q q => ?_
    obtain ⟨m, v, h, fr, hr, p⟩ := q
    rw [rEs] at p
    refine TR.of' (Qo := fun m H => OkA X.K G m H Q) fr hr (fun s => OkA.later s) p fun m1 H1 w h1 x1 s1 hr1 q1 fr1 p1 => ?_
    refine ⟨m1, v, h1, fr1, hr1, post_mono (fun ws h2 p2 m2 H2 vs s2 hr2 q2 => ?_) (fun _ _ _ z => z) (post_bind p1)⟩
    exact p2 m2 H2 _ s2 hr2 (.cons (hr1.rw s2 q1) q2)
  | @star _ e es x xs pp he hes =>
    refine PA.imp (StX.pa_star (ih.e ok he) (ih.es ok hes) rfl) fun σ H Q q => ?_
    obtain ⟨m, v, h, fr, hr, p⟩ := q
    rw [rEs] at p
    refine TR.of' (Qo := fun m H => OkA X.K G m H Q) fr hr (fun s => OkA.later s) p fun m1 H1 w h1 x1 s1 hr1 q1 fr1 p1 => ?_
    split at p1
    · rename_i us hus
      obtain ⟨a, vs, rfl, hq, rs⟩ := q1.seq hr1 hus
      refine ⟨a, vs, rfl, hq.symm, m1, v, h1, fr1, hr1, post_mono (fun ws h2 p2 m2 H2 ys s2 hr2 q2 => ?_) (fun _ _ _ z => z) (post_bind p1)⟩
      exact p2 m2 H2 _ s2 hr2 ((hr1.rws s2 rs).append q2)
    · exact p1.elim
theorem o_step (ih : SndE P G Cl n) {j : Nat} {C : Cc} {E : XK} {X : Cx} (ok : XOk P G Cl j C E X) {e : Option Expr} {xs : Exs} (h : CO P C e xs) : PO X e (TRO X.K G E (rO Cl (n + 1) xs)) := by
  cases h with
  | none =>
    refine PO.imp po_none fun σ H Q q => ?_
    obtain ⟨m, v, h, fr, hr, p⟩ := q
    rw [rO] at p
    exact p _ _ .refl hr
  | some he =>
    refine PO.imp (po_some (ih.e ok he)) fun σ H Q q => ?_
    obtain ⟨m, v, h, fr, hr, p⟩ := q
    rw [rO] at p
    refine TR.of' (Qo := fun m H => OkB X.K G m H Q) fr hr (fun s => OkB.later s) p fun m1 H1 w h1 x1 s1 hr1 q1 fr1 p1 => ?_
    cases q1 <;> first
      | exact p1.elim
      | exact ⟨_, rfl, p1 _ _ .refl hr1⟩
theorem ts_step (ih : SndE P G Cl n) {j : Nat} {C : Cc} {E : XK} {X : Cx} (ok : XOk P G Cl j C E X) {es : List Expr} {xs : Exs} (h : CT P C es xs) : PTs X es (TRT X.K G E (rT Cl (n + 1) xs)) := by
  cases h with
  | nil =>
    refine PTs.imp pts_nil fun σ H Q q => ?_
    obtain ⟨m, v, h, fr, hr, p⟩ := q
    rw [rT] at p
    exact p _ _ .refl hr
  | one ht he =>
    refine PTs.imp (pts_one (ih.t ok ht he)) fun σ H Q q => ?_
    obtain ⟨m, v, h, fr, hr, p⟩ := q
    rw [rT] at p
    refine TR.of' (Qo := fun m H => OkB X.K G m H Q) fr hr (fun s => OkB.later s) p fun m1 H1 w h1 x1 s1 hr1 q1 fr1 p1 => ?_
    cases q1 <;> first
      | exact p1.elim
      | exact ⟨_, rfl, p1 _ _ .refl hr1⟩
/-- range(..) walked -/
def iRngA (ta : TA) : TI := fun σ H R => ta σ H fun vs H1 => (∃ j : Int, vs = [.int j] ∧ -(2 ^ 62) ≤ j ∧ j < 2 ^ 62 ∧ R (Itr 0 j.toNat) H1) ∨ ∃ i j : Int, vs = [.int i, .int j] ∧ (-(2 ^ 62) ≤ i ∧ i < 2 ^ 62 ∧ -(2 ^ 62) ≤ j ∧ j < 2 ^ 62) ∧ R (Itr i (j - i).toNat) H1
theorem pi_rangeA {X : Cx} {tg e : Expr} {es : List Expr} {ta : TA} {p pos : Pos} (hg : Gl X "range") (hm : X.mg "range" = none) (ha : PA X (e :: es) ta) (he : starEach (e :: es) X.env = (false, eval e X.env) :: starEach es X.env) (hpl : (backTo pos (starEach es X.env)).any (·.1) = false) :
    PI X tg (.Call (.Name "range" p) (e :: es) [] pos) (iRngA ta) := by
  refine ⟨fun pins s σ H R I h => ?_⟩
  refine Call_ (ld_blt I hg hm boot_range (PyProof.Rows.callWith_type1 (thn (ha.run pos pins s σ H _ I h) fun us s1 ⟨vs, H1, I1, r1, q1⟩ => ?_) he hpl))
  rcases q1 with ⟨j, e, b1, b2, q⟩ | ⟨i, j, e, ⟨b1, b2, b3, b4⟩, q⟩
  · subst e
    cases r1 with
    | cons r rr =>
      cases rr
      obtain ⟨t, rfl⟩ := r
      exact call_range_1 (range_it I1 (by omega) (by omega) b1 b2 (by simpa using q))
  · subst e
    cases r1 with
    | cons r rr =>
      cases rr with
      | cons r' rr =>
        cases rr
        obtain ⟨t, rfl⟩ := r
        obtain ⟨t', rfl⟩ := r'
        exact call_range_2 (range_it I1 b1 b2 b3 b4 q)
theorem isL_lst {K : PySem.W.Frag} {G : Gl0} {m : Mp} {h : Hs} {H : Hp} {w : W} {x : V} (hr : HR K G m h H) (q : RW K m H w x) (e : isL h w = true) : ∃ n a vs, w = .obj n ∧ x = .ref a ∧ m n = some a ∧ H a = some (.lst vs) := by
  cases q with
  | @obj n a z =>
    simp only [isL] at e
    split at e
    · rename_i ws hw
      obtain ⟨vs, e1, _⟩ := hr.lst z hw
      exact ⟨n, a, vs, rfl, rfl, z, e1⟩
    · cases e
  | _ => cases e
theorem sr_of {K : PySem.W.Frag} {G : Gl0} {m : Mp} {h : Hs} {H : Hp} {w : W} {x : V} (hr : HR K G m h H) (q : RW K m H w x) (hz : isL h w = true ∨ isT w = true) : ∃ a b xs, x = .ref a ∧ SR K m H w b a ∧ SqB b K H a xs := by
  rcases hz with hz | hz
  · obtain ⟨n1, a1, vs1, rfl, rfl, e1, f1⟩ := isL_lst hr q hz
    exact ⟨a1, false, vs1, rfl, .obj e1, (SqL.of f1 : SqL K H a1 vs1)⟩
  · cases q with
    | tup st rs => exact ⟨_, true, _, rfl, .tup st rs, st⟩
    | _ => cases hz
theorem i_step (ih : SndE P G Cl n) {j : Nat} {C : Cc} {E : XK} {X : Cx} (ok : XOk P G Cl j C E X) {tg e : Expr} {it : It} (h : CI P C tg e it) : PI X tg e (TRI X.K G E (rI Cl (n + 1) it)) := by
  cases h with
  | seq he =>
    refine PI.imp (pi_seq (ih.e ok he)) fun σ H R q => ?_
    obtain ⟨m, v, h, fr, hr, p⟩ := q
    rw [rI] at p
    refine TR.of' (Qo := fun m H => OkI X.K G m H R) fr hr (fun s => OkI.later s) p fun m1 H1 w h1 x1 s1 hr1 q1 fr1 p1 => ?_
    split at p1
    · rename_i us hus
      cases q1 with
      | tup st rs => exact ⟨_, rfl, .inr ⟨⟨_, st⟩, p1 _ _ _ .refl hr1 (.t st rs)⟩⟩
      | ftup st rs => exact ⟨_, rfl, .inr ⟨⟨_, sqf st⟩, p1 _ _ _ .refl hr1 (.t (sqf st) rs)⟩⟩
      | obj e =>
        simp only [seqOf] at hus
        split at hus
        · rename_i ws hw
          obtain ⟨vs, e1, _⟩ := hr1.lst e hw
          exact ⟨_, rfl, .inl ⟨⟨_, .of e1⟩, p1 _ _ _ .refl hr1 (.l e)⟩⟩
        · cases hus
      | _ => simp [seqOf] at hus
    · exact p1.elim
  | @rng _ _ e es xs pp pos hb hns hl hes =>
    rw [List.all_cons, Bool.and_eq_true] at hns
    refine PI.imp (pi_rangeA (ok.gl hb) (ok.blt _ hb.2.1) (ih.es ok hes) (starEach_ns hns.1) (backTo_ns hns.2)) fun σ H R q => ?_
    obtain ⟨m, v, h, fr, hr, p⟩ := q
    rw [rI] at p
    refine ⟨m, v, h, fr, hr, post_mono (fun ws h1 p1 m1 H1 vs s1 hr1 q1 => ?_) (fun _ _ _ z => z) (post_bind p)⟩
    have p1 := later (Qo' := OkI X.K G m1 H1 R) s1 (OkI.later s1) p1
    split at p1
    · rename_i I hI
      unfold rngV at hI
      split at hI
      · rename_i jj
        split at hI
        · rename_i hb
          cases hI
          cases q1 with
          | cons q q1 =>
            cases q1
            cases q
            exact .inl ⟨jj, rfl, by omega, by omega, p1 _ _ _ .refl hr1 (.r _ _)⟩
        · cases hI
      · rename_i ii jj
        split at hI
        · rename_i hb
          cases hI
          cases q1 with
          | cons q q1 =>
            cases q1 with
            | cons q2 q1 =>
              cases q1
              cases q
              cases q2
              exact .inr ⟨ii, jj, rfl, ⟨by omega, by omega, by omega, by omega⟩, p1 _ _ _ .refl hr1 (.r _ _)⟩
        · cases hI
      · cases hI
    · exact p1.elim
  | enm hb hns he =>
    refine PI.imp (pi_eg (ok.gl hb) (ok.blt _ hb.2.1) (pa_cons (ih.e ok he) pa_nil (starEach_ns hns)) (by rw [starEach_ns hns]; rfl)) fun σ H R q => ?_
    obtain ⟨m, v, h, fr, hr, p⟩ := q
    rw [rI] at p
    refine TR.of' (Qo := fun m H => OkI X.K G m H R) fr hr (fun s => OkI.later s) p fun m1 H1 w h1 x1 s1 hr1 q1 fr1 p1 => ?_
    obtain ⟨hL, p1⟩ := post_if p1
    rw [Bool.or_eq_true] at hL
    obtain ⟨a, b, xs, rfl, r1, f1⟩ := sr_of hr1 q1.weak hL
    exact ⟨a, b, xs, rfl, f1, p1 _ _ _ .refl hr1 (.e r1)⟩
  | zip hb hna hnb ha hbx =>
    refine PI.imp (pi_zg (ok.gl hb) (ok.blt _ hb.2.1) (pa_cons (ih.e ok ha) (pa_cons (ih.e ok hbx) pa_nil (starEach_ns hnb)) (starEach_ns hna)) (starEach_ns hna) (backTo_ns (by simp [hnb]))) fun σ H R q => ?_
    obtain ⟨m, v, h, fr, hr, p⟩ := q
    rw [rI] at p
    refine TR.of' (Qo := fun m H => OkI X.K G m H R) fr hr (fun s => OkI.later s) p fun m1 H1 w h1 x1 s1 hr1 q1 fr1 p1 => ?_
    refine TR.of' (Qo := fun m H => OkI X.K G m H R) fr1 hr1 (fun s => OkI.later s) p1 fun m2 H2 w2 h2 x2 s2 hr2 q2 fr2 p2 => ?_
    obtain ⟨hz, p2⟩ := post_if p2
    have q1 := hr1.rw s2 q1
    unfold zipOk at hz
    rw [Bool.and_eq_true, Bool.or_eq_true, Bool.or_eq_true] at hz
    obtain ⟨a1, b1, xs1, rfl, r1, f1⟩ := sr_of hr2 q1.weak hz.1
    obtain ⟨a2, b2, xs2, rfl, r2, f2⟩ := sr_of hr2 q2.weak hz.2
    exact ⟨a1, a2, b1, b2, xs1, xs2, rfl, f1, f2, p2 _ _ _ .refl hr2 (.zg r1 r2)⟩
end
end GS
-- GsEv13
namespace GS
open PySem PySem.Spec PyProof.Rows L2
theorem mt_nm {m : Me} : m.nm = (match m with | .append => ("append" : Str) | .extend => "extend" | .pop => "pop") := by cases m <;> rfl
section
variable {P : Pg} {G : Gl0} {Cl : Cl} {n : Nat} {j : Nat} {C : Cc} {E : XK} {X : Cx}
theorem neg_ok : UnR X (unaryOp .USub) (fun x H Q => ∃ m h w, HR X.K G m h H ∧ RW X.K m H w x ∧ (negW w h).post (OkP X.K G m H Q) (ExP X.K G E m H)) := by
  intro pins s σ H x v Q I r p
  obtain ⟨m, h, w, hr, q, p⟩ := p
  cases q <;> first
    | exact (show False from p).elim
    | exact un_neg pins s σ H _ v Q I r ⟨_, rfl, ok_val hr (.int _) p⟩
theorem mark_ok {op : CmpOp} {b : Expr} (h : isSet b = false) : behindInMarks op b = false := by
  cases b <;> first
    | rfl
    | cases h
theorem chain_run {o o' : COp} {x y z : Env → Hs → R W} {m : Mp} {v : Env} {h : Hs} {σ : L2.St} {H : Hp} {Q : VK} (fr : FR X.K m H v σ) (hr : HR X.K G m h H)
    (p : ((x v h).bind fun a h => (y v h).bind fun b h => (cmpX o a b h).bind fun r h => (asB r h).bind fun t h => match t with
      | true => (z v h).bind fun c h => cmpX o' b c h
      | false => .ok (.bl false) h).post (OkP X.K G m H Q) (ExP X.K G E m H)) : tChain (rB X.K G E (cmpX o)) (rB X.K G E (cmpX o')) (TR X.K G E x) (TR X.K G E y) (TR X.K G E z) σ H Q := by
  refine TR.of fr hr p fun m1 H1 w h1 x1 s1 hr1 q1 fr1 p1 => ?_
  refine TR.of fr1 hr1 p1 fun m2 H2 w2 h2 x2 s2 hr2 q2 fr2 p2 => ?_
  refine ⟨m2, h2, w, w2, hr2, hr1.rw s2 q1, q2, post_mono (fun r h3 p3 m3 H3 u s3 hr3 q3 => ?_) (fun _ _ _ z => z) (post_bind p2)⟩
  obtain ⟨b, rfl, rfl, p3⟩ := asB_run q3 p3
  cases b with
  | false => exact ⟨false, rfl, ok_val hr3 (.bl _) (OkP.later s3 p3)⟩
  | true =>
    refine ⟨true, rfl, ?_⟩
    have p3 := later (Qo' := OkP X.K G m3 H3 Q) s3 (fun _ _ => OkP.later s3) p3
    exact TR.of (fr2.mono hr2 s3) hr3 p3 fun m4 H4 w4 h4 x4 s4 hr4 q4 fr4 p4 => ⟨m4, h4, w2, w4, hr4, hr3.rw s4 (hr2.rw s3 q2), q4, p4⟩
theorem bi_pe {b : Bi} {r : List V → Hp → VK → Prop} {e : Expr} {es : List Expr} {t : TA} {p pos : Pos} (hpl : b.plain = true) (hc : CallR X b.val r) (hg : Gl X b.nm) (hm : X.mg b.nm = none) (ha : PA X (e :: es) t) (hn : b.nm ≠ "__name__") (hdb : (b.nm == ("__debug__" : Str)) = false)
    (he : starEach (e :: es) X.env = (false, eval e X.env) :: starEach es X.env) (hpl2 : (backTo pos (starEach es X.env)).any (·.1) = false) : PE X (.Call (.Name b.nm p) (e :: es) [] pos) (tCB r t) := by
  have hv := boot_bi b hpl
  cases b <;> first
    | exact pe_callB hc hg hm hv ha hn hdb he hpl2
    | exact pe_callTy hc hg hm hv ha hn hdb he hpl2
    | cases hpl
/-- range(..) as an argument -/
def tRgA (ta : TA) : L2.St → Hp → (Int → Int → Hp → Prop) → Prop := fun σ H Q => ta σ H fun vs H1 => (∃ n : Int, vs = [.int n] ∧ Q 0 n H1) ∨ ∃ i j : Int, vs = [.int i, .int j] ∧ Q i j H1
theorem prg_any {e : Expr} {es : List Expr} {ta : TA} {p pos : Pos} (hg : Gl X "range") (hm : X.mg "range" = none) (ha : PA X (e :: es) ta) (he : starEach (e :: es) X.env = (false, eval e X.env) :: starEach es X.env) (hpl : (backTo pos (starEach es X.env)).any (·.1) = false) :
    PRg X (.Call (.Name "range" p) (e :: es) [] pos) (tRgA ta) := by
  intro pins s σ H Q I h
  refine Call_ (ld_blt I hg hm boot_range (PyProof.Rows.callWith_type1 (thn (ha.run pos pins s σ H _ I h) fun us s1 ⟨vs, H1, I1, r1, q1⟩ => ?_) he hpl))
  rcases q1 with ⟨n, e, q⟩ | ⟨i, j, e, q⟩
  · subst e
    cases r1 with
    | cons r rr =>
      cases rr
      obtain ⟨t, rfl⟩ := r
      exact call_range_1 ⟨_, 0, n, _, _, _, H1, rfl, IsRange.new _ _ _ _ _ _ _, I1.kept fun b u e => Heap.get?_push_of_some _ e, q⟩
  · subst e
    cases r1 with
    | cons r rr =>
      cases rr with
      | cons r' rr =>
        cases rr
        obtain ⟨t, rfl⟩ := r
        obtain ⟨t', rfl⟩ := r'
        exact call_range_2 ⟨_, i, j, _, _, _, H1, rfl, IsRange.new _ _ _ _ _ _ _, I1.kept fun b u e => Heap.get?_push_of_some _ e, q⟩
theorem rangeW_rel {K : PySem.W.Frag} {m : Mp} {H : Hp} : ∀ (n : Nat) (a : Int), RWs K m H (rangeW a n) ((List.range n).map fun (i : Nat) => V.int (a + (i : Nat)))
  | 0, _ => .nil
  | n + 1, a => by
    unfold rangeW
    rw [List.range_succ_eq_map, List.map_cons, List.map_map]
    refine .cons ?_ ?_
    · have e : a + ((0 : Nat) : Int) = a := by simp
      rw [e]; exact .int a
    · have ih := rangeW_rel (K := K) (m := m) (H := H) n (a + 1)
      have e : ((List.range n).map fun (i : Nat) => V.int (a + 1 + (i : Nat))) = (List.range n).map ((fun (i : Nat) => V.int (a + (i : Nat))) ∘ Nat.succ) := by
        apply List.map_congr_left
        intro i _
        show V.int (a + 1 + i) = V.int (a + ((i + 1 : Nat) : Int))
        congr 1
        omega
      rw [← e]
      exact ih
theorem lr_run {m : Mp} {h : Hs} {H : Hp} {ws : List W} {vs : List V} {Q : VK} (hr : HR X.K G m h H) (q : RWs X.K m H ws vs) (p : (biW .listRange ws h).post (OkP X.K G m H Q) (ExP X.K G E m H)) :
    (∃ n : Int, vs = [.int n] ∧ RgOk 0 n ∧ ∀ a, H a = none → Q (.ref a) (upd H a (.lst (rgV 0 n)))) ∨ ∃ i j : Int, vs = [.int i, .int j] ∧ RgOk i j ∧ ∀ a, H a = none → Q (.ref a) (upd H a (.lst (rgV i j))) := by
  cases q with
  | nil => exact (show False from p).elim
  | cons q qs =>
    cases qs with
    | nil =>
      cases q <;> try exact (show False from p).elim
      rename_i j
      obtain ⟨hz, p⟩ := post_if p
      refine .inl ⟨j, rfl, ⟨by omega, by omega, by omega, by omega, by omega⟩, ok_new hr ?_ p⟩
      have e : j - 0 = j := by omega
      have := rangeW_rel (K := X.K) (m := m) (H := H) j.toNat 0
      unfold rgV
      rw [e]
      exact this
    | cons q2 qs =>
      cases qs with
      | cons _ _ => cases q <;> cases q2 <;> exact (show False from p).elim
      | nil =>
        cases q <;> cases q2 <;> try exact (show False from p).elim
        rename_i i j
        obtain ⟨hz, p⟩ := post_if p
        exact .inr ⟨i, j, rfl, ⟨by omega, by omega, by omega, by omega, by omega⟩, ok_new hr (rangeW_rel _ _) p⟩
theorem tr_run {m : Mp} {h : Hs} {H : Hp} {ws : List W} {vs : List V} {Q : VK} (hr : HR X.K G m h H) (q : RWs X.K m H ws vs) (p : (biW .tupRange ws h).post (OkP X.K G m H Q) (ExP X.K G E m H)) :
    (∃ n : Int, vs = [.int n] ∧ RgOk 0 n ∧ ∀ a, H a = none → Q (.ref a) (upd H a (.tup (rgV 0 n)))) ∨ ∃ i j : Int, vs = [.int i, .int j] ∧ RgOk i j ∧ ∀ a, H a = none → Q (.ref a) (upd H a (.tup (rgV i j))) := by
  cases q with
  | nil => exact (show False from p).elim
  | cons q qs =>
    cases qs with
    | nil =>
      cases q <;> try exact (show False from p).elim
      rename_i j
      obtain ⟨hz, p⟩ := post_if p
      refine .inl ⟨j, rfl, ⟨by omega, by omega, by omega, by omega, by omega⟩, fun a ha => ok_tup hr ?_ p a ha⟩
      have e : j - 0 = j := by omega
      have := rangeW_rel (K := X.K) (m := m) (H := H) j.toNat 0
      unfold rgV
      rw [e]
      exact this
    | cons q2 qs =>
      cases qs with
      | cons _ _ => cases q <;> cases q2 <;> exact (show False from p).elim
      | nil =>
        cases q <;> cases q2 <;> try exact (show False from p).elim
        rename_i i j
        obtain ⟨hz, p⟩ := post_if p
        exact .inr ⟨i, j, rfl, ⟨by omega, by omega, by omega, by omega, by omega⟩, fun a ha => ok_tup hr (rangeW_rel _ _) p a ha⟩
/-- repr of a list, a tuple, where no guard stands around -/
def rRep (K : PySem.W.Frag) : List V → Hp → VK → Prop := fun xs H Q => ∃ x d, xs = [x] ∧ Dp K H x d ∧ d.showable = true ∧ d.hasDict = false ∧ d.depth ≤ 30 ∧ d.shown.length ≤ sizeLine ∧ Q (.str d.shown) H
theorem call_rep {X : Cx} (hg : X.A.guards = some []) (hu : X.A.units + 64 < cLine) : CallR X (.builtin "repr") (rRep X.K) := by
  intro pins s σ H xs us Q I r h
  obtain ⟨x, d, rfl, dp, h1, h2, h4, h5, q⟩ := h
  obtain ⟨u, rfl, rx⟩ := vals1 r
  obtain ⟨as, rd⟩ := Dp.reads I d x u dp rx
  have ref : ∀ a, u = .ref a → wpAny (model X.prog X.w) X.A (call (.builtin "repr") [u]) (EP X pins σ Q) X.xe s := fun a e => by
    subst e
    exact PySem.repr_of_reads' rd h1 (PyData.noDict_hsm h2) hg (by omega) (fun _ _ e => e) (fun h' t tk hk => ⟨.str d.shown, H, I.kept hk, ⟨t, rfl⟩, q⟩) h5
  cases rd with
  | none => rw [PyData.shown] at q; exact PySem.P.repr_of_none ⟨.str _, H, I.tok _, ⟨_, rfl⟩, q⟩
  | bool b => rw [PyData.shown] at q; exact PySem.P.repr_of_bool ⟨.str _, H, I.tok _, ⟨_, rfl⟩, q⟩
  | int i t => rw [PyData.shown] at q; exact PySem.P.repr_of_int (by simpa [PyData.showable] using h1) ⟨.str _, H, I.tok _, ⟨_, rfl⟩, q⟩
  | str y t => rw [PyData.shown] at q h5; exact PySem.P.repr_of_str ⟨.str _, H, I.tok _, ⟨_, rfl⟩, q⟩ h5
  | list _ _ _ _ => exact ref _ rfl
  | tuple _ _ _ _ => exact ref _ rfl
  | dict _ _ _ _ _ => exact ref _ rfl
theorem boot_sorted2 : bootBuiltins ("sorted" : Str) = some (.builtin "sorted") := by kernel_rfl
theorem boot_len2 : bootBuiltins ("len" : Str) = some (.builtin "len") := by kernel_rfl
theorem boot_repr2 : bootBuiltins ("repr" : Str) = some (.builtin "repr") := by kernel_rfl
def partsFin (K : PySem.W.Frag) (G : Gl0) (m : Mp) (H : Hp) (acc : Str) (Q : Str → Hp → Prop) : List W → Hs → Prop := fun ws h1 => match strsOf ws with
  | some ys => ∀ m1 H1, Stp m H m1 H1 → HR K G m1 h1 H1 → Q (ys.foldl (· ++ ·) acc) H1
  | none => False
theorem len_app (x y : Str) : (x ++ y).length = x.length + y.length := by
  show (x.cps ++ y.cps).size = _
  rw [Array.size_append]
  rfl
theorem parts_run (ihs : ∀ k, k < n → SndE P G Cl k) (ok : XOk P G Cl j C E X) {es : List Expr} {xs : Exs} (hp : CPs P C es xs) : ∃ ts, PJ X es ts ∧ ∀ k, k ≤ n → ∀ (acc : Str) (σ : L2.St) (H : Hp) (Q : Str → Hp → Prop) (m : Mp) (v : Env) (h : Hs), acc.length + 100000 * es.length ≤ sizeLine → FR X.K m H v σ → HR X.K G m h H →
    (rEs Cl k xs v h).post (partsFin X.K G m H acc Q) (ExP X.K G E m H) → tJs ts acc σ H Q := by
  induction es generalizing xs with
  | nil =>
    cases hp
    refine ⟨[], .nil, fun k _ acc σ H Q m v h _ fr hr p => ?_⟩
    cases k with
    | zero => rw [rEs] at p; exact p.elim
    | succ k => rw [rEs] at p; exact p m H .refl hr
  | cons e0 es ih =>
   cases hp with
   | @cst _ t j p _ xs ht hps =>
    obtain ⟨ts, pj, hj⟩ := ih hps
    refine ⟨_ :: ts, .cons pe_str pj, fun k hk acc σ H Q m v h hl fr hr p => ?_⟩
    match k, hk, p with
    | 0, _, p => rw [rEs] at p; exact p.elim
    | 1, _, p => rw [rEs, rE] at p; exact p.elim
    | k + 2, hk, p =>
      rw [rEs, rE] at p
      have p := post_bind p
      simp only [List.length_cons] at hl
      refine ⟨t, rfl, by rw [len_app]; omega, hj (k + 1) (by omega) (acc ++ t) σ H Q m v h (by rw [len_app]; omega) fr hr (post_mono (fun ws h1 p1 => ?_) (fun _ _ _ z => z) (post_bind p))⟩
      unfold partsFin at *
      have e : strsOf (.str t :: ws) = (strsOf ws).map (t :: ·) := rfl
      have p1 : (match strsOf (.str t :: ws) with | some ys => ∀ m1 H1, Stp m H m1 H1 → HR X.K G m1 h1 H1 → Q (ys.foldl (· ++ ·) acc) H1 | none => False) := p1
      rw [e] at p1
      revert p1
      cases strsOf ws with
      | none => exact fun z => z
      | some ys => exact fun z => z
   | @fmt _ e p _ x xs he hps =>
    obtain ⟨ts, pj, hj⟩ := ih hps
    have hv : PE X e (fun σ H Q => ∃ k, k < n ∧ TR X.K G E (rE Cl k x) σ H Q) := ⟨fun pins s' σ H' Q I ⟨k, hk, q⟩ => ((ihs k hk).e ok he).run pins s' σ H' Q I q⟩
    refine ⟨_ :: ts, .cons (pe_fmt hv) pj, fun k hk acc σ H Q m v h hl fr hr p => ?_⟩
    match k, hk, p with
    | 0, _, p => rw [rEs] at p; exact p.elim
    | 1, _, p => rw [rEs, rE] at p; exact p.elim
    | k + 2, hk, p =>
      rw [rEs, rE] at p
      simp only [List.length_cons] at hl
      have p := post_bind (post_bind p)
      refine ⟨k, by omega, m, v, h, fr, hr, post_mono (fun w h1 p1 m1 H1 x1 s1 hr1 q1 => ?_) (fun _ _ _ z => z) p⟩
      have go : ∀ y : Str, y.length ≤ 100000 → ((rEs Cl (k + 1) xs v h1).bind fun ws h => R.ok (W.str y :: ws) h).post (partsFin X.K G m H acc Q) (ExP X.K G E m H) → (acc ++ y).length ≤ sizeLine ∧ tJs ts (acc ++ y) σ H1 Q := fun y hy p2 => by
        refine ⟨by rw [len_app]; omega, hj (k + 1) (by omega) (acc ++ y) σ H1 Q m1 v h1 (by rw [len_app]; omega) (fr.mono hr s1) hr1 (later s1 (fun ws h2 p3 => ?_) (post_bind p2))⟩
        have p3 : partsFin X.K G m H acc Q (.str y :: ws) h2 := p3
        unfold partsFin at *
        have e : strsOf (.str y :: ws) = (strsOf ws).map (y :: ·) := rfl
        rw [e] at p3
        revert p3
        cases strsOf ws with
        | none => exact fun z => z
        | some ys => exact fun z m2 H2 s2 hr2 => z m2 H2 (s1.trans s2) hr2
      cases q1 with
      | str y =>
        obtain ⟨hy, p1⟩ := post_if p1
        exact .inl ⟨y, rfl, by rw [sizeLine_eq]; omega, y, rfl, go y hy p1⟩
      | int i =>
        obtain ⟨hy, p1⟩ := post_if p1
        exact .inr ⟨i, rfl, hy.1, _, rfl, go _ hy.2 p1⟩
      | _ => exact (show False from p1).elim
theorem e_step (ihs : ∀ k, k < n + 1 → SndE P G Cl k) (ok : XOk P G Cl j C E X) {e : Expr} {x : Ex} (h : CE P C e x) : PE X e (TR X.K G E (rE Cl (n + 1) x)) := by
  have ih := ihs n (Nat.lt_succ_self n)
  have hN : X.N.Nodup := by rw [ok.N]; exact ok.nd
  have hu65 : X.A.units + 65 < cLine := by have := ok.room.un; omega
  cases h with
  | @var _ x i pos hi hv hn =>
    refine PE.imp (pe_var (by rw [ok.N]; exact hi) (by rw [ok.sc]; exact hv) (okNm_d hn) (okNm_c hn)) fun σ H Q q => ?_
    obtain ⟨m, v, h, fr, hr, p⟩ := q
    rw [rE] at p
    split at p
    · rename_i w hw
      obtain ⟨x1, e1, q1⟩ := fr.at_ _ _ hw
      exact ⟨x1, e1, ok_val hr q1.weak p⟩
    · exact p.elim
  | @varF _ x i pos hi hv hn =>
    refine PE.imp (pe_var (by rw [ok.N]; exact hi) (by rw [ok.sc]; exact hv) (okNm_d hn) (okNm_c hn)) fun σ H Q q => ?_
    obtain ⟨m, v, h, fr, hr, p⟩ := q
    rw [rE] at p
    split at p
    · rename_i w hw
      obtain ⟨x1, e1, q1⟩ := fr.at_ _ _ hw
      exact ⟨x1, e1, ok_val hr q1 p⟩
    · exact p.elim
  | tupF hes =>
    refine PE.imp (pe_tupF (ih.es ok hes)) fun σ H Q q => ?_
    obtain ⟨m, v, h, fr, hr, p⟩ := q
    rw [rE] at p
    refine ⟨m, v, h, fr, hr, post_mono (fun ws h1 p1 m1 H1 vs s1 hr1 q1 => ?_) (fun _ _ _ z => z) (post_bind p)⟩
    obtain ⟨hz, p1⟩ := post_if p1
    refine ⟨by rw [← q1.length]; exact of_decide_eq_true hz, fun a o ha hd => ?_⟩
    have s2 : Stp m1 H1 m1 (upd H1 a (.frz o (.tup vs))) := .tup ha
    exact OkP.later s1 p1 _ _ _ s2 (hr1.fresh ha) (.ftup ⟨o, upd_same, hd⟩ (hr1.rws s2 q1))
  | dnewK =>
    refine PE.imp pe_dnewK fun σ H Q q => ?_
    obtain ⟨m, v, h, fr, hr, p⟩ := q
    rw [rE] at p
    exact fun a ha => p _ _ _ (.push hr ha) (hr.pushO ha ⟨[], upd_same, .nil⟩) (.obj mpush_self)
  | dix hp ha hb =>
    refine PE.imp (pe_dget (by have := hu65; omega) (ih.e ok ha) (ih.e ok hb) (noSl_ok hp)) fun σ H Q q => ?_
    obtain ⟨m, v, h, fr, hr, p⟩ := q
    rw [rE] at p
    refine TR.of fr hr p fun m1 H1 w h1 x1 s1 hr1 q1 fr1 p1 => ?_
    exact TR.of fr1 hr1 p1 fun m2 H2 w2 h2 x2 s2 hr2 q2 fr2 p2 => dix_run hr2 (hr1.rw s2 q1) q2 p2
  | tixv hbo hln hns ho he =>
    refine PE.imp (pe_tixV (ih.e ok ho) (pa_cons (ih.e ok he) pa_nil (starEach_ns hns)) (base_ok hbo) (few_ns (by simp [hns]) (by decide)) hln (starEach_ns hns) rfl) fun σ H Q q => ?_
    obtain ⟨m, v, h, fr, hr, p⟩ := q
    rw [rE] at p
    refine TR.of fr hr p fun m1 H1 w h1 x1 s1 hr1 q1 fr1 p1 => ?_
    split at p1
    · rename_i ws
      cases q1 with
      | @ftup a vs _ st rs =>
        refine ⟨a, vs, rfl, st, TR.of fr1 hr1 p1 fun m3 H3 w h3 x3 s3 hr3 q3 fr3 p3 => ?_⟩
        cases q3 with
        | int k =>
          simp only [tixW] at p3
          split at p3
          · rename_i ns hns2
            obtain ⟨hk, p3⟩ := post_if p3
            exact ⟨ns, k, ints_rel rs hns2, rfl, hr1.sqt s3 (sqf st), hk, ok_val hr3 (.int _) p3⟩
          · exact p3.elim
        | _ => cases ws <;> exact (show False from p3).elim
    · exact p1.elim
  | @glo _ x w pos hg =>
    obtain ⟨v, u, hm, rv, hw⟩ := ok.cst _ _ hg.2.1
    refine PE.imp (pe_glob (ok.gl hg) hm rv (okNm_d hg.2.2)) fun σ H Q q => ?_
    obtain ⟨m, v, h, fr, hr, p⟩ := q
    rw [rE] at p
    exact ok_val hr (hw _ _) p
  | int =>
    refine PE.imp pe_int fun σ H Q q => ?_
    obtain ⟨m, v, h, fr, hr, p⟩ := q
    rw [rE] at p
    exact ok_val hr (.int _) p
  | bl =>
    refine PE.imp pe_bl fun σ H Q q => ?_
    obtain ⟨m, v, h, fr, hr, p⟩ := q
    rw [rE] at p
    exact ok_val hr (.bl _) p
  | non =>
    refine PE.imp pe_non fun σ H Q q => ?_
    obtain ⟨m, v, h, fr, hr, p⟩ := q
    rw [rE] at p
    exact ok_val hr .non p
  | str =>
    refine PE.imp pe_str fun σ H Q q => ?_
    obtain ⟨m, v, h, fr, hr, p⟩ := q
    rw [rE] at p
    exact ok_val hr (.str _) p
  | tup hes =>
    refine PE.imp (pe_tup (ih.es ok hes)) fun σ H Q q => ?_
    obtain ⟨m, v, h, fr, hr, p⟩ := q
    rw [rE] at p
    refine ⟨m, v, h, fr, hr, post_mono (fun ws h1 p1 m1 H1 vs s1 hr1 q1 => ?_) (fun _ _ _ z => z) (post_bind p)⟩
    obtain ⟨hz, p1⟩ := post_if p1
    exact ⟨by rw [← q1.length]; exact of_decide_eq_true hz, ok_tup hr1 q1 (OkP.later s1 p1)⟩
  | lst hes =>
    refine PE.imp (pe_lst (ih.es ok hes)) fun σ H Q q => ?_
    obtain ⟨m, v, h, fr, hr, p⟩ := q
    rw [rE] at p
    refine ⟨m, v, h, fr, hr, post_mono (fun ws h1 p1 m1 H1 vs s1 hr1 q1 => ?_) (fun _ _ _ z => z) (post_bind p)⟩
    obtain ⟨hz, p1⟩ := post_if p1
    exact ⟨by rw [← q1.length]; exact of_decide_eq_true hz, ok_new hr1 q1 (OkP.later s1 p1)⟩
  | bin ha hb =>
    refine PE.imp (pe_op (binX_ok (G := G) (E := E) _) (ih.e ok ha) (ih.e ok hb)) fun σ H Q q => ?_
    obtain ⟨m, v, h, fr, hr, p⟩ := q
    rw [rE] at p
    refine TR.of fr hr p fun m1 H1 w h1 x1 s1 hr1 q1 fr1 p1 => ?_
    exact TR.of fr1 hr1 p1 fun m2 H2 w2 h2 x2 s2 hr2 q2 fr2 p2 => ⟨m2, h2, w, w2, hr2, hr1.rw s2 q1, q2, p2⟩
  | neg ha =>
    refine PE.imp (pe_un (neg_ok (G := G) (E := E)) (ih.e ok ha)) fun σ H Q q => ?_
    obtain ⟨m, v, h, fr, hr, p⟩ := q
    rw [rE] at p
    exact TR.of fr hr p fun m1 H1 w h1 x1 s1 hr1 q1 fr1 p1 => ⟨m1, h1, w, hr1, q1, p1⟩
  | nt _ ha =>
    refine PE.imp (pe_not (ih.e ok ha)) fun σ H Q q => ?_
    obtain ⟨m, v, h, fr, hr, p⟩ := q
    rw [rE] at p
    refine TR.of fr hr p fun m1 H1 w h1 x1 s1 hr1 q1 fr1 p1 => ?_
    obtain ⟨b, rfl, rfl, p1⟩ := asB_run q1 p1
    exact ⟨b, rfl, ok_val hr1 (.bl _) p1⟩
  | cmp hb2 ha hb =>
    refine PE.imp (pe_cmpR (cmpX_ok (G := G) (E := E) hu65 _) (ih.e ok ha) (ih.e ok hb) (mark_ok hb2)) fun σ H Q q => ?_
    obtain ⟨m, v, h, fr, hr, p⟩ := q
    rw [rE] at p
    refine TR.of fr hr p fun m1 H1 w h1 x1 s1 hr1 q1 fr1 p1 => ?_
    exact TR.of fr1 hr1 p1 fun m2 H2 w2 h2 x2 s2 hr2 q2 fr2 p2 => ⟨m2, h2, w, w2, hr2, hr1.rw s2 q1, q2, p2⟩
  | cmp2 hb2 ha hb hc =>
    refine PE.imp (pe_chain (cmpX_ok (G := G) (E := E) hu65 _) (cmpX_ok (G := G) (E := E) hu65 _) (ih.e ok ha) (ih.e ok hb) (ih.e ok hc) (show behindInMarks _ _ = false from mark_ok hb2)) fun σ H Q q => ?_
    obtain ⟨m, v, h, fr, hr, p⟩ := q
    rw [rE] at p
    exact chain_run fr hr p
  | and2 _ _ ha hb =>
    refine PE.imp (pe_and (ih.e ok ha) (pe_one (ih.e ok hb))) fun σ H Q q => ?_
    obtain ⟨m, v, h, fr, hr, p⟩ := q
    rw [rE] at p
    refine TR.of fr hr p fun m1 H1 w h1 x1 s1 hr1 q1 fr1 p1 => ?_
    obtain ⟨b, rfl, rfl, p1⟩ := asB_run q1 p1
    cases b with
    | true => exact ⟨_, rfl, m1, v, h1, fr1, hr1, p1⟩
    | false => exact ⟨_, rfl, ok_val hr1 (.bl _) p1⟩
  | andN _ ha hb =>
    refine PE.imp (pe_and (ih.e ok ha) (ih.e ok hb)) fun σ H Q q => ?_
    obtain ⟨m, v, h, fr, hr, p⟩ := q
    rw [rE] at p
    refine TR.of fr hr p fun m1 H1 w h1 x1 s1 hr1 q1 fr1 p1 => ?_
    obtain ⟨b, rfl, rfl, p1⟩ := asB_run q1 p1
    cases b with
    | true => exact ⟨_, rfl, m1, v, h1, fr1, hr1, p1⟩
    | false => exact ⟨_, rfl, ok_val hr1 (.bl _) p1⟩
  | or2 _ _ ha hb =>
    refine PE.imp (pe_or (ih.e ok ha) (pe_one (ih.e ok hb))) fun σ H Q q => ?_
    obtain ⟨m, v, h, fr, hr, p⟩ := q
    rw [rE] at p
    refine TR.of fr hr p fun m1 H1 w h1 x1 s1 hr1 q1 fr1 p1 => ?_
    obtain ⟨b, rfl, rfl, p1⟩ := asB_run q1 p1
    cases b with
    | false => exact ⟨_, rfl, m1, v, h1, fr1, hr1, p1⟩
    | true => exact ⟨_, rfl, ok_val hr1 (.bl _) p1⟩
  | orN _ ha hb =>
    refine PE.imp (pe_or (ih.e ok ha) (ih.e ok hb)) fun σ H Q q => ?_
    obtain ⟨m, v, h, fr, hr, p⟩ := q
    rw [rE] at p
    refine TR.of fr hr p fun m1 H1 w h1 x1 s1 hr1 q1 fr1 p1 => ?_
    obtain ⟨b, rfl, rfl, p1⟩ := asB_run q1 p1
    cases b with
    | false => exact ⟨_, rfl, m1, v, h1, fr1, hr1, p1⟩
    | true => exact ⟨_, rfl, ok_val hr1 (.bl _) p1⟩
  | ite ht hc ha hb =>
    refine PE.imp (pe_ifExp (ih.t ok ht hc) (ih.e ok ha) (ih.e ok hb)) fun σ H Q q => ?_
    obtain ⟨m, v, h, fr, hr, p⟩ := q
    rw [rE] at p
    refine TR.of fr hr p fun m1 H1 w h1 x1 s1 hr1 q1 fr1 p1 => ?_
    obtain ⟨b, rfl, rfl, p1⟩ := asB_run q1 p1
    cases b with
    | true => exact ⟨_, rfl, m1, v, h1, fr1, hr1, p1⟩
    | false => exact ⟨_, rfl, m1, v, h1, fr1, hr1, p1⟩
  | ix hp ha hb =>
    refine PE.imp (pe_ix (ixX_ok (G := G) (E := E)) (ih.e ok ha) (ih.e ok hb) (plainIx_ok hp)) fun σ H Q q => ?_
    obtain ⟨m, v, h, fr, hr, p⟩ := q
    rw [rE] at p
    refine TR.of fr hr p fun m1 H1 w h1 x1 s1 hr1 q1 fr1 p1 => ?_
    exact TR.of fr1 hr1 p1 fun m2 H2 w2 h2 x2 s2 hr2 q2 fr2 p2 => ⟨m2, h2, w, w2, hr2, hr1.rw s2 q1, q2, p2⟩
  | sl ha hlo hhi =>
    refine PE.imp (pe_slice (sl_ok (G := G) (E := E)) (ih.e ok ha) (ih.o ok hlo) (ih.o ok hhi)) fun σ H Q q => ?_
    obtain ⟨m, v, h, fr, hr, p⟩ := q
    rw [rE] at p
    refine TR.of fr hr p fun m1 H1 w h1 x1 s1 hr1 q1 fr1 p1 => ?_
    refine ⟨m1, v, h1, fr1, hr1, post_mono (fun l h2 p2 m2 H2 s2 hr2 => ?_) (fun _ _ _ z => z) (post_bind p1)⟩
    refine ⟨m2, v, h2, fr1.mono hr1 s2, hr2, post_mono (fun u h3 p3 m3 H3 s3 hr3 => ?_) (fun _ _ _ z => z) (post_bind (later s2 (fun _ _ => OkP.later s2) p2))⟩
    exact ⟨m3, h3, w, hr3, hr2.rw s3 (hr1.rw s2 q1), later s3 (fun _ _ => OkP.later s3) p3⟩
  | @isa _ a x t pp p2 pos hb hb2 hns ha =>
    refine PE.imp (pe_callB call_isi (ok.gl hb) (ok.blt _ hb.2.1) boot_isi (pa_cons (ih.e ok ha) (pa_cons (pe_bltn (v := .ty t.name) (ok.gl hb2) (ok.blt _ hb2.2.1) (boot_ty t) rfl (okNm_n hb2.2.2) (okNm_d hb2.2.2)) pa_nil rfl) (starEach_ns hns)) (okNm_n hb.2.2) (okNm_d hb.2.2) (starEach_ns hns) rfl) fun σ H Q q => ?_
    obtain ⟨m, v, h, fr, hr, p⟩ := q
    rw [rE] at p
    refine TR.of fr hr p fun m1 H1 w h1 x1 s1 hr1 q1 fr1 p1 => ?_
    split at p1
    · rename_i b hb
      obtain ⟨T, ty, kb⟩ := isa_ok hr1 q1 hb
      exact ⟨x1, .ty t.name, _, _, b, rfl, .ty _, ty, kit_ty kb, ok_val hr1 (.bl _) p1⟩
    · exact p1.elim
  | @bi _ b e es xs pp pos hpl hb hns hes =>
    rw [List.all_cons, Bool.and_eq_true] at hns
    refine PE.imp (bi_pe hpl (biX_ok (G := G) (E := E) ok.calm hu65 b hpl) (ok.gl hb) (ok.blt _ hb.2.1) (ih.es ok hes) (okNm_n hb.2.2) (okNm_d hb.2.2) (starEach_ns hns.1) (backTo_ns hns.2)) fun σ H Q q => ?_
    obtain ⟨m, v, h, fr, hr, p⟩ := q
    rw [rE] at p
    exact ⟨m, v, h, fr, hr, post_mono (fun ws h1 p1 m1 H1 vs s1 hr1 q1 => ⟨m1, h1, ws, hr1, q1, later s1 (fun _ _ => OkP.later s1) p1⟩) (fun _ _ _ z => z) (post_bind p)⟩
  | @rp _ a x pp pos hb hgd hns ha =>
    refine PE.imp (pe_callB (call_rep (ok.gd hgd) ok.hu) (ok.gl hb) (ok.blt _ hb.2.1) boot_repr2 (pa_cons (ih.e ok ha) pa_nil (starEach_ns hns)) (by decide) (by decide) (starEach_ns hns) (backTo_ns (es := []) rfl)) fun σ H Q q => ?_
    obtain ⟨m, v, h, fr, hr, p⟩ := q
    rw [rE] at p
    refine TR.of fr hr p fun m1 H1 w h1 x1 s1 hr1 q1 fr1 p1 => ?_
    split at p1
    · rename_i t ht
      unfold reprW at ht
      split at ht
      · rename_i d hd
        split at ht
        · rename_i hc
          cases ht
          simp only [Bool.and_eq_true, Bool.not_eq_true', decide_eq_true_eq] at hc
          obtain ⟨⟨⟨c1, c2⟩, c4⟩, c5⟩ := hc
          exact ⟨x1, d, rfl, toD_dp hr1 _ q1 hd, c1, c2, c4, c5, ok_val hr1 (.str _) p1⟩
        · cases ht
      · cases ht
    · exact p1.elim
  | @tupRange _ e es xs pp p2 pos2 pos hb hb2 hns hl hes =>
    rw [List.all_cons, Bool.and_eq_true] at hns
    refine PE.imp (pe_tupRg ok.calm (ok.gl hb) (ok.blt _ hb.2.1) (prg_any (ok.gl hb2) (ok.blt _ hb2.2.1) (ih.es ok hes) (starEach_ns hns.1) (backTo_ns hns.2)) rfl) fun σ H Q q => ?_
    obtain ⟨m, v, h, fr, hr, p⟩ := q
    rw [rE] at p
    refine ⟨m, v, h, fr, hr, post_mono (fun ws h1 p1 m1 H1 vs s1 hr1 q1 => ?_) (fun _ _ _ z => z) (post_bind p)⟩
    have p1 := later (Qo' := OkP X.K G m1 H1 Q) s1 (fun _ _ => OkP.later s1) p1
    exact tr_run hr1 q1 p1
  | @listRange _ e es xs pp p2 pos2 pos hb hb2 hns hl hes =>
    rw [List.all_cons, Bool.and_eq_true] at hns
    refine PE.imp (pe_listRg ok.calm (ok.gl hb) (ok.blt _ hb.2.1) (prg_any (ok.gl hb2) (ok.blt _ hb2.2.1) (ih.es ok hes) (starEach_ns hns.1) (backTo_ns hns.2)) rfl) fun σ H Q q => ?_
    obtain ⟨m, v, h, fr, hr, p⟩ := q
    rw [rE] at p
    refine ⟨m, v, h, fr, hr, post_mono (fun ws h1 p1 m1 H1 vs s1 hr1 q1 => ?_) (fun _ _ _ z => z) (post_bind p)⟩
    have p1 := later (Qo' := OkP X.K G m1 H1 Q) s1 (fun _ _ => OkP.later s1) p1
    exact lr_run hr1 q1 p1
  | me hbo hln hns hl ho hes =>
    have hns' := hns
    rw [List.all_cons, Bool.and_eq_true] at hns
    refine PE.imp (Me.pe (G := G) (E := E) mt_nm (ih.e ok ho) (ih.es ok hes) (base_ok hbo) (few_ns hns' hl) hln (starEach_ns hns.1) (backTo_ns hns.2)) fun σ H Q q => ?_
    obtain ⟨m, v, h, fr, hr, p⟩ := q
    rw [rE] at p
    refine TR.of fr hr p fun m1 H1 w h1 x1 s1 hr1 q1 fr1 p1 => ?_
    obtain ⟨hL, p1⟩ := post_if p1
    refine ⟨isL_ty hr1 q1 hL, m1, v, h1, fr1, hr1, post_mono (fun ws h2 p2 m2 H2 vs s2 hr2 q2 => ?_) (fun _ _ _ z => z) (post_bind p1)⟩
    exact ⟨m2, h2, w, ws, hr2, hr1.rw s2 q1, q2, later s2 (fun _ _ => OkP.later s2) p2⟩
  | me0 hbo hln ho =>
    refine PE.imp (Me.pe0 (G := G) (E := E) mt_nm (ih.e ok ho) (base_ok hbo) hln) fun σ H Q q => ?_
    obtain ⟨m, v, h, fr, hr, p⟩ := q
    rw [rE] at p
    refine TR.of fr hr p fun m1 H1 w h1 x1 s1 hr1 q1 fr1 p1 => ?_
    obtain ⟨hL, p1⟩ := post_if p1
    refine ⟨isL_ty hr1 q1 hL, m1, h1, w, [], hr1, q1, .nil, ?_⟩
    cases n with
    | zero => rw [rEs] at p1; exact p1.elim
    | succ n => rw [rEs] at p1; exact p1
  | tix hln hns hes he =>
    refine PE.imp (pe_tix (ih.es ok hes) (pa_cons (ih.e ok he) pa_nil (starEach_ns hns)) rfl (few_ns (by simp [hns]) (by decide)) hln (starEach_ns hns) rfl) fun σ H Q q => ?_
    obtain ⟨m, v, h, fr, hr, p⟩ := q
    rw [rE] at p
    refine ⟨m, v, h, fr, hr, post_mono (fun ws h1 p1 m1 H1 vs s1 hr1 q1 => ?_) (fun _ _ _ z => z) (post_bind p)⟩
    obtain ⟨hz, p1⟩ := post_if p1
    refine ⟨by rw [← q1.length]; exact of_decide_eq_true hz, fun a ha => ?_⟩
    have s2 : Stp m1 H1 m1 (upd H1 a (.tup vs)) := .tup ha
    have hr2 : HR X.K G m1 h1 (upd H1 a (.tup vs)) := hr1.tup ha
    have p1 := later (Qo' := OkP X.K G m1 (upd H1 a (.tup vs)) Q) (s1.trans s2) (fun _ _ => OkP.later (s1.trans s2)) p1
    refine TR.of ((fr.mono hr s1).mono hr1 s2) hr2 p1 fun m3 H3 w h3 x3 s3 hr3 q3 fr3 p3 => ?_
    cases q3 with
    | int k =>
      simp only [tixW] at p3
      split at p3
      · rename_i ns hns2
        obtain ⟨hk, p3⟩ := post_if p3
        have e := ints_rel q1 hns2
        exact ⟨ns, k, e, rfl, s3.kp a _ upd_same (fun n z => hr2.not upd_same (fun z => z) z) (fun ps z => by cases z) (fun ps z => by cases z), hk, ok_val hr3 (.int _) p3⟩
      · exact p3.elim
    | _ => cases ws <;> exact (show False from p3).elim
  | @call _ x f e es xs pp pos hg hgb hns hes =>
    rw [List.all_cons, Bool.and_eq_true] at hns
    obtain ⟨a, hm, hk, F⟩ := ok.fns _ _ hg.2.1
    refine PE.imp (pe_callR F (fun z => ok.gd (hgb z)) (ok.room.mono (Nat.le_succ _)) hk (ok.gl hg) hm ok.pass (ih.es ok hes) (okNm_d hg.2.2) (starEach_ns hns.1) (backTo_ns hns.2)) fun σ H Q q => ?_
    obtain ⟨m, v, h, fr, hr, p⟩ := q
    rw [rE] at p
    exact ⟨m, v, h, fr, hr, post_mono (fun ws h1 p1 m1 H1 vs s1 hr1 q1 => ⟨m1, h1, ws, hr1, q1, later s1 (fun _ _ => OkP.later s1) p1⟩) (fun _ _ _ z => z) (post_bind p)⟩
  | @lc _ elt tg iter ifs scope own x t it cs pos bok htg hset hi hg hts he =>
    refine PE.imp (pe_lc (g := TGR X.K G t) (tt := TTu X.K G n fun k => rT Cl k cs) (te := TEu X.K G n fun k => rE Cl k x) ok.calm hN (ih.i ok hi) (by rw [ok.N, ok.sc]; exact bok) (fun s H Ca cl fp => pg_run (C := C.blk scope) (ok.blk scope s H Ca cl fp).calm (ok.blk scope s H Ca cl fp).N (ok.blk scope s H Ca cl fp).nd (ok.blk scope s H Ca cl fp).sc (ok.blk scope s H Ca cl fp).fn hg)
      (fun s H Ca cl fp => ⟨fun pins s' σ H' Q I ⟨k, hk, q⟩ => ((ihs k (by omega)).ts (ok.blk scope s H Ca cl fp) hts).run pins s' σ H' Q I q⟩)
      (fun s H Ca cl fp => ⟨fun pins s' σ H' Q I ⟨k, hk, q⟩ => ((ihs k (by omega)).e (ok.blk scope s H Ca cl fp) he).run pins s' σ H' Q I q⟩) (folded_ok hset _)) fun σ H Q q => lc_tLc htg q
  | @lc2 _ elt tg iter tg1 iter1 ifs ifs1 scope own own1 x t t1 it it1 cs cs1 pos bok htg htg1 hown hset hset1 hi hg hts hi1 hg1 hts1 he =>
    have hv : ∀ i ∈ own1, i ∈ own.map (·.2) := fun i hi => by
      rw [List.all_eq_true] at hown
      simpa using hown i hi
    refine PE.imp (pe_lc2 (g := TGR X.K G t) (tt := TTu X.K G n fun k => rT Cl k cs) (wi1 := TIu X.K G n fun k => rI Cl k it1) (g1 := TGR X.K G t1) (tt1 := TTu X.K G n fun k => rT Cl k cs1) (te := TEu X.K G n fun k => rE Cl k x) ok.calm hN (ih.i ok hi) (by rw [ok.N, ok.sc]; exact bok) hv
      (fun s H Ca cl fp => pg_run (C := C.blk scope) (ok.blk scope s H Ca cl fp).calm (ok.blk scope s H Ca cl fp).N (ok.blk scope s H Ca cl fp).nd (ok.blk scope s H Ca cl fp).sc (ok.blk scope s H Ca cl fp).fn hg)
      (fun s H Ca cl fp => ⟨fun pins s' σ H' Q I ⟨k, hk, q⟩ => ((ihs k (by omega)).ts (ok.blk scope s H Ca cl fp) hts).run pins s' σ H' Q I q⟩)
      (fun s H Ca cl fp => ⟨fun pins s' σ H' Q I ⟨k, hk, q⟩ => ((ihs k (by omega)).i (ok.blk scope s H Ca cl fp) hi1).run pins s' σ H' Q I q⟩)
      (fun s H Ca cl fp => pg_run (C := C.blk scope) (ok.blk scope s H Ca cl fp).calm (ok.blk scope s H Ca cl fp).N (ok.blk scope s H Ca cl fp).nd (ok.blk scope s H Ca cl fp).sc (ok.blk scope s H Ca cl fp).fn hg1)
      (fun s H Ca cl fp => ⟨fun pins s' σ H' Q I ⟨k, hk, q⟩ => ((ihs k (by omega)).ts (ok.blk scope s H Ca cl fp) hts1).run pins s' σ H' Q I q⟩)
      (fun s H Ca cl fp => ⟨fun pins s' σ H' Q I ⟨k, hk, q⟩ => ((ihs k (by omega)).e (ok.blk scope s H Ca cl fp) he).run pins s' σ H' Q I q⟩) (folded_ok hset _) (fun env => folded_ok hset1 env)) fun σ H Q q => lc2_tLc htg htg1 q
  | @dcS _ kx tg iter scope own k t it pp qq pos2 pos j hb bok htg hset hi hg hk =>
    refine PE.imp (pe_callB (cr_sortedD ok.calm hu65) (ok.gl hb) (ok.blt _ hb.2.1) boot_sorted2 (pa_cons (pe_dg (g := TGR X.K G t) (tt := tYes) (tk := TEu X.K G n fun j => rE Cl j k) (tv := tTrue) (grw X.prog X.w X.K true) (by omega) ok.calm hN (ih.i ok hi) (by rw [ok.N, ok.sc]; exact bok) (fun s H Ca cl fp => pg_run (C := C.blk scope) (ok.blk scope s H Ca cl fp).calm (ok.blk scope s H Ca cl fp).N (ok.blk scope s H Ca cl fp).nd (ok.blk scope s H Ca cl fp).sc (ok.blk scope s H Ca cl fp).fn hg)
      (fun s H Ca cl fp => pts_nil) (fun s H Ca cl fp => ⟨fun pins s' σ H' Q I ⟨j, hj, q⟩ => ((ihs j (by omega)).e (ok.blk scope s H Ca cl fp) hk).run pins s' σ H' Q I q⟩) (fun s H Ca cl fp => pe_bl) (folded_ok hset _)) pa_nil (starEach_ns rfl)) (by decide) (by decide) (starEach_ns rfl) (backTo_ns (es := []) rfl)) fun σ H Q q => dc_tDg htg q
  | @dcL _ kx tg iter scope own k t it pp qq pos2 pos j hb bok htg hset hi hg hk =>
    refine PE.imp (pe_callB (cr_lenD) (ok.gl hb) (ok.blt _ hb.2.1) boot_len2 (pa_cons (pe_dg (g := TGR X.K G t) (tt := tYes) (tk := TEu X.K G n fun j => rE Cl j k) (tv := tTrue) (grw X.prog X.w X.K false) (by omega) ok.calm hN (ih.i ok hi) (by rw [ok.N, ok.sc]; exact bok) (fun s H Ca cl fp => pg_run (C := C.blk scope) (ok.blk scope s H Ca cl fp).calm (ok.blk scope s H Ca cl fp).N (ok.blk scope s H Ca cl fp).nd (ok.blk scope s H Ca cl fp).sc (ok.blk scope s H Ca cl fp).fn hg)
      (fun s H Ca cl fp => pts_nil) (fun s H Ca cl fp => ⟨fun pins s' σ H' Q I ⟨j, hj, q⟩ => ((ihs j (by omega)).e (ok.blk scope s H Ca cl fp) hk).run pins s' σ H' Q I q⟩) (fun s H Ca cl fp => pe_bl) (folded_ok hset _)) pa_nil (starEach_ns rfl)) (by decide) (by decide) (starEach_ns rfl) (backTo_ns (es := []) rfl)) fun σ H Q q => dc_tDg htg q
  | dnew =>
    refine PE.imp pe_dnewT fun σ H Q q => ?_
    obtain ⟨m, v, h, fr, hr, p⟩ := q
    rw [rE] at p
    exact fun a ha => p _ _ _ (.push hr ha) (hr.pushO ha ⟨[], upd_same, .nil⟩) (.obj mpush_self)
  | @att _ o f c i x pos hd hbo ho =>
    refine PE.imp (SlX.pe_sl (ih.e ok ho) (base_ok hbo)) fun σ H Q q => ?_
    obtain ⟨m, v, h, fr, hr, p⟩ := q
    rw [rE] at p
    refine TR.of fr hr p fun m1 H1 w h1 x1 s1 hr1 q1 fr1 p1 => ?_
    obtain ⟨a, C', dx, us, y, ex, hc, sl, e1, q2⟩ := att_post hr1 q1 p1
    obtain ⟨Ca, pa, hc2, sc, s1⟩ := ok.slt _ _ _ hd
    rw [hc] at hc2
    cases hc2
    exact ⟨a, C', dx, pa, us, i, y, ex, sl, sc, s1, e1, q2⟩
  | @prp _ o f c g x pos hd hbo ho =>
    obtain ⟨Ca, pa, fa, hc, sc, pr, F⟩ := ok.prp _ _ _ hd
    refine PE.imp (SlX.pe_propSl (E := E0) (ih.e ok ho) sc pr.at_ pr.get pr.tk pr.rc F.toR ok.room noE0 (base_ok hbo)) fun σ H Q q => ?_
    obtain ⟨m, v, h, fr, hr, p⟩ := q
    rw [rE] at p
    refine TR.of fr hr p fun m1 H1 w h1 x1 s1 hr1 q1 fr1 p1 => ?_
    obtain ⟨hi, p1⟩ := post_if p1
    unfold isIns at hi
    obtain ⟨⟨n1, fs⟩, e⟩ := Option.isSome_iff_exists.mp hi
    obtain ⟨a, C', dx, us, rfl, _, _, hc2, sl, _, _⟩ := ins_of hr1 q1 e
    rw [hc] at hc2
    cases hc2
    exact ⟨a, dx, us, rfl, sl, m1, h1, [w], hr1, .cons q1 .nil, post_mono (fun _ _ z => z) (fun _ _ _ z => z.elim) (noEx_post p1)⟩
  | @mth _ o e es mm c g x xs apos pos hd hbo hln hns hl20 ho hes =>
    obtain ⟨Ca, fa, hc, sc, hm, F⟩ := ok.mth _ _ _ hd
    have hns' := hns
    rw [List.all_cons, Bool.and_eq_true] at hns
    refine PE.imp (SlX.pe_methSl (ih.e ok ho) sc hm.toMeth F.toR (ok.room.mono (Nat.le_succ _)) ok.pass (ih.es ok hes) (starEach_ns hns.1) (backTo_ns hns.2) (meth_eq hbo hln (few_ns hns' hl20))) fun σ H Q q => ?_
    obtain ⟨m, v, h, fr, hr, p⟩ := q
    rw [rE] at p
    refine TR.of fr hr p fun m1 H1 w h1 x1 s1 hr1 q1 fr1 p1 => ?_
    obtain ⟨hi, p1⟩ := post_if p1
    unfold isIns at hi
    obtain ⟨⟨n1, fs⟩, e⟩ := Option.isSome_iff_exists.mp hi
    obtain ⟨a, C', dx, us, rfl, _, _, hc2, sl, _, _⟩ := ins_of hr1 q1 e
    rw [hc] at hc2
    cases hc2
    exact ⟨a, dx, us, rfl, sl, m1, v, h1, fr1, hr1, post_mono (fun ws h2 p2 m2 H2 vs s2 hr2 q2 => ⟨m2, h2, w :: ws, hr2, .cons (hr1.rw s2 q1) q2, later s2 (fun _ _ => OkP.later s2) p2⟩) (fun _ _ _ z => z) (post_bind p1)⟩
  | @mth0 _ o mm c g x apos pos hd hbo hln ho =>
    obtain ⟨Ca, fa, hc, sc, hm, F⟩ := ok.mth _ _ _ hd
    refine PE.imp (SlX.pe_methSl0 (ih.e ok ho) sc hm.toMeth F.toR (ok.room.mono (Nat.le_succ _)) ok.pass (meth_eq hbo hln rfl)) fun σ H Q q => ?_
    obtain ⟨m, v, h, fr, hr, p⟩ := q
    rw [rE] at p
    refine TR.of fr hr p fun m1 H1 w h1 x1 s1 hr1 q1 fr1 p1 => ?_
    obtain ⟨hi, p1⟩ := post_if p1
    unfold isIns at hi
    obtain ⟨⟨n1, fs⟩, e⟩ := Option.isSome_iff_exists.mp hi
    obtain ⟨a, C', dx, us, rfl, _, _, hc2, sl, _, _⟩ := ins_of hr1 q1 e
    rw [hc] at hc2
    cases hc2
    refine ⟨a, dx, us, rfl, sl, m1, h1, [w], hr1, .cons q1 .nil, ?_⟩
    cases n with
    | zero => rw [rEs] at p1; exact p1.elim
    | succ n => rw [rEs] at p1; exact p1
  | @sm _ mm o e x y apos pos hbo hln hns ho he =>
    have hv : PE X e (fun σ H Q => ∃ k, k < n ∧ TR X.K G E (rE Cl k y) σ H Q) := ⟨fun pins s' σ H' Q I ⟨k, hk, q⟩ => ((ihs k (by omega)).e ok he).run pins s' σ H' Q I q⟩
    refine PE.imp (pe_m1 (sm_slot mm) (sm_type mm) (sm_ok (G := G) (E := E) mm) (ih.e ok ho) hv (starEach_ns hns) (base_ok hbo) hln) fun σ H Q q => ?_
    obtain ⟨m, v, h, fr, hr, p⟩ := q
    rw [rE] at p
    refine TR.of fr hr p fun m1 H1 w h1 x1 s1 hr1 q1 fr1 p1 => ?_
    obtain ⟨hi, p1⟩ := post_if p1
    refine ⟨isS_of q1 hi, ?_⟩
    match n, p1 with
    | 0, p1 => rw [rEs] at p1; exact p1.elim
    | 1, p1 => rw [rEs, rE] at p1; exact p1.elim
    | n + 2, p1 =>
      rw [rEs] at p1
      refine ⟨n + 1, Nat.lt_succ_self _, m1, v, h1, fr1, hr1, post_mono (fun w2 h2 p2 m2 H2 v2 s2 hr2 q2 => ?_) (fun _ _ _ z => z) (post_bind (post_bind p1))⟩
      simp only [rEs, R.bind] at p2
      exact ⟨m2, h2, w, [w2], hr2, hr1.rw s2 q1, .cons q2 .nil, later s2 (fun _ _ => OkP.later s2) p2⟩
  | @fst _ e1 e2 es xs pos hps hl =>
    obtain ⟨ts, pj, hj⟩ := parts_run (n := n) (fun k hk => ihs k (by omega)) ok hps
    refine PE.imp (pe_joined pj) fun σ H Q q => ?_
    obtain ⟨m, v, h, fr, hr, p⟩ := q
    rw [rE] at p
    refine hj n (Nat.le_refl _) Str.empty σ H _ m v h (by simp only [List.length_cons, sizeLine_eq]; show 0 + _ ≤ _; omega) fr hr (post_mono (fun ws h1 p1 => ?_) (fun _ _ _ z => z) (post_bind p))
    unfold fstW at p1
    unfold partsFin
    revert p1
    cases strsOf ws with
    | none => exact fun z => z.elim
    | some ys => exact fun p1 m1 H1 s1 hr1 => p1 _ _ _ s1 hr1 (.str _)
  | @icall _ fn e es c g x xs pos hd hn hns ho hes =>
    obtain ⟨Ca, fa, hc, sc, hm, F⟩ := ok.mth _ _ _ hd
    rw [List.all_cons, Bool.and_eq_true] at hns
    refine PE.imp (pe_icall hn (ih.e ok ho) hm.toMeth hm.fnI F.toR (ok.room.mono (Nat.le_succ _)) ok.pass (ih.es ok hes) (starEach_ns hns.1) (backTo_ns hns.2)) fun σ H Q q => ?_
    obtain ⟨m, v, h, fr, hr, p⟩ := q
    rw [rE] at p
    refine TR.of fr hr p fun m1 H1 w h1 x1 s1 hr1 q1 fr1 p1 => ?_
    obtain ⟨hi, p1⟩ := post_if p1
    unfold isIns at hi
    obtain ⟨⟨n1, fs⟩, e⟩ := Option.isSome_iff_exists.mp hi
    obtain ⟨a, C', dx, us, rfl, hma, hg, hc2, sl, _, _⟩ := ins_of hr1 q1 e
    rw [hc] at hc2
    cases hc2
    refine ⟨a, rfl, m1, v, h1, fr1, hr1, post_mono (fun ws h2 p2 m2 H2 vs s2 hr2 q2 => ?_) (fun _ _ _ z => z) (post_bind p1)⟩
    obtain ⟨hi2, p2⟩ := post_if p2
    unfold isIns at hi2
    obtain ⟨⟨n2, fs2⟩, e2⟩ := Option.isSome_iff_exists.mp hi2
    obtain ⟨a2, C2, dx2, us2, ea, _, _, hc3, sl2, _, _⟩ := ins_of hr2 (hr1.rw s2 q1) e2
    rw [hc] at hc3
    cases hc3
    cases ea
    exact ⟨⟨dx2, us2, sl2⟩, m2, h2, w :: ws, hr2, .cons (hr1.rw s2 q1) q2, later s2 (fun _ _ => OkP.later s2) p2⟩
  | @mthK _ o e mm kk c g w0 x y apos kpos pos hd hbo hln ho he =>
    obtain ⟨Ca, fa, dv, hc, sc, hm, hdv, F⟩ := ok.mtk _ _ _ _ _ hd
    have hv : PE X e (fun σ H Q => ∃ k, k < n ∧ TR X.K G E (rE Cl k y) σ H Q) := ⟨fun pins s' σ H' Q I ⟨k, hk, q⟩ => ((ihs k (by omega)).e ok he).run pins s' σ H' Q I q⟩
    refine PE.imp (pe_methK (ih.e ok ho) hv sc hm F (ok.room.mono (Nat.le_succ _)) ok.pass hbo hln) fun σ H Q q => ?_
    obtain ⟨m, v, h, fr, hr, p⟩ := q
    rw [rE] at p
    refine TR.of fr hr p fun m1 H1 w h1 x1 s1 hr1 q1 fr1 p1 => ?_
    obtain ⟨hi, p1⟩ := post_if p1
    unfold isIns at hi
    obtain ⟨⟨n1, fs⟩, e⟩ := Option.isSome_iff_exists.mp hi
    obtain ⟨a, C', dx, us, rfl, _, _, hc2, sl, _, _⟩ := ins_of hr1 q1 e
    rw [hc] at hc2
    cases hc2
    refine ⟨a, dx, us, rfl, sl, ?_⟩
    match n, p1 with
    | 0, p1 => rw [rEs] at p1; exact p1.elim
    | 1, p1 => rw [rEs, rE] at p1; exact p1.elim
    | n + 2, p1 =>
      rw [rEs] at p1
      refine ⟨n + 1, Nat.lt_succ_self _, m1, v, h1, fr1, hr1, post_mono (fun w2 h2 p2 m2 H2 v2 s2 hr2 q2 => ?_) (fun _ _ _ z => z) (post_bind (post_bind p1))⟩
      simp only [rEs, R.bind] at p2
      exact ⟨_, _, rfl, m2, h2, [w, w2], hr2, .cons (hr1.rw s2 q1) (.cons q2 .nil), later s2 (fun _ _ => OkP.later s2) p2⟩
  | @mthK0 _ o mm kk c g w0 x apos pos hd hbo hln ho =>
    obtain ⟨Ca, fa, dv, hc, sc, hm, hdv, F⟩ := ok.mtk _ _ _ _ _ hd
    refine PE.imp (pe_methK0 (ih.e ok ho) sc hm F (ok.room.mono (Nat.le_succ _)) ok.pass hbo hln) fun σ H Q q => ?_
    obtain ⟨m, v, h, fr, hr, p⟩ := q
    rw [rE] at p
    refine TR.of fr hr p fun m1 H1 w h1 x1 s1 hr1 q1 fr1 p1 => ?_
    obtain ⟨hi, p1⟩ := post_if p1
    unfold isIns at hi
    obtain ⟨⟨n1, fs⟩, e⟩ := Option.isSome_iff_exists.mp hi
    obtain ⟨a, C', dx, us, rfl, _, _, hc2, sl, _, _⟩ := ins_of hr1 q1 e
    rw [hc] at hc2
    cases hc2
    refine ⟨a, dx, us, rfl, sl, _, rfl, m1, h1, [w, w0], hr1, .cons q1 (.cons (hdv _ _) .nil), ?_⟩
    match n, p1 with
    | 0, p1 => rw [rEs] at p1; exact p1.elim
    | 1, p1 => rw [rEs, rE] at p1; exact p1.elim
    | n + 2, p1 => simp only [rEs, rE, R.bind] at p1; exact p1
  | @mk _ x c f e es xs pp pos hg hns hes =>
    obtain ⟨Ca, fa, hc, hm, M, F⟩ := ok.icl _ _ _ hg.2.1
    rw [List.all_cons, Bool.and_eq_true] at hns
    refine PE.imp (StX.pe_makeR M F.toR ok.room (ok.gl hg) hm ok.pass (ih.es ok hes) (okNm_d hg.2.2) (starEach_ns hns.1) (backTo_ns hns.2)) fun σ H Q q => ?_
    obtain ⟨m, v, h, fr, hr, p⟩ := q
    rw [rE] at p
    refine ⟨m, v, h, fr, hr, post_mono (fun ws h1 p1 m1 H1 vs s1 hr1 q1 => ?_) (fun _ _ _ z => z) (post_bind p)⟩
    intro x1 dx n1 n2 nd
    obtain ⟨s2, hr2⟩ := ins_new hr1 hc n1 n2 nd
    refine ⟨_, _, .obj h1.n :: ws, hr2, .cons (.obj mpush_self) (hr1.rws s2 q1), post_mono (fun r h3 p3 m3 H3 y s3 hr3 q3 => ?_) (fun _ _ _ z => z) (later (s1.trans s2) (fun _ _ z => z) (post_bind p1))⟩
    cases q3 with
    | non => exact ⟨rfl, OkP.later (s1.trans (s2.trans s3)) p3 _ _ _ .refl hr3 (.obj (s3.le _ _ mpush_self))⟩
    | _ => exact (show False from p3).elim
  | metD hx hl ho he =>
    refine PE.imp (ok.metD _ hx _ _ _ _ _ _ _ _ _ _ _ _ _ hl ho he) fun σ H Q q => ?_
    obtain ⟨m, v, h, fr, hr, p⟩ := q
    rw [rE] at p
    exact ⟨m, v, h, fr, hr, p⟩
  | join he =>
    refine PE.imp (ih.e ok he) fun σ H Q q => ?_
    obtain ⟨m, v, h, fr, hr, p⟩ := q
    rw [rE] at p
    refine ⟨m, v, h, fr, hr, ?_⟩
    split at p
    · rename_i w k e
      exact joinR_post (show OkP X.K G m H Q w k from p) e
    · exact p.elim
  | fork he =>
    refine PE.imp (ih.e ok he) fun σ H Q q => ?_
    obtain ⟨m, v, h, fr, hr, p⟩ := q
    rw [rE] at p
    exact fork_e ⟨m, v, h, fr, hr, p⟩
  | met hx hl he =>
    refine PE.imp (ok.met _ hx _ _ _ _ _ _ hl he) fun σ H Q q => ?_
    obtain ⟨m, v, h, fr, hr, p⟩ := q
    rw [rE] at p
    exact ⟨m, v, h, fr, hr, p⟩

-- GsEv13
theorem bool_run {f : Bool → Hs → R W} {r : Env → Hs → R W} {m : Mp} {v : Env} {h : Hs} {σ : L2.St} {H : Hp} {Qv : VK} {Q : Bool → Hp → Prop} (fr : FR X.K m H v σ) (hr : HR X.K G m h H) (p : ((r v h).bind fun w h => (asB w h).bind f).post (OkP X.K G m H Qv) (ExP X.K G E m H))
    (k : ∀ m1 H1 b h1, Stp m H m1 H1 → HR X.K G m1 h1 H1 → FR X.K m1 H1 v σ → (f b h1).post (OkP X.K G m1 H1 Qv) (ExP X.K G E m1 H1) → Q b H1) : tB (TR X.K G E r) σ H Q :=
  TR.of (f := fun w h => (asB w h).bind f) fr hr p fun m1 H1 w h1 x1 s1 hr1 q1 fr1 p1 => by
    obtain ⟨b, rfl, rfl, p1⟩ := asB_run q1 p1
    exact ⟨b, rfl, k m1 H1 b h1 s1 hr1 fr1 p1⟩
theorem t_step (ihs : ∀ k, k < n + 1 → SndE P G Cl k) (ok : XOk P G Cl j C E X) {e : Expr} {x : Ex} (ht : testOk e = true) (h : CE P C e x) : PT X e (tB (TR X.K G E (rE Cl (n + 1) x))) ∧ ∀ op vs pos, e = .BoolOp op vs pos → PW X e (tB (TR X.K G E (rE Cl (n + 1) x))) := by
  have ih := ihs n (Nat.lt_succ_self n)
  have hu65 : X.A.units + 65 < cLine := by have := ok.room.un; omega
  have pe := e_step ihs ok h
  have fall : (∀ x p, e ≠ .UnaryOp .Not x p) → (∀ o vs p, e ≠ .BoolOp o vs p) → (∀ a o c p, e ≠ .Compare a o c p) → PT X e (tB (TR X.K G E (rE Cl (n + 1) x))) ∧ ∀ op vs pos, e = .BoolOp op vs pos → PW X e (tB (TR X.K G E (rE Cl (n + 1) x))) := fun h2 h3 h4 =>
    ⟨pt_val pe (isTrue_val ht h2 h3 h4), fun op vs pos z => absurd z (h3 op vs pos)⟩
  cases h with
  | nt hto ha =>
    refine ⟨PT.imp (pt_not (ih.t ok hto ha)) fun σ H Q q => ?_, fun op vs pos z => by cases z⟩
    obtain ⟨m, v, h, fr, hr, p⟩ := q
    rw [rE] at p
    refine bool_run fr hr p fun m1 H1 b h1 s1 hr1 fr1 p1 => ?_
    obtain ⟨c, e, q⟩ := ok_val hr1 (.bl _) p1
    cases e
    exact q
  | cmp hb2 ha hb =>
    refine ⟨PT.imp (pt_cmpR (cmpX_ok (G := G) (E := E) hu65 _) (ih.e ok ha) (ih.e ok hb) (mark_ok hb2)) fun σ H Q q => ?_, fun op vs pos z => by cases z⟩
    obtain ⟨m, v, h, fr, hr, p⟩ := q
    rw [rE] at p
    refine TR.of fr hr p fun m1 H1 w h1 x1 s1 hr1 q1 fr1 p1 => ?_
    exact TR.of fr1 hr1 p1 fun m2 H2 w2 h2 x2 s2 hr2 q2 fr2 p2 => ⟨m2, h2, w, w2, hr2, hr1.rw s2 q1, q2, p2⟩
  | cmp2 hb2 ha hb hc =>
    refine ⟨PT.imp (pt_chain (cmpX_ok (G := G) (E := E) hu65 _) (cmpX_ok (G := G) (E := E) hu65 _) (ih.e ok ha) (ih.e ok hb) (ih.e ok hc) (show behindInMarks _ _ = false from mark_ok hb2)) fun σ H Q q => ?_, fun op vs pos z => by cases z⟩
    obtain ⟨m, v, h, fr, hr, p⟩ := q
    rw [rE] at p
    exact chain_run fr hr p
  | @and2 _ a b x y pos h1 h2 ha hb =>
    have pw := pw_and (ih.t ok h1 ha) (pw_and1 (pos := pos) (ih.t ok h2 hb))
    have imp : ∀ σ H Q, tB (TR X.K G E (rE Cl (n + 1) (.and x y))) σ H Q → tAnd (tB (TR X.K G E (rE Cl n x))) (tB (TR X.K G E (rE Cl n y))) σ H Q := fun σ H Q q => by
      obtain ⟨m, v, h, fr, hr, p⟩ := q
      rw [rE] at p
      refine bool_run fr hr p fun m1 H1 b h1 s1 hr1 fr1 p1 => ?_
      cases b with
      | true => exact ⟨m1, v, h1, fr1, hr1, p1⟩
      | false =>
        obtain ⟨c, e, q⟩ := ok_val hr1 (.bl _) p1
        cases e
        exact q
    exact ⟨PT.imp pw.pt imp, fun _ _ _ _ => PW.imp pw imp⟩
  | @andN _ a b c r x y pos h1 ha hb =>
    have pw := pw_and (ih.t ok h1 ha) (ih.w ok hb)
    have imp : ∀ σ H Q, tB (TR X.K G E (rE Cl (n + 1) (.and x y))) σ H Q → tAnd (tB (TR X.K G E (rE Cl n x))) (tB (TR X.K G E (rE Cl n y))) σ H Q := fun σ H Q q => by
      obtain ⟨m, v, h, fr, hr, p⟩ := q
      rw [rE] at p
      refine bool_run fr hr p fun m1 H1 b h1 s1 hr1 fr1 p1 => ?_
      cases b with
      | true => exact ⟨m1, v, h1, fr1, hr1, p1⟩
      | false =>
        obtain ⟨c, e, q⟩ := ok_val hr1 (.bl _) p1
        cases e
        exact q
    exact ⟨PT.imp pw.pt imp, fun _ _ _ _ => PW.imp pw imp⟩
  | @or2 _ a b x y pos h1 h2 ha hb =>
    have pw := pw_or (ih.t ok h1 ha) (pw_or1 (pos := pos) (ih.t ok h2 hb))
    have imp : ∀ σ H Q, tB (TR X.K G E (rE Cl (n + 1) (.or x y))) σ H Q → tOr (tB (TR X.K G E (rE Cl n x))) (tB (TR X.K G E (rE Cl n y))) σ H Q := fun σ H Q q => by
      obtain ⟨m, v, h, fr, hr, p⟩ := q
      rw [rE] at p
      refine bool_run fr hr p fun m1 H1 b h1 s1 hr1 fr1 p1 => ?_
      cases b with
      | false => exact ⟨m1, v, h1, fr1, hr1, p1⟩
      | true =>
        obtain ⟨c, e, q⟩ := ok_val hr1 (.bl _) p1
        cases e
        exact q
    exact ⟨PT.imp pw.pt imp, fun _ _ _ _ => PW.imp pw imp⟩
  | @orN _ a b c r x y pos h1 ha hb =>
    have pw := pw_or (ih.t ok h1 ha) (ih.w ok hb)
    have imp : ∀ σ H Q, tB (TR X.K G E (rE Cl (n + 1) (.or x y))) σ H Q → tOr (tB (TR X.K G E (rE Cl n x))) (tB (TR X.K G E (rE Cl n y))) σ H Q := fun σ H Q q => by
      obtain ⟨m, v, h, fr, hr, p⟩ := q
      rw [rE] at p
      refine bool_run fr hr p fun m1 H1 b h1 s1 hr1 fr1 p1 => ?_
      cases b with
      | false => exact ⟨m1, v, h1, fr1, hr1, p1⟩
      | true =>
        obtain ⟨c, e, q⟩ := ok_val hr1 (.bl _) p1
        cases e
        exact q
    exact ⟨PT.imp pw.pt imp, fun _ _ _ _ => PW.imp pw imp⟩
  | ite => cases ht
  | @join _ _ x he =>
    have imp : ∀ σ H Q, tB (TR X.K G E (rE Cl (n + 1) (.join x))) σ H Q → tB (TR X.K G E (rE Cl n x)) σ H Q := fun σ H Q q => by
      obtain ⟨m, v, h, fr, hr, p⟩ := q
      rw [rE] at p
      refine ⟨m, v, h, fr, hr, ?_⟩
      split at p
      · rename_i w k e
        exact joinR_post (show OkP X.K G m H _ w k from p) e
      · exact p.elim
    exact ⟨PT.imp (ih.t ok ht he) imp, fun op vs pos z => by subst z; exact PW.imp (ih.w ok he) imp⟩
  | @fork _ _ x is he =>
    have imp : ∀ σ H Q, tB (TR X.K G E (rE Cl (n + 1) (.fork is x))) σ H Q → tB (TR X.K G E (rE Cl n x)) σ H Q := fun σ H Q q => by
      obtain ⟨m, v, h, fr, hr, p⟩ := q
      rw [rE] at p
      exact fork_e ⟨m, v, h, fr, hr, p⟩
    exact ⟨PT.imp (ih.t ok ht he) imp, fun op vs pos z => by subst z; exact PW.imp (ih.w ok he) imp⟩
  | _ => exact fall (by intros; intro z; cases z) (by intros; intro z; cases z) (by intros; intro z; cases z)
end
theorem sndE (P : Pg) (G : Gl0) (Cl : Cl) : ∀ n, ∀ k, k < n → SndE P G Cl k
  | 0, k, h => absurd h (Nat.not_lt_zero k)
  | n + 1, k, h => by
    have ihs := sndE P G Cl n
    rcases Nat.lt_succ_iff_lt_or_eq.mp h with h | h
    · exact ihs k h
    · subst h
      cases k with
      | zero => exact sndE0
      | succ k =>
        have ih := ihs k (Nat.lt_succ_self k)
        exact ⟨fun ok _ _ h => e_step ihs ok h, fun ok _ _ ht h => (t_step ihs ok ht h).1, fun ok _ _ _ _ h => (t_step ihs ok rfl h).2 _ _ _ rfl,
          fun ok _ _ h => es_step ih ok h, fun ok _ _ h => o_step ih ok h, fun ok _ _ _ h => i_step ih ok h, fun ok _ _ h => ts_step ih ok h⟩
theorem snd_e (P : Pg) (G : Gl0) (Cl : Cl) (n : Nat) : SndE P G Cl n := sndE P G Cl (n + 1) n (Nat.lt_succ_self n)
end GS
-- GsEv14
namespace GS
open PySem PySem.Spec PyProof.Rows L2
theorem star_cases {a : Expr} {α : Prop} (hn : noStar a = true) (h : (match (generalizing := false) a with | .Starred _ _ => true | _ => false) = true) : α := by
  cases a <;> first
    | (cases hn; done)
    | cases h
theorem swap2 {env : PySem.Env} {x y : Str} {px py pt pt2 : Pos} {kt k2 : Nat} {a b : Expr} (hk : env.scope.kind = .function) (hx : env.scope.names.lookup x = some .local) (hy : env.scope.names.lookup y = some .local) (hl : (py.line == px.line) = true) (hne : ([x, y].eraseDups.length == 2) = true) (hns : [a, b].all noStar = true)
    (hf : [a, b].all (foldedForSure 8) = false) (hc : [a, b].all (constantsAlone 8) = false) : swappedStores [.Tuple [.Name x px, .Name y py] kt pt] (.Tuple [a, b] k2 pt2) env = pure (some [x, y]) := by
  have hb : env.blockKind = .function := by unfold Env.blockKind; rw [hk]; rfl
  have kx : env.kindOf x = some .local := hx
  have ky : env.kindOf y = some .local := hy
  have hne' : ([x, y].eraseDups.length != 2) = false := by simpa using hne
  unfold swappedStores
  simp only [hb, kx, ky, hf, hc, List.filterMap_cons, List.filterMap_nil, hl, List.head?_cons, Option.map_some, Expr.pos, Option.getD_some]
  simp only [beq_self_eq_true, Bool.and_self, if_true, hl, Bool.and_true, List.length_cons, List.length_nil, Nat.zero_add, Nat.reduceAdd]
  simp [hne']
  simp only [List.all_cons, List.all_nil, Bool.and_true, Bool.and_eq_true] at hns
  intro h
  rcases h with h | h
  · exact star_cases hns.1 h
  · exact star_cases hns.2 h
theorem swap3 {env : PySem.Env} {x y z : Str} {px py pz pt pt2 : Pos} {kt k2 : Nat} {a b c : Expr} (hk : env.scope.kind = .function) (hx : env.scope.names.lookup x = some .local) (hy : env.scope.names.lookup y = some .local) (hz : env.scope.names.lookup z = some .local) (hl : (py.line == px.line) = true) (hl2 : (pz.line == px.line) = true)
    (hne : ([x, y, z].eraseDups.length == 3) = true) (hns : [a, b, c].all noStar = true) (hf : [a, b, c].all (foldedForSure 8) = false) (hc : [a, b, c].all (constantsAlone 8) = false) :
    swappedStores [.Tuple [.Name x px, .Name y py, .Name z pz] kt pt] (.Tuple [a, b, c] k2 pt2) env = pure (some [x, y, z]) := by
  have hb : env.blockKind = .function := by unfold Env.blockKind; rw [hk]; rfl
  have kx : env.kindOf x = some .local := hx
  have ky : env.kindOf y = some .local := hy
  have kz : env.kindOf z = some .local := hz
  have hne' : ([x, y, z].eraseDups.length != 3) = false := by simpa using hne
  unfold swappedStores
  simp only [hb, kx, ky, kz, hf, hc, List.filterMap_cons, List.filterMap_nil, hl, hl2, List.head?_cons, Option.map_some, Expr.pos, Option.getD_some]
  simp only [beq_self_eq_true, Bool.and_self, if_true, hl, hl2, Bool.and_true, List.length_cons, List.length_nil, Nat.zero_add, Nat.reduceAdd]
  simp [hne']
  simp only [List.all_cons, List.all_nil, Bool.and_true, Bool.and_eq_true] at hns
  intro h
  rcases h with h | h | h
  · exact star_cases hns.1 h
  · exact star_cases hns.2.1 h
  · exact star_cases hns.2.2 h
theorem swaps_cell {e : Expr} {x : Str} {p : Pos} {l : Nat} {env : PySem.Env} (h : env.scope.names.lookup x = some .cell) : swapsWith e (some (.Name x p)) l env = pure false := by
  have hk : env.kindOf x = some .cell := h
  cases e <;> first
    | rfl
    | (unfold swapsWith
       simp only [hk]
       have : ((some NameKind.cell : Option NameKind) == some NameKind.local) = false := rfl
       simp [this])
theorem swaps_tup {e : Expr} {es : List Expr} {k l : Nat} {p : Pos} {env : PySem.Env} : swapsWith e (some (.Tuple es k p)) l env = pure false := by cases e <;> rfl
theorem swaps_sub {e o i : Expr} {l : Nat} {p : Pos} {env : PySem.Env} : swapsWith e (some (.Subscript o i p)) l env = pure false := by cases e <;> rfl
theorem stores_tup {e : Expr} {es : List Expr} {k : Nat} {p : Pos} {env : PySem.Env} (h : isTuple e = false) : swappedStores [.Tuple es k p] e env = pure none := by
  cases e <;> first
    | rfl
    | cases h
theorem stores_sub {e o i : Expr} {p : Pos} {env : PySem.Env} : swappedStores [.Subscript o i p] e env = pure none := by
  cases e <;> rfl
theorem stores_long {e : Expr} {es : List Expr} {k : Nat} {p : Pos} {env : PySem.Env} (h : 3 < es.length) : swappedStores [.Tuple es k p] e env = pure none := by
  cases e with
  | Tuple vs k2 p2 =>
    unfold swappedStores
    have h1 : (es.length == 2) = false := by simp; omega
    have h2 : (es.length == 3) = false := by simp; omega
    simp [h1, h2]
  | _ => rfl

/-- a name that is no local -/
def notLcl (sc : Scope) : Expr → Bool
  | .Name x _ => !decide (sc.names.lookup x = some .local)
  | _ => false
theorem filterMap_lt {α β : Type} {f : α → Option β} : ∀ {l : List α}, (∃ a ∈ l, f a = none) → (l.filterMap f).length < l.length
  | [], h => by obtain ⟨_, h, _⟩ := h; cases h
  | a :: l, h => by
    obtain ⟨b, hb, e⟩ := h
    have le : (l.filterMap f).length ≤ l.length := List.length_filterMap_le f l
    cases q : f a with
    | none =>
      rw [List.filterMap_cons_none q, List.length_cons]
      omega
    | some c =>
      rw [List.filterMap_cons_some q, List.length_cons, List.length_cons]
      rcases List.mem_cons.mp hb with rfl | hb
      · rw [q] at e; cases e
      · have := filterMap_lt (l := l) ⟨b, hb, e⟩
        omega
theorem stores_cell {e : Expr} {es : List Expr} {k : Nat} {p : Pos} {env : PySem.Env} (h : es.any (notLcl env.scope) = true) : swappedStores [.Tuple es k p] e env = pure none := by
  cases e with
  | Tuple vs k2 p2 =>
    unfold swappedStores
    dsimp only
    split
    · rfl
    · split
      · rfl
      · split
        · rfl
        · rename_i h3
          refine absurd ?_ h3
          rw [Bool.or_eq_true]
          left
          rw [List.any_eq_true] at h
          obtain ⟨a, ha, hn⟩ := h
          refine bne_iff_ne.mpr (Nat.ne_of_lt (filterMap_lt ⟨a, ha, ?_⟩))
          cases a with
          | Name x q =>
            have hn : (!decide (env.scope.names.lookup x = some .local)) = true := hn
            have hk : (env.kindOf x == some .local) = false := by
              rw [beq_eq_false_iff_ne]
              intro z
              have z : env.scope.names.lookup x = some .local := z
              rw [z] at hn
              simp at hn
            simp [hk]
          | _ => cases hn
  | _ => rfl
def isFork : Ex → Bool
  | .fork _ _ => true
  | .join _ => true
  | _ => false
inductive CA (P : Pg) : Cc → Expr → At → Prop
  | nm {C : Cc} {e : Expr} {i : Nat} : CG1 C e i → CA P C e (.nm i)
  | ix {C : Cc} {o i : Expr} {x y : Ex} {pos : Pos} : plainIx i = true → CE P C o x → CE P C i y → CA P C (.Subscript o i pos) (.ix x y)
inductive CAs (P : Pg) : Cc → List Expr → List At → Prop
  | nil {C : Cc} : CAs P C [] []
  | cons {C : Cc} {e : Expr} {a : At} {es : List Expr} {as : List At} : CA P C e a → CAs P C es as → CAs P C (e :: es) (a :: as)
def Lcl (C : Cc) (x : Str) (i : Nat) : Prop := C.N[i]? = some x ∧ C.sc.names.lookup x = some .local
mutual
inductive CS (P : Pg) : Cc → Stmt → St → Prop
  | set {C : Cc} {x : Str} {e : Expr} {i : Nat} {y : Ex} {p pos : Pos} : CG1 C (.Name x p) i → (isComp e = false ∨ C.sc.names.lookup x = some .cell) → CE P C e y → CS P C (.Assign [.Name x p] e pos) (.set i y)
  | setLc {C : Cc} {x : Str} {elt : Expr} {gs : List Comprehension} {scope : Scope} {i : Nat} {y : Ex} {p p2 pos : Pos} : Lcl C x i → (p.line == p2.line) = true → (scope.names.any fun (n, k) => n == x && (k == .local || k == .cell)) = false → isFork y = false → CE P C (.ListComp elt gs scope p2) y → CS P C (.Assign [.Name x p] (.ListComp elt gs scope p2) pos) (.set i y)
  | setT {C : Cc} {es : List Expr} {e : Expr} {is : List Nat} {y : Ex} {k : Nat} {p pos : Pos} : CGs C es is → (isTuple e = false ∨ 3 < es.length ∨ es.any (notLcl C.sc) = true) → CE P C e y → CS P C (.Assign [.Tuple es k p] e pos) (.setT is y)
  | par2 {C : Cc} {x y : Str} {i j : Nat} {a b : Expr} {xs : Exs} {px py pt pt2 pos : Pos} {kt k2 : Nat} : Lcl C x i → Lcl C y j → i ≠ j → (py.line == px.line) = true → ([x, y].eraseDups.length == 2) = true → [a, b].all noStar = true → [a, b].all (foldedForSure 8) = false → [a, b].all (constantsAlone 8) = false →
      CEs P C [a, b] xs → CS P C (.Assign [.Tuple [.Name x px, .Name y py] kt pt] (.Tuple [a, b] k2 pt2) pos) (.par [i, j] xs)
  | par3 {C : Cc} {x y z : Str} {i j l : Nat} {a b c : Expr} {xs : Exs} {px py pz pt pt2 pos : Pos} {kt k2 : Nat} : Lcl C x i → Lcl C y j → Lcl C z l → i ≠ j → i ≠ l → j ≠ l → (py.line == px.line) = true → (pz.line == px.line) = true → ([x, y, z].eraseDups.length == 3) = true → [a, b, c].all noStar = true →
      [a, b, c].all (foldedForSure 8) = false → [a, b, c].all (constantsAlone 8) = false → CEs P C [a, b, c] xs → CS P C (.Assign [.Tuple [.Name x px, .Name y py, .Name z pz] kt pt] (.Tuple [a, b, c] k2 pt2) pos) (.par [i, j, l] xs)
  | asg {C : Cc} {es : List Expr} {e : Expr} {as : List At} {y : Ex} {k : Nat} {p pos : Pos} : CAs P C es as → isTuple e = false → CE P C e y → CS P C (.Assign [.Tuple es k p] e pos) (.asg as y)
  | setIx {C : Cc} {o i e : Expr} {x y z : Ex} {p pos : Pos} : plainIx i = true → CE P C o x → CE P C i y → CE P C e z → CS P C (.Assign [.Subscript o i p] e pos) (.setIx x y z)
  | setA {C : Cc} {o e : Expr} {f : Str} {c i : Nat} {x y : Ex} {p pos : Pos} : AtD C f (.slt c i) → isComp e = false → CE P C o x → CE P C e y → CS P C (.Assign [.Attribute o f p] e pos) (.setA c i x y)
  | setDx {C : Cc} {o i e : Expr} {x y z : Ex} {p pos : Pos} : plainIx i = true → CE P C o x → CE P C i y → CE P C e z → CS P C (.Assign [.Subscript o i p] e pos) (.setDx x y z)
  | aug {C : Cc} {x : Str} {e : Expr} {i : Nat} {y : Ex} {o : BOp} {p pos : Pos} : CG1 C (.Name x p) i → CE P C e y → CS P C (.AugAssign (.Name x p) o.op e pos) (.aug o i y)
  | drop {C : Cc} {e : Expr} {x : Ex} {pos : Pos} : isComp e = false → CE P C e x → CS P C (.Expr e pos) (.drop x)
  | ret {C : Cc} {e : Expr} {x : Ex} {pos : Pos} : CE P C e x → CS P C (.Return (some e) pos) (.ret x)
  | retN {C : Cc} {pos : Pos} : CS P C (.Return none pos) .retN
  | pass {C : Cc} {pos : Pos} : CS P C (.Pass pos) .pass
  | brk {C : Cc} {pos : Pos} : CS P C (.Break pos) .brk
  | cnt {C : Cc} {pos : Pos} : CS P C (.Continue pos) .cnt
  | ifS {C : Cc} {c : Expr} {a b : List Stmt} {x : Ex} {y z : Sts} {pos : Pos} : testOk c = true → CE P C c x → CSs P C a y → CSs P C b z → CS P C (.If c a b pos) (.ifS x y z)
  | whl {C : Cc} {c : Expr} {b : List Stmt} {x : Ex} {y : Sts} {pos : Pos} : testOk c = true → CE P C c x → CSs P C b y → CS P C (.While c b [] pos) (.whl x y)
  | for {C : Cc} {tg e : Expr} {b : List Stmt} {t : Tg} {it : It} {y : Sts} {pos : Pos} : isSet e = false → CI P C tg e it → CG C tg t → CSs P C b y → CS P C (.For tg e b [] pos) (.for t it y)
  | rse {C : Cc} {x : Str} {c : Nat} {e : Expr} {y : Ex} {p pos rpos : Pos} : GlD C x (.cls c) → noStar e = true → CE P C e y → CS P C (.Raise (some (.Call (.Name x p) [e] [] pos)) none rpos) (.rse c y)
  | tryN {C : Cc} {body : List Stmt} {h0 : ExceptHandler} {hs : List ExceptHandler} {b : Sts} {pos : Pos} : C.met = none → CSs P C body b → CS P C (.Try body (h0 :: hs) [] [] pos) (.tryN b)
  | rseT {C : Cc} {x : Str} {c : Nat} {m : Str} {k : Nat} {p p2 pos rpos : Pos} : GlD C x (.clsT c) → CS P C (.Raise (some (.Call (.Name x p) [.Constant (.str m) k p2] [] pos)) none rpos) (.rse c (.cst (.str m)))
inductive CSs (P : Pg) : Cc → List Stmt → Sts → Prop
  | nil {C : Cc} : CSs P C [] .nil
  | cons {C : Cc} {s : Stmt} {ss : List Stmt} {x : St} {xs : Sts} : CS P C s x → CSs P C ss xs → CSs P C (s :: ss) (.cons x xs)
  | fork {C : Cc} {ss ss2 : List Stmt} {x xs : Sts} {is own : List Nat} : CSs P C ss x → CSs P C ss2 xs → CSs P C (ss ++ ss2) (.fork is own x xs)
end
end GS
-- GsEv15
namespace GS
open PySem PySem.Spec PyProof.Rows L2
def TSu (K : PySem.W.Frag) (G : Gl0) (E : XK) (N : Nat) (r : Nat → Env → Hs → R Fl) : TS := fun D σ H => ∃ k, k < N ∧ TRS K G E (r k) D σ H
def TBu (K : PySem.W.Frag) (G : Gl0) (E : XK) (N : Nat) (r : Nat → Env → Hs → R W) : TT := fun σ H Q => ∃ k, k < N ∧ tB (TR K G E (r k)) σ H Q
/-- raise C(e) -/
def tRse (K : PySem.W.Frag) (G : Gl0) (E : XK) (c : Nat) (te : TE) : TS := fun D σ H => te σ H fun v H1 => match G.cls c with
  | some (C, none) => E (.ref C) none H1
  | some (C, some f) => ∀ d, H1 d = none → E (.ref C) (some d) (upd H1 d (.xd [(f, v)]))
  | none => False
structure SOk (P : Pg) (G : Gl0) (Cl : Cl) (j : Nat) (C : Cc) (E : XK) (X : Cx) : Prop extends XOk P G Cl j C E X where
  kind : C.sc.kind = .function
  own : PassesOwn (model X.prog X.w) X.A X.env X.xe
  cls : ∀ x c, C.D.lookup x = some (.cls c) → C.sc.names.lookup x = some .globalImplicit → okNm x = true → ∀ e te p pos rpos, noStar e = true → PE X e te → PS X (.Raise (some (.Call (.Name x p) [e] [] pos)) none rpos) (tRse X.K G E c te)
  clsT : ∀ x c, C.D.lookup x = some (.clsT c) → C.sc.names.lookup x = some .globalImplicit → okNm x = true → ∀ m k p p2 pos rpos, PS X (.Raise (some (.Call (.Name x p) [.Constant (.str m) k p2] [] pos)) none rpos) (tRse X.K G E c (tC (.str m)))
  clsN : ∀ x c, C.D.lookup x = some (.cls c) → C.sc.names.lookup x = some .globalImplicit → okNm x = true → ∀ e te p pos rpos, noStar e = true → PE X.nox e te → PS X.nox (.Raise (some (.Call (.Name x p) [e] [] pos)) none rpos) (tRse X.K G E0 c te)
  clsTN : ∀ x c, C.D.lookup x = some (.clsT c) → C.sc.names.lookup x = some .globalImplicit → okNm x = true → ∀ m k p p2 pos rpos, PS X.nox (.Raise (some (.Call (.Name x p) [.Constant (.str m) k p2] [] pos)) none rpos) (tRse X.K G E0 c (tC (.str m)))
theorem SOk.nox {P : Pg} {G : Gl0} {Cl : Cl} {j : Nat} {C : Cc} {E : XK} {X : Cx} (ok : SOk P G Cl j C E X) (hm : C.met = none) : SOk P G Cl j C E0 X.nox where
  calm := ok.calm
  N := ok.N
  nd := ok.nd
  sc := ok.sc
  fn := ok.fn
  room := ok.room
  pass := passL0
  cst := ok.cst
  fns := ok.fns
  slt := ok.slt
  prp := ok.prp
  mth := ok.mth
  mtk := ok.mtk
  icl := ok.icl
  gd := ok.gd
  blt := ok.blt
  met := fun x h => by rw [hm] at h; cases h
  metD := fun x h => by rw [hm] at h; cases h
  kind := ok.kind
  own := PassesOwn.never
  cls := ok.clsN
  clsT := ok.clsTN
  clsN := ok.clsN
  clsTN := ok.clsTN
section
variable {K : PySem.W.Frag} {G : Gl0} {E : XK} {m : Mp} {h : Hs} {H : Hp} {v v2 : Env} {σ : L2.St}
theorem one_run {D : Ends} {x : V} {w : W} {i : Nat} (fr : FR K m H v σ) (hr : HR K G m h H) (q : RW K m H w x) (p : FlP K G m H D (.nx (v.set i (some w))) h) : D.nx (σ.set i (some x)) H := p _ _ .refl hr _ (fr.set i q)
end
section
variable {P : Pg} {G : Gl0} {Cl : Cl} {n : Nat} {j : Nat} {C : Cc} {E : XK} {X : Cx}
theorem set_ok : PSet X (fun o i v H Q => ∃ m h wo wi w, HR X.K G m h H ∧ RW X.K m H wo o ∧ RW X.K m H wi i ∧ RW X.K m H w v ∧ (setW wo wi w h).post (fun _ h' => ∀ H', Stp m H m H' → HR X.K G m h' H' → Q H') (fun _ _ _ => True)) := by
  intro pins s σ H o i v ov iv u Q I ro ri rv p
  obtain ⟨m, h, wo, wi, w, hr, qo, qi, qv, p⟩ := p
  cases qo <;> try (exact (show False from p).elim)
  rename_i nn a e
  cases qi <;> try (exact (show False from p).elim)
  rename_i k
  simp only [setW] at p
  split at p
  · rename_i ws hw
    split at p
    · rename_i jj hj
      obtain ⟨vs, e1, rs⟩ := hr.lst e hw
      refine set_list pins s σ H _ _ v ov iv u Q I ro ri rv ⟨a, vs, k, jj, rfl, rfl, e1, by rw [← rs.length]; exact hj, ?_⟩
      exact p _ (.set hr e e1) (hr.set e e1 (rs.set qv.wide jj))
    · exact p.elim
  · exact p.elim
theorem set_post {m m1 : Mp} {H H1 : Hp} {wo wi w : W} {h : Hs} {α : Type} {f : Hs → R α} {Qo : α → Hs → Prop} {Qe : Nat → W → Hs → Prop} {Q : Hp → Prop} (p : ((setW wo wi w h).bind fun _ h => f h).post Qo Qe) (k : ∀ h' H', Stp m H m H' → HR X.K G m h' H' → (f h').post Qo Qe → Q H') :
    (setW wo wi w h).post (fun _ h' => ∀ H', Stp m H m H' → HR X.K G m h' H' → Q H') (fun _ _ _ => True) :=
  post_mono (fun _ h' p H' s hr => k h' H' s hr p) (fun _ _ _ _ => trivial) (post_bind p)
theorem aug_ok (o : BOp) : PIp X o.op (rB X.K G E (augW o)) := by
  intro pins s σ H x y v u Q I rx ry p
  obtain ⟨m, h, w, z, hr, qx, qy, p⟩ := p
  cases o with
  | add =>
    cases qx <;> cases qy <;> first | exact (show False from p).elim | skip
    · exact iop_add pins s σ H _ _ v u Q I rx ry ⟨_, _, rfl, rfl, ok_val hr (.int _) p⟩
    · obtain ⟨hz, p⟩ := post_if p
      exact iop_add_str pins s σ H _ _ v u Q I rx ry ⟨_, _, rfl, rfl, hz, ok_val hr (.str _) p⟩
  | sub =>
    cases qx <;> cases qy <;> first | exact (show False from p).elim | skip
    exact iop_sub pins s σ H _ _ v u Q I rx ry ⟨_, _, rfl, rfl, ok_val hr (.int _) p⟩
  | mul =>
    cases qx <;> cases qy <;> first | exact (show False from p).elim | skip
    obtain ⟨hz, p⟩ := post_if p
    rw [Bool.or_eq_true] at hz
    exact iop_mul pins s σ H _ _ v u Q I rx ry ⟨_, _, rfl, rfl, hz.imp small_iff small_iff, ok_val hr (.int _) p⟩
  | fdiv =>
    cases qx <;> cases qy <;> first | exact (show False from p).elim | skip
    obtain ⟨hz, p⟩ := post_if p
    exact iop_fdiv pins s σ H _ _ v u Q I rx ry ⟨_, _, rfl, rfl, hz, ok_val hr (.int _) p⟩
  | mod =>
    cases qx <;> cases qy <;> first | exact (show False from p).elim | skip
    obtain ⟨hz, p⟩ := post_if p
    exact iop_mod pins s σ H _ _ v u Q I rx ry ⟨_, _, rfl, rfl, hz, ok_val hr (.int _) p⟩
  | pow => cases w <;> cases z <;> exact (show False from p).elim
/-- the targets of an assignment, in their order -/
def TGA (K : PySem.W.Frag) (G : Gl0) (E : XK) (Cl : GS.Cl) (n : Nat) (as : List At) : TGs := fun xs σ H Q => ∃ m h ws v, HR K G m h H ∧ RWs K m H ws xs ∧ FR K m H v σ ∧ (setAts Cl n as ws v h).post (fun v2 h2 => ∀ m2 H2 σ2, Stp m H m2 H2 → HR K G m2 h2 H2 → FR K m2 H2 v2 σ2 → Q σ2 H2) (ExP K G E m H)
theorem pga_run (ok : SOk P G Cl j C E X) : ∀ {es : List Expr} {as : List At}, CAs P C es as → PGs X es (TGA X.K G E Cl n as) ∧ (assignEach es X.env).length = as.length ∧ (assignEach es X.env).findIdx? (·.1) = none
  | _, _, .nil => ⟨⟨fun pins s σ H vs us Q I r q => pgs_nil.run pins s σ H vs us Q I r (by
      obtain ⟨m, h, ws, v, hr, rs, fr, p⟩ := q
      cases rs with
      | nil => exact ⟨rfl, p m H σ .refl hr fr⟩
      | cons _ _ => exact (show False from p).elim)⟩, rfl, rfl⟩
  | e :: es, a :: as, .cons h hs => by
    obtain ⟨ps, pl, pn⟩ := pga_run ok hs
    have hN : X.N.Nodup := by rw [ok.N]; exact ok.nd
    have loc : ∀ {x : Str}, (C.sc.names.lookup x = some .local ∨ (C.sc.names.lookup x = some .cell ∧ C.top x = true)) → Loc X.env.scope x ∧ (X.fn x = true ∨ X.env.scope.names.lookup x = some .local) := fun {x} hl => by
      rw [ok.sc]
      rcases hl with z | z
      · exact ⟨.inl z, .inr z⟩
      · exact ⟨.inr z.1, .inl (ok.fn _ z.2)⟩
    have nost : (assignEach (e :: es) X.env).map (·.2) = assign e X.env :: (assignEach es X.env).map (·.2) ∧ (assignEach (e :: es) X.env).length = (a :: as).length ∧ (assignEach (e :: es) X.env).findIdx? (·.1) = none := by
      have key : ∀ f, assignEach (e :: es) X.env = (false, f) :: assignEach es X.env → (assignEach (e :: es) X.env).length = (a :: as).length ∧ (assignEach (e :: es) X.env).findIdx? (·.1) = none := fun f hf => by
        rw [hf]
        refine ⟨by simp [pl], ?_⟩
        rw [List.findIdx?_eq_none_iff] at pn ⊢
        intro z hz
        rcases List.mem_cons.mp hz with rfl | hz
        · rfl
        · exact pn z hz
      cases h with
      | nm h => cases h with | mk _ _ => exact ⟨rfl, key _ rfl⟩
      | ix _ _ _ => exact ⟨rfl, key _ rfl⟩
    refine ⟨?_, nost.2⟩
    cases h with
    | @nm _ i h =>
      cases h with
      | @mk x _ pos hi hl =>
        have pg := pgs_cons (pg_name (pos := pos) hN (by rw [ok.N]; exact hi) (loc hl).1 (loc hl).2) ps nost.1
        refine ⟨fun pins s σ H vs us Q I r q => pg.run pins s σ H vs us Q I r ?_⟩
        obtain ⟨m, h, ws, v, hr, rs, fr, p⟩ := q
        cases rs with
        | nil => exact (show False from p).elim
        | cons q rs =>
          simp only [setAts] at p
          have p := post_bind p
          simp only [setAt] at p
          obtain ⟨hlt, p⟩ := post_if p
          exact ⟨_, _, rfl, m, h, _, _, hr, rs, fr.set i q, p⟩
    | @ix o i x y pos hp ho hi =>
      have pg := pgs_cons (pg_sub ((snd_e P G Cl n).e ok.toXOk ho) ((snd_e P G Cl n).e ok.toXOk hi) (set_ok (G := G)) (by
        intro v
        cases i <;> first
          | rfl
          | cases hp)) ps nost.1
      refine ⟨fun pins s σ H vs us Q I r q => pg.run pins s σ H vs us Q I r ?_⟩
      obtain ⟨m, h, ws, v, hr, rs, fr, p⟩ := q
      cases rs with
      | nil => exact (show False from p).elim
      | @cons w _ ws _ q rs =>
        simp only [setAts] at p
        have p := post_bind p
        simp only [setAt] at p
        refine ⟨_, _, rfl, ?_⟩
        refine ⟨m, v, h, fr, hr, post_mono (fun wo h1 p1 m1 H1 xo s1 hr1 qo => ?_) (fun _ _ _ z => z) (post_bind p)⟩
        refine ⟨m1, v, h1, fr.mono hr s1, hr1, post_mono (fun wi h2 p2 m2 H2 xi s2 hr2 qi => ?_) (fun _ _ _ => ExP.later s1) (post_bind p1)⟩
        have s12 := s1.trans s2
        refine ⟨m2, h2, wo, wi, w, hr2, hr1.rw s2 qo, qi, hr.rw s12 q, set_post (m1 := m) (H1 := H) p2 fun h3 H3 s3 hr3 p3 => ?_⟩
        have s123 := s12.trans s3
        exact ⟨m2, h3, ws, v, hr3, hr.rws s123 rs, fr.mono hr s123, post_mono (fun v2 h2 k m4 H4 σ2 s4 hr4 f4 => k m4 H4 σ2 (s123.trans s4) hr4 f4) (fun _ _ _ => ExP.later s123) p3⟩
end
end GS
-- GsEv16
namespace GS
open PySem PySem.Spec PyProof.Rows L2
structure SndS (P : Pg) (G : Gl0) (Cl : Cl) (n : Nat) : Prop where
  s : ∀ {j : Nat} {C : Cc} {E : XK} {X : Cx}, SOk P G Cl j C E X → ∀ {st : Stmt} {x : St}, CS P C st x → PS X st (TRS X.K G E (rS Cl n x))
  sa : ∀ {j : Nat} {C : Cc} {E : XK} {X : Cx}, SOk P G Cl j C E X → ∀ {st : List Stmt} {x : Sts}, CSs P C st x → ∀ {st2 : List Stmt} {t2 : TS}, PSs X st2 t2 → PSs X (st ++ st2) fun D σ H => TRS X.K G E (rSs Cl n x) { D with nx := t2 D } σ H
section
variable {P : Pg} {G : Gl0} {Cl : Cl} {n : Nat} {j : Nat} {C : Cc} {E : XK} {X : Cx}
theorem SndS.ss (ih : SndS P G Cl n) (ok : SOk P G Cl j C E X) {st : List Stmt} {x : Sts} (h : CSs P C st x) : PSs X st (TRS X.K G E (rSs Cl n x)) := by
  have z := ih.sa ok h (st2 := []) pss_nil
  rw [List.append_nil] at z
  exact z
theorem sndS0 : SndS P G Cl 0 where
  s := fun _ _ _ _ => ⟨fun _ _ σ H Q _ hw => by obtain ⟨_, _, _, _, _, p⟩ := hw; rw [rS] at p; exact p.elim⟩
  sa := fun _ _ _ _ _ _ _ => ⟨fun _ _ σ H Q _ hw => by obtain ⟨_, _, _, _, _, p⟩ := hw; rw [rSs] at p; exact p.elim⟩
theorem sa_step (ih : SndS P G Cl n) (ok : SOk P G Cl j C E X) {st : List Stmt} {x : Sts} (h : CSs P C st x) {st2 : List Stmt} {t2 : TS} (h2 : PSs X st2 t2) : PSs X (st ++ st2) fun D σ H => TRS X.K G E (rSs Cl (n + 1) x) { D with nx := t2 D } σ H := by
  cases h with
  | nil =>
    refine PSs.imp h2 fun D σ H q => ?_
    obtain ⟨m, v, h, fr, hr, p⟩ := q
    rw [rSs] at p
    exact p _ _ .refl hr _ fr
  | cons hs hss =>
    refine PSs.imp (pss_cons (ih.s ok hs) (ih.sa ok hss h2)) fun D σ H q => ?_
    obtain ⟨m, v, h, fr, hr, p⟩ := q
    rw [rSs] at p
    refine ⟨m, v, h, fr, hr, post_mono (fun f h1 p1 m1 H1 s1 hr1 => ?_) (fun _ _ _ z => z) (post_bind p)⟩
    cases f with
    | nx v1 => exact fun σ1 f1 => ⟨m1, v1, h1, f1, hr1, later s1 (FlP.later s1) p1⟩
    | rt w => exact p1 m1 H1 s1 hr1
    | bk v1 => exact p1 m1 H1 s1 hr1
    | ct v1 => exact p1 m1 H1 s1 hr1
  | @fork ss ss2 b r is own hb hr2 =>
    have z := ih.sa ok hb (ih.sa ok hr2 h2)
    rw [← List.append_assoc] at z
    refine PSs.imp z fun D σ H q => ?_
    obtain ⟨m, v, h, fr, hr, p⟩ := q
    rw [rSs] at p
    exact fork_s (D := { D with nx := t2 D }) (t := fun D' => TRS X.K G E (rSs Cl n r) D') (fun _ _ z => z) ⟨m, v, h, fr, hr, p⟩
/-- one turn's end, within a loop -/
theorem turn_end {D : Ends} {N : L2.St → Hp → Prop} {f : Fl} {h1 : Hs} {m : Mp} {H : Hp} {go : Env → Hs → R Fl}
    (p : (match (generalizing := false) f with
      | .nx v => go v h1
      | .ct v => go v h1
      | .bk v => .ok (.nx v) h1
      | .rt w => .ok (.rt w) h1).post (FlP X.K G m H D) (ExP X.K G E m H)) (k : ∀ m1 H1 v σ, Stp m H m1 H1 → HR X.K G m1 h1 H1 → FR X.K m1 H1 v σ → (go v h1).post (FlP X.K G m1 H1 D) (ExP X.K G E m1 H1) → N σ H1) :
    FlP X.K G m H { D with nx := N, ct := N, bk := D.nx } f h1 := by
  intro m1 H1 s1 hr1
  cases f with
  | nx v => exact fun σ f1 => k m1 H1 v σ s1 hr1 f1 (later s1 (FlP.later s1) p)
  | ct v => exact fun σ f1 => k m1 H1 v σ s1 hr1 f1 (later s1 (FlP.later s1) p)
  | bk v => exact p m1 H1 s1 hr1
  | rt w => exact p m1 H1 s1 hr1
theorem rse_run {c : Nat} {w : W} {x : V} {m : Mp} {h : Hs} {H : Hp} {Qo : Fl → Hs → Prop} (hr : HR X.K G m h H) (q : RW X.K m H w x) (p : (if w.pure = true then (R.ex c w h : R Fl) else .no).post Qo (ExP X.K G E m H)) : match G.cls c with
  | some (C, none) => E (.ref C) none H
  | some (C, some f) => ∀ d, H d = none → E (.ref C) (some d) (upd H d (.xd [(f, x)]))
  | none => False := by
  obtain ⟨_, p⟩ := post_if p
  have p : ExE X.K G E c w m H := p m H .refl hr
  unfold ExE at p
  cases e : G.cls c with
  | none => rw [e] at p; exact p
  | some z =>
    obtain ⟨Ca, f⟩ := z
    rw [e] at p
    cases f with
    | none => exact p
    | some f => exact fun d hd => p d x hd q
theorem whl_run {x : Ex} {y : Sts} {D : Ends} {σ : L2.St} {H : Hp} (q : TRS X.K G E (rWh Cl n x y) D σ H) : tWhile (TBu X.K G E n fun k => rE Cl k x) (TSu X.K G E n fun k => rSs Cl k y) D σ H := by
  refine ⟨fun k σ H => k ≤ n ∧ TRS X.K G E (rWh Cl k x y) D σ H, ⟨n, Nat.le_refl _, q⟩, ?_⟩
  rintro k σ H ⟨hk, m, v, h, fr, hr, p⟩
  cases k with
  | zero => rw [rWh] at p; exact p.elim
  | succ k =>
    rw [rWh] at p
    refine ⟨k, by omega, TR.of' (Qo := fun m H => FlP X.K G m H D) fr hr (fun s => FlP.later s) p fun m1 H1 w h1 x1 s1 hr1 q1 fr1 p1 => ?_⟩
    obtain ⟨b, rfl, rfl, p1⟩ := asB_run q1 p1
    refine ⟨b, rfl, ?_⟩
    cases b with
    | false => exact p1 _ _ .refl hr1 _ fr1
    | true =>
      rw [if_pos rfl]
      refine ⟨fun σ' H' => ∃ m', m' < k + 1 ∧ _, fun _ _ z => z, k, by omega, m1, v, h1, fr1, hr1, post_mono (fun f h2 p2 => ?_) (fun _ _ _ z => z) (post_bind p1)⟩
      exact turn_end (E := E) (go := fun v h => rWh Cl k x y v h) (by cases f <;> exact p2) fun m2 H2 v2 σ2 s2 hr2 f2 p3 => ⟨k, by omega, by omega, m2, v2, h2, f2, hr2, p3⟩
theorem for_run {t : Tg} {it : It} {y : Sts} {D : Ends} {σ : L2.St} {H : Hp} (q : TRS X.K G E (rS Cl (n + 1) (.for t it y)) D σ H) : tFor (TRI X.K G E (rI Cl n it)) (TGR X.K G t) (TSu X.K G E n fun k => rSs Cl k y) D σ H := by
  obtain ⟨m, v, h, fr, hr, p⟩ := q
  rw [rS] at p
  refine ⟨m, v, h, fr, hr, post_mono (fun I h1 p1 m1 H1 J s1 hr1 jr => ?_) (fun _ _ _ z => z) (post_bind p)⟩
  have p1 := later (Qo' := FlP X.K G m1 H1 D) s1 (FlP.later s1) p1
  refine ⟨fun i k σ H => ∃ m v h, k ≤ n ∧ FR X.K m H v σ ∧ HR X.K G m h H ∧ JR X.K m H I J ∧ (rFor Cl k t I y i v h).post (FlP X.K G m H D) (ExP X.K G E m H), ⟨n, m1, v, h1, Nat.le_refl _, fr.mono hr s1, hr1, jr, p1⟩, ?_⟩
  rintro i k σ H ⟨m, v, h, hk, fr, hr, jr, p⟩
  cases k with
  | zero => rw [rFor] at p; exact p.elim
  | succ k =>
    rw [rFor] at p
    split at p
    · exact p.elim
    · rename_i e
      exact .inl ⟨jr.stop hr e, p _ _ .refl hr _ fr⟩
    · rename_i x e
      obtain ⟨go, yl⟩ := jr.go hr e
      refine .inr ⟨go, fun σ' H' => ∃ m', m' < k + 1 ∧ _, fun _ _ z => z, fun x' H' yx => ?_⟩
      obtain ⟨s2, hr2, q2⟩ := yl x' H' yx
      split at p
      · exact p.elim
      · rename_i v2 e2
        have p := later (Qo' := FlP X.K G m H' D) s2 (FlP.later s2) p
        refine ⟨m, h, x, v, v2, hr2, q2, fr.mono hr s2, e2, fun σ2 f2 _ _ => ?_⟩
        refine ⟨k, by omega, m, v2, h, f2, hr2, post_mono (fun f h3 p3 => ?_) (fun _ _ _ z => z) (post_bind p)⟩
        exact turn_end (E := E) (go := fun v h => rFor Cl k t I y (i + 1) v h) (by cases f <;> exact p3) fun m3 H3 v4 σ4 s3 hr3 f4 p4 => ⟨k, by omega, m3, v4, h3, by omega, f4, hr3, (jr.mono hr s2).mono hr2 s3, p4⟩
theorem s_step (ihs : ∀ k, k < n + 1 → SndS P G Cl k) (ok : SOk P G Cl j C E X) {st : Stmt} {x : St} (h : CS P C st x) : PS X st (TRS X.K G E (rS Cl (n + 1) x)) := by
  have ih := ihs n (Nat.lt_succ_self n)
  have ie := snd_e P G Cl n
  have hN : X.N.Nodup := by rw [ok.N]; exact ok.nd
  have loc : ∀ {x : Str}, (C.sc.names.lookup x = some .local ∨ (C.sc.names.lookup x = some .cell ∧ C.top x = true)) → L2.Loc X.env.scope x ∧ (X.fn x = true ∨ X.env.scope.names.lookup x = some .local) := fun {x} hl => by
    rw [ok.sc]
    rcases hl with z | z
    · exact ⟨.inl z, .inr z⟩
    · exact ⟨.inr z.1, .inl (ok.fn _ z.2)⟩
  have sk : X.env.scope.kind = .function := by rw [ok.sc]; exact ok.kind
  have loc1 : ∀ {x : Str} {i : Nat}, Lcl C x i → X.N[i]? = some x ∧ X.env.scope.names.lookup x = some .local := fun {x i} h => ⟨by rw [ok.N]; exact h.1, by rw [ok.sc]; exact h.2⟩
  cases h with
  | @set x e i y p pos hg hc he =>
    cases hg with
    | mk hi hl =>
      have hs : swapsWith e (some (.Name x p)) pos.line X.env = pure false := by
        rcases hc with z | z
        · exact swaps_none z
        · exact swaps_cell (by rw [ok.sc]; exact z)
      refine PS.imp (ps_set hN (by rw [ok.N]; exact hi) (loc hl).1 (ie.e ok.toXOk he) hs (loc hl).2) fun D σ H q => ?_
      obtain ⟨m, v, h, fr, hr, p⟩ := q
      rw [rS] at p
      refine TR.of' (Qo := fun m H => FlP X.K G m H D) fr hr (fun s => FlP.later s) p fun m1 H1 w h1 x1 s1 hr1 q1 fr1 p1 => ?_
      obtain ⟨_, p1⟩ := post_if p1
      exact one_run fr1 hr1 q1 p1
  | @setLc x elt gs scope i y p p2 pos hl hline hno hnf he =>
    have sw : swapsWith (.ListComp elt gs scope p2) (some (.Name x p)) pos.line X.env = pure true := sw_true sk (loc1 hl).2 hline hno
    have fin : ∀ {D : Ends} {σ : L2.St} {H : Hp}, TRS X.K G E (rS Cl (n + 1) (.set i y)) D σ H → TR X.K G E (rE Cl n y) σ H fun x1 H1 => gName i x1 σ H1 D.nx := fun {D σ H} q => by
      obtain ⟨m, v, h, fr, hr, p⟩ := q
      rw [rS] at p
      refine TR.of' (Qo := fun m H => FlP X.K G m H D) fr hr (fun s => FlP.later s) p fun m1 H1 w h1 x1 s1 hr1 q1 fr1 p1 => ?_
      obtain ⟨_, p1⟩ := post_if p1
      exact one_run fr1 hr1 q1 p1
    cases n with
    | zero =>
      refine ⟨fun _ _ σ H D _ hw => ?_⟩
      obtain ⟨_, _, _, _, _, p⟩ := fin hw
      rw [rE] at p
      exact p.elim
    | succ n =>
      have ie := snd_e P G Cl n
      cases he with
      | fork _ => cases hnf
      | join _ => cases hnf
      | @lc _ elt tg iter ifs scope own x' t it cs pos' bok htg hset hi hg hts he =>
        refine PS.imp (ps_setLc (g := TGR X.K G t) (tt := TTu X.K G n fun k => rT Cl k cs) (te := TEu X.K G n fun k => rE Cl k x') ok.calm hN (loc1 hl).1 (loc1 hl).2 sw (ie.i ok.toXOk hi) (by rw [ok.N, ok.sc]; exact bok) (fun s H Ca cl fp => pg_run (C := C.blk scope) (ok.blk scope s H Ca cl fp).calm (ok.blk scope s H Ca cl fp).N (ok.blk scope s H Ca cl fp).nd (ok.blk scope s H Ca cl fp).sc (ok.blk scope s H Ca cl fp).fn hg)
          (fun s H Ca cl fp => ⟨fun pins s' σ H' Q I ⟨k, hk, q⟩ => ((snd_e P G Cl k).ts (ok.blk scope s H Ca cl fp) hts).run pins s' σ H' Q I q⟩)
          (fun s H Ca cl fp => ⟨fun pins s' σ H' Q I ⟨k, hk, q⟩ => ((snd_e P G Cl k).e (ok.blk scope s H Ca cl fp) he).run pins s' σ H' Q I q⟩) (folded_ok hset _)) fun D σ H q => lc_tLc htg (fin q)
      | @lc2 _ elt tg iter tg1 iter1 ifs ifs1 scope own own1 x' t t1 it it1 cs cs1 pos' bok htg htg1 hown hset hset1 hi hg hts hi1 hg1 hts1 he =>
        have hv : ∀ i ∈ own1, i ∈ own.map (·.2) := fun i hi => by
          rw [List.all_eq_true] at hown
          simpa using hown i hi
        refine PS.imp (ps_setLc2 (g := TGR X.K G t) (tt := TTu X.K G n fun k => rT Cl k cs) (wi1 := TIu X.K G n fun k => rI Cl k it1) (g1 := TGR X.K G t1) (tt1 := TTu X.K G n fun k => rT Cl k cs1) (te := TEu X.K G n fun k => rE Cl k x') ok.calm hN (loc1 hl).1 (loc1 hl).2 sw (ie.i ok.toXOk hi) (by rw [ok.N, ok.sc]; exact bok) hv
          (fun s H Ca cl fp => pg_run (C := C.blk scope) (ok.blk scope s H Ca cl fp).calm (ok.blk scope s H Ca cl fp).N (ok.blk scope s H Ca cl fp).nd (ok.blk scope s H Ca cl fp).sc (ok.blk scope s H Ca cl fp).fn hg)
          (fun s H Ca cl fp => ⟨fun pins s' σ H' Q I ⟨k, hk, q⟩ => ((snd_e P G Cl k).ts (ok.blk scope s H Ca cl fp) hts).run pins s' σ H' Q I q⟩)
          (fun s H Ca cl fp => ⟨fun pins s' σ H' Q I ⟨k, hk, q⟩ => ((snd_e P G Cl k).i (ok.blk scope s H Ca cl fp) hi1).run pins s' σ H' Q I q⟩)
          (fun s H Ca cl fp => pg_run (C := C.blk scope) (ok.blk scope s H Ca cl fp).calm (ok.blk scope s H Ca cl fp).N (ok.blk scope s H Ca cl fp).nd (ok.blk scope s H Ca cl fp).sc (ok.blk scope s H Ca cl fp).fn hg1)
          (fun s H Ca cl fp => ⟨fun pins s' σ H' Q I ⟨k, hk, q⟩ => ((snd_e P G Cl k).ts (ok.blk scope s H Ca cl fp) hts1).run pins s' σ H' Q I q⟩)
          (fun s H Ca cl fp => ⟨fun pins s' σ H' Q I ⟨k, hk, q⟩ => ((snd_e P G Cl k).e (ok.blk scope s H Ca cl fp) he).run pins s' σ H' Q I q⟩) (folded_ok hset _) (fun env => folded_ok hset1 env)) fun D σ H q => lc2_tLc htg htg1 (fin q)
  | @setT es e is y kk p pos hg hc he =>
    have hw : swappedStores [.Tuple es kk p] e X.env = pure none := by
      rcases hc with z | z | z
      · exact stores_tup z
      · exact stores_long z
      · exact stores_cell (by rw [ok.sc]; exact z)
    have pg : PG X (.Tuple es kk p) (TGR X.K G (.many is)) := pg_run ok.calm ok.N ok.nd ok.sc ok.fn (.many hg)
    refine PS.imp (ps_asg (pos := pos) (ie.e ok.toXOk he) pg (swaps_tup (e := e) (es := es) (k := kk) (l := pos.line) (p := p) (env := X.env)) hw rfl) fun D σ H q => ?_
    obtain ⟨m, v, h, fr, hr, p⟩ := q
    rw [rS] at p
    refine TR.of' (Qo := fun m H => FlP X.K G m H D) fr hr (fun s => FlP.later s) p fun m1 H1 w h1 x1 s1 hr1 q1 fr1 p1 => ?_
    split at p1
    · rename_i v2 e2
      exact ⟨m1, h1, w, v, v2, hr1, q1, fr1, e2, fun σ2 f2 _ _ => p1 _ _ .refl hr1 _ f2⟩
    · exact p1.elim
  | par2 hx hy hij hl hne hns hf hc hes =>
    refine PS.imp (ps_par ok.calm hN (loc1 hx).1 (loc1 hy).1 hij (loc1 hx).2 (loc1 hy).2 (ie.es ok.toXOk hes) (swap2 sk (loc1 hx).2 (loc1 hy).2 hl hne hns hf hc) rfl) fun D σ H q => ?_
    obtain ⟨m, v, h, fr, hr, p⟩ := q
    rw [rS] at p
    refine ⟨m, v, h, fr, hr, post_mono (fun ws h1 p1 m1 H1 vs s1 hr1 q1 => ?_) (fun _ _ _ z => z) (post_bind p)⟩
    split at p1
    · rename_i v2 e2
      have l := setMany_len e2
      cases q1 with
      | nil => cases l
      | cons q1 r1 =>
        cases r1 with
        | nil => cases l
        | cons q2 r2 =>
          cases r2 with
          | cons _ _ => cases l
          | nil =>
            simp only [setMany] at e2
            split at e2
            · split at e2
              · cases e2
                exact ⟨_, _, rfl, p1 _ _ s1 hr1 _ (((fr.mono hr s1).set _ q1).set _ q2)⟩
              · cases e2
            · cases e2
    · exact p1.elim
  | par3 hx hy hz hij hil hjl hl hl2 hne hns hf hc hes =>
    refine PS.imp (ps_par3 ok.calm hN (loc1 hx).1 (loc1 hy).1 (loc1 hz).1 hij hil hjl (loc1 hx).2 (loc1 hy).2 (loc1 hz).2 (ie.es ok.toXOk hes) (swap3 sk (loc1 hx).2 (loc1 hy).2 (loc1 hz).2 hl hl2 hne hns hf hc) rfl) fun D σ H q => ?_
    obtain ⟨m, v, h, fr, hr, p⟩ := q
    rw [rS] at p
    refine ⟨m, v, h, fr, hr, post_mono (fun ws h1 p1 m1 H1 vs s1 hr1 q1 => ?_) (fun _ _ _ z => z) (post_bind p)⟩
    split at p1
    · rename_i v2 e2
      have l := setMany_len e2
      cases q1 with
      | nil => cases l
      | cons q1 r1 =>
        cases r1 with
        | nil => cases l
        | cons q2 r2 =>
          cases r2 with
          | nil => cases l
          | cons q3 r3 =>
            cases r3 with
            | cons _ _ => cases l
            | nil =>
              simp only [setMany] at e2
              split at e2
              · split at e2
                · split at e2
                  · cases e2
                    exact ⟨_, _, _, rfl, p1 _ _ s1 hr1 _ ((((fr.mono hr s1).set _ q1).set _ q2).set _ q3)⟩
                  · cases e2
                · cases e2
              · cases e2
    · exact p1.elim
  | @asg es e as y kk p pos hg hc he =>
    obtain ⟨pgs, pl, pn⟩ := pga_run (n := n) ok hg
    refine PS.imp (ps_asg (pos := pos) (ie.e ok.toXOk he) (pg_tup (k := kk) (pos := p) ok.calm pgs pl pn) (swaps_tup (e := e) (es := es) (k := kk) (l := pos.line) (p := p) (env := X.env)) (stores_tup hc) rfl) fun D σ H q => ?_
    obtain ⟨m, v, h, fr, hr, p⟩ := q
    rw [rS] at p
    refine TR.of' (Qo := fun m H => FlP X.K G m H D) fr hr (fun s => FlP.later s) p fun m1 H1 w h1 x1 s1 hr1 q1 fr1 p1 => ?_
    cases q1 with
    | tup st rs =>
      obtain ⟨hlen, p1⟩ := post_if p1
      have p2 := post_bind p1
      refine ⟨_, _, rfl, st, ?_, m1, h1, _, v, hr1, rs, fr1, post_mono (fun v2 h2 k m2 H2 σ2 s2 hr2 f2 => k m2 H2 s2 hr2 σ2 f2) (fun _ _ _ z => z) p2⟩
      rw [← rs.length]
      exact hlen
    | _ => exact (show False from p1).elim
  | @setIx o i e x y z p pos hp ho hi he =>
    have pg : PG X (.Subscript o i p) _ := pg_sub (ie.e ok.toXOk ho) (ie.e ok.toXOk hi) (set_ok (G := G)) (by
      intro v
      cases i <;> first
        | rfl
        | cases hp)
    refine PS.imp (ps_asg (pos := pos) (ie.e ok.toXOk he) pg (swaps_sub (e := e) (o := o) (i := i) (l := pos.line) (p := p) (env := X.env)) stores_sub rfl) fun D σ H q => ?_
    obtain ⟨m, v, h, fr, hr, p⟩ := q
    rw [rS] at p
    refine TR.of' (Qo := fun m H => FlP X.K G m H D) fr hr (fun s => FlP.later s) p fun m1 H1 w h1 x1 s1 hr1 q1 fr1 p1 => ?_
    refine TR.of' (Qo := fun m H => FlP X.K G m H D) fr1 hr1 (fun s => FlP.later s) p1 fun m2 H2 wo h2 xo s2 hr2 qo fr2 p2 => ?_
    refine TR.of' (Qo := fun m H => FlP X.K G m H D) fr2 hr2 (fun s => FlP.later s) p2 fun m3 H3 wi h3 xi s3 hr3 qi fr3 p3 => ?_
    exact ⟨m3, h3, wo, wi, w, hr3, hr2.rw s3 qo, qi, hr2.rw s3 (hr1.rw s2 q1), set_post (m1 := m) (H1 := H) p3 fun h4 H4 s4 hr4 p4 => p4 _ _ s4 hr4 _ (fr3.mono hr3 s4)⟩
  | @setA o e f c i x y p pos hd hcp ho he =>
    refine PS.imp (SlX.ps_sl (X := X) (pos := pos) (pos' := p) (ie.e ok.toXOk ho) (ie.e ok.toXOk he) (swaps_none hcp)) fun D σ H q => ?_
    obtain ⟨m, v, h, fr, hr, p⟩ := q
    rw [rS] at p
    refine TR.of' (Qo := fun m H => FlP X.K G m H D) fr hr (fun s => FlP.later s) p fun m1 H1 w h1 x1 s1 hr1 q1 fr1 p1 => ?_
    refine TR.of' (Qo := fun m H => FlP X.K G m H D) fr1 hr1 (fun s => FlP.later s) p1 fun m2 H2 wo h2 xo s2 hr2 qo fr2 p2 => ?_
    unfold asetW at p2
    split at p2
    · rename_i n fs e
      obtain ⟨a, C', dx, us, rfl, hm, _, hc, sl, d, r⟩ := ins_of hr2 qo e
      obtain ⟨Ca, pa, hc2, sc, st⟩ := ok.toXOk.slt _ _ _ hd
      rw [hc] at hc2
      cases hc2
      obtain ⟨s4, hr4⟩ := slot_set (i := i) hr2 hm hc sl d r (hr2.rw .refl (hr1.rw s2 q1))
      exact ⟨a, C', dx, pa, us, i, rfl, sl, sc, st, (show FlP X.K G m2 H2 D (.nx v) _ from p2) _ _ s4 hr4 _ (fr2.mono hr2 s4)⟩
    · exact p2.elim
  | @setDx o i e x y z p pos hp ho hi he =>
    refine PS.imp (ps_dput (X := X) (pos := pos) (pos' := p) (by have := ok.room.un; omega) (ie.e ok.toXOk ho) (ie.e ok.toXOk hi) (ie.e ok.toXOk he) (swaps_sub (e := e) (o := o) (i := i) (l := pos.line) (p := p) (env := X.env))) fun D σ H q => ?_
    obtain ⟨m, v, h, fr, hr, p⟩ := q
    rw [rS] at p
    refine TR.of' (Qo := fun m H => FlP X.K G m H D) fr hr (fun s => FlP.later s) p fun m1 H1 w h1 x1 s1 hr1 q1 fr1 p1 => ?_
    refine TR.of' (Qo := fun m H => FlP X.K G m H D) fr1 hr1 (fun s => FlP.later s) p1 fun m2 H2 wo h2 xo s2 hr2 qo fr2 p2 => ?_
    refine TR.of' (Qo := fun m H => FlP X.K G m H D) fr2 hr2 (fun s => FlP.later s) p2 fun m3 H3 wi h3 xi s3 hr3 qi fr3 p3 => ?_
    obtain ⟨a, H4, h4, ex, dp, s4, hr4, p4⟩ := dset_run hr3 (hr2.rw s3 qo) qi (hr2.rw s3 (hr1.rw s2 q1)) p3
    exact ⟨a, H4, ex, dp, p4 _ _ s4 hr4 _ (fr3.mono hr3 s4)⟩
  | @aug x e i y o p pos hg he =>
    cases hg with
    | mk hi hl =>
      refine PS.imp (ps_aug hN (by rw [ok.N]; exact hi) (loc hl).1 (ie.e ok.toXOk he) (aug_ok (G := G) (E := E) o) (loc hl).2) fun D σ H q => ?_
      obtain ⟨m, v, h, fr, hr, p⟩ := q
      rw [rS] at p
      split at p
      · rename_i w hw
        obtain ⟨x1, e1, qx⟩ := fr.at_ _ _ hw
        refine ⟨x1, e1, TR.of' (Qo := fun m H => FlP X.K G m H D) fr hr (fun s => FlP.later s) p fun m1 H1 w1 h1 y1 s1 hr1 q1 fr1 p1 => ?_⟩
        exact ⟨m1, h1, w, w1, hr1, hr.rw s1 qx, q1, post_mono (Qo' := OkP X.K G m1 H1 fun z H2 => D.nx (σ.set i (some z)) H2) (fun w2 h2 p2 m2 H2 z s2 hr2 q2 => p2 _ _ s2 hr2 _ ((fr1.mono hr1 s2).set _ q2)) (fun _ _ _ z => z) (post_bind p1)⟩
      · exact p.elim
  | drop hc he =>
    refine PS.imp (ps_expr (ie.e ok.toXOk he) (swaps_none hc)) fun D σ H q => ?_
    obtain ⟨m, v, h, fr, hr, p⟩ := q
    rw [rS] at p
    exact TR.of' (Qo := fun m H => FlP X.K G m H D) fr hr (fun s => FlP.later s) p fun m1 H1 w h1 x1 s1 hr1 q1 fr1 p1 => p1 _ _ .refl hr1 _ fr1
  | tryN hn hb =>
    refine PS.imp (ps_try_thru0 (ih.ss (ok.nox hn) hb)) fun D σ H q => ?_
    obtain ⟨m, v, h, fr, hr, p⟩ := q
    rw [rS] at p
    exact ⟨m, v, h, fr, hr, post_mono (fun _ _ z => z) (fun _ _ _ z => z.elim) (noEx_post p)⟩
  | ret he =>
    refine PS.imp (ps_ret (ie.e ok.toXOk he)) fun D σ H q => ?_
    obtain ⟨m, v, h, fr, hr, p⟩ := q
    rw [rS] at p
    exact TR.of' (Qo := fun m H => FlP X.K G m H D) fr hr (fun s => FlP.later s) p fun m1 H1 w h1 x1 s1 hr1 q1 fr1 p1 => p1 _ _ .refl hr1 _ q1
  | retN =>
    refine PS.imp ps_retN fun D σ H q => ?_
    obtain ⟨m, v, h, fr, hr, p⟩ := q
    rw [rS] at p
    exact p _ _ .refl hr _ .non
  | pass =>
    refine PS.imp ps_pass fun D σ H q => ?_
    obtain ⟨m, v, h, fr, hr, p⟩ := q
    rw [rS] at p
    exact p _ _ .refl hr _ fr
  | brk =>
    refine PS.imp ps_break fun D σ H q => ?_
    obtain ⟨m, v, h, fr, hr, p⟩ := q
    rw [rS] at p
    exact p _ _ .refl hr _ fr
  | cnt =>
    refine PS.imp ps_continue fun D σ H q => ?_
    obtain ⟨m, v, h, fr, hr, p⟩ := q
    rw [rS] at p
    exact p _ _ .refl hr _ fr
  | ifS ht hc ha hb =>
    refine PS.imp (ps_if (ie.t ok.toXOk ht hc) (ih.ss ok ha) (ih.ss ok hb)) fun D σ H q => ?_
    obtain ⟨m, v, h, fr, hr, p⟩ := q
    rw [rS] at p
    refine TR.of' (Qo := fun m H => FlP X.K G m H D) fr hr (fun s => FlP.later s) p fun m1 H1 w h1 x1 s1 hr1 q1 fr1 p1 => ?_
    obtain ⟨b, rfl, rfl, p1⟩ := asB_run q1 p1
    cases b with
    | true => exact ⟨_, rfl, m1, v, h1, fr1, hr1, p1⟩
    | false => exact ⟨_, rfl, m1, v, h1, fr1, hr1, p1⟩
  | whl ht hc hb =>
    refine PS.imp (ps_while (tc := TBu X.K G E n fun k => rE Cl k _) (tb := TSu X.K G E n fun k => rSs Cl k _) ok.own ⟨fun pins s σ H Q I ⟨k, hk, q⟩ => ((snd_e P G Cl k).t ok.toXOk ht hc).run pins s σ H Q I q⟩ ⟨fun pins s σ H D I ⟨k, hk, q⟩ => ((ihs k (by omega)).ss ok hb).run pins s σ H D I q⟩) fun D σ H q => ?_
    obtain ⟨m, v, h, fr, hr, p⟩ := q
    rw [rS] at p
    exact whl_run ⟨m, v, h, fr, hr, p⟩
  | @«for» tg e b t it y pos hset hi hg hb =>
    exact PS.imp (ps_for (g := TGR X.K G t) (tb := TSu X.K G E n fun k => rSs Cl k y) ok.own ok.calm (ie.i ok.toXOk hi) (pg_run ok.calm ok.N ok.nd ok.sc ok.fn hg) ⟨fun pins s σ H D I ⟨k, hk, q⟩ => ((ihs k (by omega)).ss ok hb).run pins s σ H D I q⟩ (folded_ok hset _)) fun D σ H q => for_run q
  | rse hg hns he =>
    refine PS.imp (ok.cls _ _ hg.2.1 hg.1 hg.2.2 _ _ _ _ _ hns (ie.e ok.toXOk he)) fun D σ H q => ?_
    obtain ⟨m, v, h, fr, hr, p⟩ := q
    rw [rS] at p
    refine TR.of' (Qo := fun m H => FlP X.K G m H D) fr hr (fun s => FlP.later s) p fun m1 H1 w h1 x1 s1 hr1 q1 fr1 p1 => ?_
    exact rse_run hr1 q1 p1
  | rseT hg =>
    refine PS.imp (ok.clsT _ _ hg.2.1 hg.1 hg.2.2 _ _ _ _ _ _) fun D σ H q => ?_
    obtain ⟨m, v, h, fr, hr, p⟩ := q
    rw [rS] at p
    have p1 := post_bind p
    cases n with
    | zero => rw [rE] at p1; exact p1.elim
    | succ n =>
      rw [rE] at p1
      exact rse_run (Qo := FlP X.K G m H D) hr (.str _) p1
end
theorem sndS (P : Pg) (G : Gl0) (Cl : Cl) : ∀ n, ∀ k, k < n → SndS P G Cl k
  | 0, k, h => absurd h (Nat.not_lt_zero k)
  | n + 1, k, h => by
    have ihs := sndS P G Cl n
    rcases Nat.lt_succ_iff_lt_or_eq.mp h with h | h
    · exact ihs k h
    · subst h
      cases k with
      | zero => exact sndS0
      | succ k =>
        have ih := ihs k (Nat.lt_succ_self k)
        exact ⟨fun ok _ _ h => s_step ihs ok h, fun ok _ _ h _ _ h2 => sa_step ih ok h h2⟩
theorem snd_s (P : Pg) (G : Gl0) (Cl : Cl) (n : Nat) : SndS P G Cl n := sndS P G Cl (n + 1) n (Nat.lt_succ_self n)
end GS
-- GsEv17
namespace GS
open PySem PySem.Spec PyProof.Rows L2
section
variable {K : PySem.W.Frag} {G : Gl0} {E : XK} {m m' : Mp} {h h' : Hs} {H H' : Hp} {Q : VK}
def m0 : Mp := fun _ => none
def jn (m m' : Mp) (n : Nat) : Mp := fun i => if i < n then m i else m' (i - n)
theorem hr0 (hr : HR K G m h H) : HR K G m0 .nil H := ⟨rfl, fun n hn => absurd hn (Nat.not_lt_zero n), fun n a e => (nomatch (show none = some a from e)), fun i j a e => (nomatch (show none = some a from e)), fun n a o e => (nomatch (show none = some a from e)), hr.tab⟩
theorem stp0 (hr : HR K G m h H) (s : Stp m0 H m' H') : Stp m H m H' where
  le := fun _ _ e => e
  kp := fun a o e _ ht hw => s.kp a o e (fun n z => by cases z) ht hw
  fr := fun n a e => .inl e
  al := s.al
  ko := fun a y e _ => s.ko a y e (fun n z => by cases z)
theorem hr_back (hr : HR K G m h H) (s : Stp m0 H m' H') (tab : LamX.Tabs G.T H') : HR K G m h H' where
  len := hr.len
  dom := hr.dom
  dom' := hr.dom'
  inj := hr.inj
  ob := fun n a o e q => by
    obtain ⟨u, hu, mu⟩ := hr.mut e
    exact (hr.ob n a o e q).step hr (stp0 hr s) (by rw [hu]; exact s.kp a u hu (fun n z => by cases z) (fun ps z => by subst z; exact mu) (fun ps z => by subst z; exact mu))
  tab := tab
theorem get_jn {h h' : Hs} (hl : h.c.length = h.n) (hl' : h'.c.length = h'.n) (n : Nat) : (h.join h').get n = if n < h.n then h.get n else (h'.get (n - h.n)).map (O.shift h.n) := by
  unfold Hs.join Hs.get
  simp only
  by_cases hn : n < h.n
  · rw [if_pos (show n < h.n + h'.n by omega), if_pos hn, if_pos hn]
    rw [List.getElem?_append_right (by rw [List.length_map]; omega), List.length_map]
    congr 1
    omega
  · rw [if_neg hn]
    by_cases hn2 : n < h.n + h'.n
    · rw [if_pos hn2, if_pos (show n - h.n < h'.n by omega)]
      rw [List.getElem?_append_left (by rw [List.length_map]; omega), List.getElem?_map]
      congr 2
      omega
    · rw [if_neg hn2, if_neg (show ¬ n - h.n < h'.n by omega)]
      rfl
theorem jn_ge {m m' : Mp} {n i : Nat} : jn m m' n (n + i) = m' i := by
  unfold jn
  rw [if_neg (by omega)]
  congr 1
  omega
theorem ORel.shift {a : Addr} {o : O} {n : Nat} {m2 : Mp} (hm : ∀ i x, m' i = some x → m2 (n + i) = some x) (r : ORel K G m' H' a o) : ORel K G m2 H' a (o.shift n) := by
  cases o with
  | lst ws => obtain ⟨vs, e, q⟩ := r; exact ⟨vs, e, q.shift hm fun _ _ _ z => z⟩
  | bag => exact r
  | ins c fs =>
    obtain ⟨C, dx, us, hc, sl, d, q⟩ := r
    refine ⟨C, dx, us, hc, sl, d, fun i w hi => ?_⟩
    rw [List.getElem?_map] at hi
    cases hf : fs[i]? with
    | none => rw [hf] at hi; cases hi
    | some o =>
      rw [hf] at hi
      cases o with
      | none => cases hi
      | some w0 =>
        cases hi
        obtain ⟨v, e1, r1⟩ := q i w0 hf
        exact ⟨v, e1, r1.shift hm fun _ _ _ z => z⟩
  | dct kvs =>
    obtain ⟨ks, e, q⟩ := r
    refine ⟨ks, e, ?_⟩
    clear e
    induction q with
    | nil => exact .nil
    | @cons ws ks w v r s k q _ ih =>
      refine KR.cons (K := K) (m := m2) (H := H') (ws := W.shifts n ws) ?_ (q.shift hm fun _ _ _ z => z) ih
      clear ih q
      induction k with
      | nil => rw [W.shifts]; exact .nil
      | @cons w k ws ks hk _ ih =>
        rw [W.shifts]
        refine .cons ?_ ih
        cases w <;> first
          | exact hk
          | exact (show False from hk).elim
  | dk kvs =>
    obtain ⟨ks, e, q⟩ := r
    refine ⟨ks, e, ?_⟩
    clear e
    induction q with
    | nil => exact .nil
    | @cons w u x v r s k q _ ih =>
      refine KN.cons (K := K) (m := m2) (H := H') ?_ (q.shift hm fun _ _ _ z => z) ih
      cases w <;> first
        | exact k
        | exact (show False from k).elim
/-- behind a call upon a heap of its own -/
theorem jn_run (hr : HR K G m h H) (s : Stp m0 H m' H') (hr' : HR K G m' h' H') {w : W} {x : V} (q : RW K m' H' w x) : Stp m H (jn m m' h.n) H' ∧ HR K G (jn m m' h.n) (h.join h') H' ∧ RW K (jn m m' h.n) H' (w.shift h.n) x := by
  have hb := hr_back hr s hr'.tab
  have fresh : ∀ i a, m' i = some a → ∀ o, H a = some o → ∃ ps, o = .tbl ps := fun i a e => by
    rcases s.fr i a e with z | z
    · cases z
    · exact z
  have apart : ∀ i j a, m i = some a → m' j = some a → False := fun i j a e1 e2 => by
    obtain ⟨u, hu, mu⟩ := hr.mut e1
    obtain ⟨ps, z⟩ := fresh j a e2 u hu
    subst z
    exact mu
  refine ⟨⟨fun n a e => ?_, (stp0 hr s).kp, fun n a e => ?_, s.al, (stp0 hr s).ko⟩, ⟨?_, fun n hn => ?_, fun n a e => ?_, fun i j a e1 e2 => ?_, fun n a o e qo => ?_, hr'.tab⟩, q.shift (fun i a e => by rw [jn_ge]; exact e) fun _ _ _ z => z⟩
  · have := hr.dom' n a e
    unfold jn
    rw [if_pos this]; exact e
  · unfold jn at e
    split at e
    · exact .inl e
    · exact .inr (fresh _ a e)
  · simp [Hs.join, hr.len, hr'.len]; omega
  · unfold jn
    split
    · rename_i hlt; exact hr.dom n hlt
    · rename_i hlt; exact hr'.dom _ (by simp [Hs.join] at hn; omega)
  · unfold jn at e
    split at e
    · rename_i hlt; simp [Hs.join]; omega
    · rename_i hlt; have := hr'.dom' _ a e; simp [Hs.join]; omega
  · unfold jn at e1 e2
    split at e1 <;> split at e2
    · exact hr.inj i j a e1 e2
    · exact (apart _ _ a e1 e2).elim
    · exact (apart _ _ a e2 e1).elim
    · have := hr'.inj _ _ a e1 e2; omega
  · rw [get_jn hr.len hr'.len] at qo
    unfold jn at e
    split at e
    · rename_i hlt
      rw [if_pos hlt] at qo
      have r := hb.ob n a o e qo
      have le : ∀ n a, m n = some a → jn m m' h.n n = some a := fun n a e => by
        have := hr.dom' n a e
        unfold jn
        rw [if_pos this]; exact e
      exact r.mapW rfl (fun _ z => z) (fun _ _ z => .inl z) fun _ _ q => q.mono le fun _ _ _ z => z
    · rename_i hlt
      rw [if_neg hlt] at qo
      cases hg : h'.get (n - h.n) with
      | none => rw [hg] at qo; cases qo
      | some o' =>
        rw [hg] at qo
        cases qo
        exact (hr'.ob _ a o' e hg).shift fun i a e => by rw [jn_ge]; exact e
/-- what a def gives back, as an end of its body -/
def endsOf (Q : VK) : Ends := { nx := fun _ H' => Q .non H', rt := Q }
theorem ret_post {Qo : W → Hs → Prop} {Qe : Nat → W → Hs → Prop} : ∀ {r : R Fl}, (retOf r).post Qo Qe → r.post (fun f h => match f with | .nx _ => Qo .non h | .rt w => Qo w h | _ => False) Qe
  | .ok (.nx _) _, p => p
  | .ok (.rt _) _, p => p
  | .ok (.bk _) _, p => p.elim
  | .ok (.ct _) _, p => p.elim
  | .ex _ _ _, p => p
  | .no, p => p
  | .dr _ k, p => fun i hi => ret_post (r := k i) (p i hi)
theorem fl_of {f : Fl} (p : match f with | .nx _ => OkP K G m H Q .non h | .rt w => OkP K G m H Q w h | _ => False) : FlP K G m H (endsOf Q) f h := by
  intro m' H' s hr
  cases f with
  | nx v => exact fun σ _ => p m' H' .non s hr .non
  | rt w => exact fun x q => p m' H' x s hr q
  | bk v => exact p.elim
  | ct v => exact p.elim
theorem exE_pure {c : Nat} {w : W} (hw : w.pure = true) (p : ExE K G E c w m H) : ExE K G E c w m' H := by
  unfold ExE at p ⊢
  split at p
  · exact p
  · exact fun d v hd q => p d v hd (q.ofPure (fun _ _ _ z => z) hw)
  · exact p
theorem out_post (hr : HR K G m h H) : ∀ {r : R W}, (outOf h r).post (OkP K G m H Q) (ExP K G E m H) → r.post (OkP K G m0 H Q) (ExP K G E m0 H)
  | .ok w h', p => by
    intro m' H' x s hr' q
    simp only [outOf] at p
    split at p
    · rename_i hw
      exact p m H' x (stp0 hr s) (hr_back hr s hr'.tab) (q.ofPure (fun _ _ _ z => z) hw)
    · obtain ⟨s2, hr2, q2⟩ := jn_run hr s hr' q
      exact p _ _ _ s2 hr2 q2
  | .ex c w h', p => by
    simp only [outOf] at p
    split at p
    · rename_i hw
      intro m' H' s hr'
      exact exE_pure hw (p m H' (stp0 hr s) (hr_back hr s hr'.tab))
    · exact p.elim
  | .no, p => p
  | .dr _ k, p => fun i hi => out_post hr (r := k i) (p i hi)
/-- the frame at the entry -/
theorem fr_start {N : List Str} {ws : List W} {vs : List V} {k : Nat} (rs : RWs K m H ws vs) (hk : ws.length + k = N.length) : FR K m H (ws.map some ++ List.replicate k none) (L2.start N vs) := by
  have hl := rs.length
  refine ⟨by unfold L2.start; simp; omega, fun i w e => ?_⟩
  unfold L2.start
  by_cases hi : i < ws.length
  · rw [List.getElem?_append_left (by simpa using hi), List.getElem?_map] at e
    cases hw : ws[i]? with
    | none => rw [hw] at e; cases e
    | some w' =>
      rw [hw] at e
      cases e
      obtain ⟨x, hx, q⟩ := rs.get hw
      exact ⟨x, by rw [List.getElem?_append_left (by simp; omega), List.getElem?_map, hx]; rfl, q⟩
  · rw [List.getElem?_append_right (by simpa using hi), List.getElem?_replicate] at e
    split at e <;> cases e
end
/-- a def's run, at its entry -/
theorem body_run {K : PySem.W.Frag} {G : Gl0} {E : XK} {P : Pg} {Cl : GS.Cl} {F : FnI} {N : List Str} {vs : List V} {H : Hp} {Q : VK} (hst : F.star = false) (hnp : F.np ≤ N.length) (hns : F.ns = N.length) {m : Mp} {h : Hs} {ws : List W} (hr : HR K G m h H) (rs : RWs K m H ws vs) (p : (runF P Cl F ws h).post (OkP K G m H Q) (ExP K G E m H)) :
    vs.length = F.np ∧ TRS K G E (rSs Cl P.fuel F.body) (endsOf Q) (L2.start N vs) H := by
  unfold runF at p
  split at p
  · rename_i v hv
    unfold bindW at hv
    rw [if_neg (by rw [hst]; decide)] at hv
    split at hv
    · rename_i hl
      cases hv
      refine ⟨by rw [← rs.length]; exact hl, ?_⟩
      have key : ∀ {m2 : Mp} {h2 : Hs}, HR K G m2 h2 H → RWs K m2 H ws vs → (retOf (rSs Cl P.fuel F.body (ws.map some ++ List.replicate (F.ns - F.np) none) h2)).post (OkP K G m2 H Q) (ExP K G E m2 H) → TRS K G E (rSs Cl P.fuel F.body) (endsOf Q) (L2.start N vs) H := fun {m2 h2} hr2 rs2 p2 =>
        ⟨m2, _, h2, fr_start rs2 (by omega), hr2, post_mono (fun f h3 p3 => fl_of p3) (fun _ _ _ z => z) (ret_post p2)⟩
      split at p
      · rename_i hp
        exact key (hr0 hr) (rs.ofPure (fun _ _ _ z => z) hp) (out_post hr p)
      · exact key hr rs p
    · cases hv
  · exact p.elim
end GS
-- GsEv18
namespace GS
open PySem PySem.Spec PyProof.Rows L2

def ixOf (x : Str) : (N : List Str) → Option {i : Nat // N[i]? = some x}
  | [] => none
  | y :: r => if h : y = x then some ⟨0, by rw [h]; rfl⟩ else (match ixOf x r with
    | some ⟨i, p⟩ => some ⟨i + 1, by rw [List.getElem?_cons_succ]; exact p⟩
    | none => none)
def visB (sc : Scope) (x : Str) : Bool := match sc.names.lookup x with
  | some .local => true
  | some .cell => true
  | some .free => true
  | _ => false
theorem visB_ok {sc : Scope} {x : Str} (h : visB sc x = true) : Vis sc x := by
  unfold visB at h
  unfold Vis
  split at h <;> first
    | (rename_i e; rw [e]; simp; done)
    | cases h
def glB (C : Cc) (x : Str) : Bool := decide (C.sc.names.lookup x = some .globalImplicit) && okNm x
def isBlt : Option Dc → Bool
  | some .blt => true
  | _ => false
theorem isBlt_ok {d : Option Dc} (h : isBlt d = true) : d = some .blt := by
  unfold isBlt at h
  split at h <;> first
    | rfl
    | cases h
def bltB (C : Cc) (x : Str) : Bool := glB C x && isBlt (C.D.lookup x)
theorem glB_ok {C : Cc} {x : Str} {d : Dc} (h : glB C x = true) (e : C.D.lookup x = some d) : GlD C x d := by
  unfold glB at h
  rw [Bool.and_eq_true] at h
  exact ⟨of_decide_eq_true h.1, e, h.2⟩
theorem bltB_ok {C : Cc} {x : Str} (h : bltB C x = true) : Blt C x := by
  unfold bltB at h
  rw [Bool.and_eq_true] at h
  exact glB_ok h.1 (isBlt_ok h.2)
def biFind (x : Str) : List Bi → Option {b : Bi // b.plain = true ∧ b.nm = x}
  | [] => none
  | b :: r => if h : b.plain = true ∧ b.nm = x then some ⟨b, h⟩ else biFind x r
def bis (two : Bool) : List Bi := [.len, .abs, .all, .any, .sum, .sorted, .tuple, .list, .int, .str, if two then .max2 else .max, if two then .min2 else .min]
def meFind (x : Str) : List Me → Option {b : Me // b.nm = x}
  | [] => none
  | b :: r => if h : b.nm = x then some ⟨b, h⟩ else meFind x r
def smFind (x : Str) : List Sm → Option {b : Sm // b.nm = x}
  | [] => none
  | b :: r => if h : b.nm = x then some ⟨b, h⟩ else smFind x r
def tyFind (x : Str) : List Ty → Option {b : Ty // b.nm = x}
  | [] => none
  | b :: r => if h : b.nm = x then some ⟨b, h⟩ else tyFind x r
abbrev O1 (P : Pg) (C : Cc) (e : Expr) := Option {x : Ex // CE P C e x}
def cG1 (C : Cc) : (e : Expr) → Option {i : Nat // CG1 C e i}
  | .Name x _ => (match ixOf x C.N with
    | some ⟨i, hi⟩ => if h : C.sc.names.lookup x = some .local ∨ (C.sc.names.lookup x = some .cell ∧ C.top x = true) then some ⟨i, .mk hi h⟩ else none
    | none => none)
  | _ => none
def cGs (C : Cc) : (es : List Expr) → Option {is : List Nat // CGs C es is}
  | [] => some ⟨[], .nil⟩
  | e :: es => (match cG1 C e, cGs C es with
    | some ⟨i, h⟩, some ⟨is, hs⟩ => some ⟨i :: is, .cons h hs⟩
    | _, _ => none)
def cG (C : Cc) : (e : Expr) → Option {t : Tg // CG C e t}
  | .Tuple es _ _ => (match cGs C es with
    | some ⟨is, h⟩ => some ⟨.many is, .many h⟩
    | none => none)
  | e => (match cG1 C e with
    | some ⟨i, h⟩ => some ⟨.one i, .one h⟩
    | none => none)
/-- the names of a target -/
def tgNames : Expr → List Str
  | .Name x _ => [x]
  | .Tuple es _ _ => es.filterMap fun
    | .Name x _ => some x
    | _ => none
  | _ => []
def ownOf (N : List Str) (xs : List Str) : List (Str × Nat) := xs.eraseDups.filterMap fun x => (ixOf x N).map fun i => (x, i.1)
def cBin (P : Pg) {C : Cc} {a b : Expr} {pos : Pos} (o : BOp) (x : O1 P C a) (y : O1 P C b) : O1 P C (.BinOp a o.op b pos) := match x, y with
  | some ⟨x, hx⟩, some ⟨y, hy⟩ => some ⟨.bin o x y, .bin hx hy⟩
  | _, _ => none
def cCmp (P : Pg) {C : Cc} {a b : Expr} {pos : Pos} (o : COp) (x : O1 P C a) (y : O1 P C b) : O1 P C (.Compare a [o.op] [b] pos) := match x, y with
  | some ⟨x, hx⟩, some ⟨y, hy⟩ => if h : isSet b = false then some ⟨.cmp o x y, .cmp h hx hy⟩ else none
  | _, _ => none
def cCmp2 (P : Pg) {C : Cc} {a b c : Expr} {pos : Pos} (o o' : COp) (x : O1 P C a) (y : O1 P C b) (z : O1 P C c) : O1 P C (.Compare a [o.op, o'.op] [b, c] pos) := match x, y, z with
  | some ⟨x, hx⟩, some ⟨y, hy⟩, some ⟨z, hz⟩ => if h : isSet c = false then some ⟨.cmp2 o o' x y z, .cmp2 h hx hy hz⟩ else none
  | _, _, _ => none
def copOf : (o : CmpOp) → {c : COp // c.op = o}
  | .Eq => ⟨.eq, rfl⟩ | .NotEq => ⟨.ne, rfl⟩ | .Lt => ⟨.lt, rfl⟩ | .LtE => ⟨.le, rfl⟩ | .Gt => ⟨.gt, rfl⟩ | .GtE => ⟨.ge, rfl⟩ | .In => ⟨.isIn, rfl⟩ | .NotIn => ⟨.notIn, rfl⟩ | .Is => ⟨.is, rfl⟩ | .IsNot => ⟨.isNot, rfl⟩
def ownIx (N : List Str) (y : Str) : List Nat := match ixOf y N with
  | some ⟨i, _⟩ => [i]
  | none => []
def ownOk (N : List Str) (y : Str) : Bool := (List.range N.length).all fun i => !decide (N[i]? = some y) || (ownIx N y).contains i
theorem ownOk_ok {N : List Str} {y : Str} (h : ownOk N y = true) : ∀ i, N[i]? = some y → i ∈ ownIx N y := fun i e => by
  have hi : i < N.length := (List.getElem?_eq_some_iff.mp e).1
  have z := List.all_eq_true.mp h i (List.mem_range.mpr hi)
  rw [Bool.or_eq_true] at z
  rcases z with z | z
  · simp [e] at z
  · simpa using z
mutual
def cE (P : Pg) : Nat → (C : Cc) → (e : Expr) → O1 P C e
  | 0, _, _ => none
  | n + 1, C, e => match e with
    | .Name x _ => (match ixOf x C.N with
      | some ⟨i, hi⟩ => if h : visB C.sc x = true ∧ okNm x = true then some ⟨.var i, .var hi (visB_ok h.1) h.2⟩ else none
      | none => (match hd : C.D.lookup x with
        | some (.cst w) => if h : glB C x = true then some ⟨.cst w, .glo (glB_ok h hd)⟩ else none
        | _ => none))
    | .Constant (.int i) _ _ => some ⟨_, .int⟩
    | .Constant (.bool b) _ _ => some ⟨_, .bl⟩
    | .Constant .none _ _ => some ⟨_, .non⟩
    | .Constant (.str x) _ _ => some ⟨_, .str⟩
    | .Tuple es _ _ => (match cEs P n C es with
      | some ⟨xs, h⟩ => some ⟨.tup xs, .tup h⟩
      | none => none)
    | .List es _ => (match cEs P n C es with
      | some ⟨xs, h⟩ => some ⟨.lst xs, .lst h⟩
      | none => none)
    | .BinOp a op b _ => (match op with
      | .Add => cBin P .add (cE P n C a) (cE P n C b)
      | .Sub => cBin P .sub (cE P n C a) (cE P n C b)
      | .Mult => cBin P .mul (cE P n C a) (cE P n C b)
      | .FloorDiv => cBin P .fdiv (cE P n C a) (cE P n C b)
      | .Mod => cBin P .mod (cE P n C a) (cE P n C b)
      | .Pow => cBin P .pow (cE P n C a) (cE P n C b)
      | _ => none)
    | .UnaryOp .USub a _ => (match cE P n C a with
      | some ⟨x, h⟩ => some ⟨.neg x, .neg h⟩
      | none => none)
    | .UnaryOp .Not a _ => (match cE P n C a with
      | some ⟨x, h⟩ => if ht : testOk a = true then some ⟨.nt x, .nt ht h⟩ else none
      | none => none)
    | .Compare a [op] [b] pos => (match copOf op with
      | ⟨o, ho⟩ => ho ▸ cCmp P o (cE P n C a) (cE P n C b))
    | .Compare a [op, op'] [b, c] pos => (match copOf op, copOf op' with
      | ⟨o, ho⟩, ⟨o', ho'⟩ => ho ▸ ho' ▸ cCmp2 P o o' (cE P n C a) (cE P n C b) (cE P n C c))
    | .BoolOp .And [a, b] _ => (match cE P n C a, cE P n C b with
      | some ⟨x, hx⟩, some ⟨y, hy⟩ => if h : testOk a = true ∧ testOk b = true then some ⟨.and x y, .and2 h.1 h.2 hx hy⟩ else none
      | _, _ => none)
    | .BoolOp .And (a :: b :: c :: r) pos => (match cE P n C a, cE P n C (.BoolOp .And (b :: c :: r) pos) with
      | some ⟨x, hx⟩, some ⟨y, hy⟩ => if h : testOk a = true then some ⟨.and x y, .andN h hx hy⟩ else none
      | _, _ => none)
    | .BoolOp .Or [a, b] _ => (match cE P n C a, cE P n C b with
      | some ⟨x, hx⟩, some ⟨y, hy⟩ => if h : testOk a = true ∧ testOk b = true then some ⟨.or x y, .or2 h.1 h.2 hx hy⟩ else none
      | _, _ => none)
    | .BoolOp .Or (a :: b :: c :: r) pos => (match cE P n C a, cE P n C (.BoolOp .Or (b :: c :: r) pos) with
      | some ⟨x, hx⟩, some ⟨y, hy⟩ => if h : testOk a = true then some ⟨.or x y, .orN h hx hy⟩ else none
      | _, _ => none)
    | .IfExp c a b _ => (match cE P n C c, cE P n C a, cE P n C b with
      | some ⟨z, hz⟩, some ⟨x, hx⟩, some ⟨y, hy⟩ => if h : testOk c = true then some ⟨.ite z x y, .ite h hz hx hy⟩ else none
      | _, _, _ => none)
    | .Subscript a (.Slice lo hi none _) _ => (match cE P n C a, cO P n C lo, cO P n C hi with
      | some ⟨x, hx⟩, some ⟨l, hl⟩, some ⟨u, hu⟩ => some ⟨.sl x l u, .sl hx hl hu⟩
      | _, _, _ => none)
    | .Subscript a b _ => (match cE P n C a, cE P n C b with
      | some ⟨x, hx⟩, some ⟨y, hy⟩ => if h : plainIx b = true then some ⟨.ix x y, .ix h hx hy⟩ else none
      | _, _ => none)
    | .Attribute o f _ => (match cE P n C o with
      | some ⟨x, hx⟩ => if hb : basOk o = true then (match hd : C.D.lookup (atK f) with
        | some (.slt c i) => some ⟨.att c i x, .att hd hb hx⟩
        | some (.prp c g) => some ⟨.prp c g x, .prp hd hb hx⟩
        | _ => none) else none
      | none => none)
    | .Dict [] [] _ => some ⟨.dnew, .dnew⟩
    | .JoinedStr (e1 :: e2 :: es) _ => if h : es.length ≤ 98 then (match cPs P n C (e1 :: e2 :: es) with
      | some ⟨xs, hx⟩ => some ⟨.fst xs, .fst hx h⟩
      | none => none) else none
    | .ListComp elt [⟨tg, iter, ifs, 0⟩] scope _ => (match cI P n C tg iter, cG (C.blk scope) tg, cT P n (C.blk scope) ifs, cE P n (C.blk scope) elt with
      | some ⟨it, hi⟩, some ⟨t, hg⟩, some ⟨cs, hc⟩, some ⟨x, hx⟩ =>
        if h : blkC C.N C.sc scope (ownOf C.N (tgNames tg)) = true ∧ (tgIx t).all (fun i => ((ownOf C.N (tgNames tg)).map (·.2)).contains i) = true ∧ isSet iter = false then
          some ⟨_, .lc (blkOk_by h.1) h.2.1 h.2.2 hi hg hc hx⟩
        else none
      | _, _, _, _ => none)
    | .ListComp elt [⟨tg, iter, ifs, 0⟩, ⟨tg1, iter1, ifs1, 0⟩] scope _ => (match cI P n C tg iter, cG (C.blk scope) tg, cT P n (C.blk scope) ifs, cI P n (C.blk scope) tg1 iter1, cG (C.blk scope) tg1, cT P n (C.blk scope) ifs1, cE P n (C.blk scope) elt with
      | some ⟨it, hi⟩, some ⟨t, hg⟩, some ⟨cs, hc⟩, some ⟨it1, hi1⟩, some ⟨t1, hg1⟩, some ⟨cs1, hc1⟩, some ⟨x, hx⟩ =>
        if h : blkC C.N C.sc scope (ownOf C.N (tgNames tg ++ tgNames tg1)) = true ∧ (tgIx t).all (fun i => ((ownOf C.N (tgNames tg ++ tgNames tg1)).map (·.2)).contains i) = true ∧ (tgIx t1).all (fun i => (tgIx t1).contains i) = true ∧
            (tgIx t1).all (fun i => ((ownOf C.N (tgNames tg ++ tgNames tg1)).map (·.2)).contains i) = true ∧ isSet iter = false ∧ isSet iter1 = false then
          some ⟨_, .lc2 (own1 := tgIx t1) (blkOk_by h.1) h.2.1 h.2.2.1 h.2.2.2.1 h.2.2.2.2.1 h.2.2.2.2.2 hi hg hc hi1 hg1 hc1 hx⟩
        else none
      | _, _, _, _, _, _, _ => none)
    | .Call (.Name x _) [.Lambda ⟨[], [], none, [], [], none, []⟩ body scope _] [] _ => if h : C.met = some x ∧ LamX.lamSB C.sc scope = true then (match cE P n (C.lam scope) body with
      | some ⟨e, he⟩ => some ⟨.met e, .met h.1 h.2 he⟩
      | none => none) else none
    | .Call (.Name x _) [.Lambda ⟨[], [⟨y, _, _⟩], none, [], [], none, [.Constant (.int _) _ _]⟩ body scope _] [] _ => if h : C.met = some x ∧ lamDB C.sc scope y = true ∧ ownOk C.N y = true then (match cE P n (C.lam scope) body with
      | some ⟨e, he⟩ => some ⟨.metD (ownIx C.N y) e, .metD h.1 h.2.1 (ownOk_ok h.2.2) he⟩
      | none => none) else none
    | .Call (.Name x p) [.Call (.Name y p2) (e :: es) [] pos2] [] pos =>
      if h : x = "list" ∧ y = "range" ∧ bltB C "list" = true ∧ bltB C "range" = true ∧ (e :: es).all noStar = true ∧ es.length ≤ 1 then (match cEs P n C (e :: es) with
        | some ⟨xs, hx⟩ => some ⟨.bi .listRange xs, by obtain ⟨rfl, rfl, h1, h2, h3, h4⟩ := h; exact .listRange (bltB_ok h1) (bltB_ok h2) h3 h4 hx⟩
        | none => none)
      else if h : x = "tuple" ∧ y = "range" ∧ bltB C "tuple" = true ∧ bltB C "range" = true ∧ (e :: es).all noStar = true ∧ es.length ≤ 1 then (match cEs P n C (e :: es) with
        | some ⟨xs, hx⟩ => some ⟨.bi .tupRange xs, by obtain ⟨rfl, rfl, h1, h2, h3, h4⟩ := h; exact .tupRange (bltB_ok h1) (bltB_ok h2) h3 h4 hx⟩
        | none => none)
      else if hr : x = "repr" then (if hrp : bltB C "repr" = true ∧ C.g = true then (match cE P n C (.Call (.Name y p2) (e :: es) [] pos2) with
        | some ⟨y, hy⟩ => some ⟨.rp y, by subst hr; exact .rp (bltB_ok hrp.1) hrp.2 rfl hy⟩
        | none => none) else none)
      else cCall P n C x p (.Call (.Name y p2) (e :: es) [] pos2) [] pos
    | .Call (.Name x p) [.DictComp kx (.Constant (.bool true) j q) [⟨tg, iter, [], 0⟩] scope pos2] [] pos => (match cI P n C tg iter, cG (C.blk scope) tg, cE P n (C.blk scope) kx with
      | some ⟨it, hi⟩, some ⟨t, hg⟩, some ⟨k, hk⟩ =>
        if h : blkC C.N C.sc scope (ownOf C.N (tgNames tg)) = true ∧ (tgIx t).all (fun i => ((ownOf C.N (tgNames tg)).map (·.2)).contains i) = true ∧ isSet iter = false then
          (if h1 : x = "sorted" ∧ bltB C "sorted" = true then some ⟨.dc true k t it ((ownOf C.N (tgNames tg)).map (·.2)), by obtain ⟨rfl, h2⟩ := h1; exact .dcS (bltB_ok h2) (blkOk_by h.1) h.2.1 h.2.2 hi hg hk⟩
          else if h1 : x = "len" ∧ bltB C "len" = true then some ⟨.dc false k t it ((ownOf C.N (tgNames tg)).map (·.2)), by obtain ⟨rfl, h2⟩ := h1; exact .dcL (bltB_ok h2) (blkOk_by h.1) h.2.1 h.2.2 hi hg hk⟩
          else none)
        else none
      | _, _, _ => none)
    | .Call (.Name x p) [e] [] pos => if hr : x = "repr" then (if h : bltB C "repr" = true ∧ C.g = true ∧ noStar e = true then (match cE P n C e with
        | some ⟨y, hy⟩ => some ⟨.rp y, by subst hr; exact .rp (bltB_ok h.1) h.2.1 h.2.2 hy⟩
        | none => none) else none) else cCall P n C x p e [] pos
    | .Call (.Name x p) (e :: es) [] pos => cCall P n C x p e es pos
    | .Call (.Attribute (.Tuple ts _ _) nm apos) [e] [] pos =>
      if h : nm = "index" ∧ (apos.endLine == pos.line) = true ∧ noStar e = true then (match cEs P n C ts, cE P n C e with
        | some ⟨xs, hx⟩, some ⟨y, hy⟩ => some ⟨.tix xs y, by obtain ⟨rfl, h1, h2⟩ := h; exact .tix h1 h2 hx hy⟩
        | _, _ => none)
      else none
    | .Call (.Attribute o "index" apos) [e] [] pos => (match cE P n C o, cE P n C e with
      | some ⟨x, hx⟩, some ⟨y, hy⟩ => if h : basOk o = true ∧ (apos.endLine == pos.line) = true ∧ noStar e = true then some ⟨.tixv x y, .tixv h.1 h.2.1 h.2.2 hx hy⟩ else none
      | _, _ => none)
    | .Call (.Attribute o nm apos) (e :: es) [] pos => (match meFind nm [.append, .extend, .pop], cE P n C o, cEs P n C (e :: es) with
      | some ⟨m, hm⟩, some ⟨x, hx⟩, some ⟨xs, hxs⟩ => if h : basOk o = true ∧ (apos.endLine == pos.line) = true ∧ (e :: es).all noStar = true ∧ es.length < 20 then some ⟨.me m x xs, by subst hm; exact .me h.1 h.2.1 h.2.2.1 h.2.2.2 hx hxs⟩ else none
      | none, some ⟨x, hx⟩, some ⟨xs, hxs⟩ => if h : basOk o = true ∧ (apos.endLine == pos.line) = true ∧ (e :: es).all noStar = true ∧ es.length < 20 then (match hd : C.D.lookup (atK nm) with
        | some (.mth c g) => some ⟨.mth c g x xs, .mth hd h.1 h.2.1 h.2.2.1 h.2.2.2 hx hxs⟩
        | _ => (match smFind nm [.split, .partition, .join], es, cE P n C e with
          | some ⟨m, hm⟩, [], some ⟨y, hy⟩ => if hns : noStar e = true then some ⟨.sm m x (.cons y .nil), by subst hm; exact .sm h.1 h.2.1 hns hx hy⟩ else none
          | _, _, _ => none)) else none
      | _, _, _ => none)
    | .Call (.Attribute o nm apos) [] [] pos => (match meFind nm [.append, .extend, .pop], cE P n C o with
      | some ⟨m, hm⟩, some ⟨x, hx⟩ => if h : basOk o = true ∧ (apos.endLine == pos.line) = true then some ⟨.me m x .nil, by subst hm; exact .me0 h.1 h.2 hx⟩ else none
      | none, some ⟨x, hx⟩ => if h : basOk o = true ∧ (apos.endLine == pos.line) = true then (match hd : C.D.lookup (atK nm) with
        | some (.mth c g) => some ⟨.mth c g x .nil, .mth0 hd h.1 h.2 hx⟩
        | some (.mtk c g k w) => some ⟨.mth c g x (.cons (.cst w) .nil), .mthK0 hd h.1 h.2 hx⟩
        | _ => none) else none
      | _, _ => none)
    | .Call (.Attribute o nm apos) [] [⟨some k, e, _⟩] pos => (match cE P n C o, cE P n C e with
      | some ⟨x, hx⟩, some ⟨y, hy⟩ => if h : basOk o = true ∧ (apos.endLine == pos.line) = true then (match hd : C.D.lookup (atK nm) with
        | some (.mtk c g k' w) => if hk : k' = k then some ⟨.mth c g x (.cons y .nil), by subst hk; exact .mthK hd h.1 h.2 hx hy⟩ else none
        | _ => none) else none
      | _, _ => none)
    | .Call (.Call a b c d) (e :: es) [] pos => (match hc : C.D.lookup (atK "__call__"), cE P n C (.Call a b c d), cEs P n C (e :: es) with
      | some (.mth k g), some ⟨y, hy⟩, some ⟨xs, hxs⟩ => if hns : (e :: es).all noStar = true then some ⟨.icall k g y xs, .icall hc rfl hns hy hxs⟩ else none
      | _, _, _ => none)
    | _ => none
def cCall (P : Pg) : Nat → (C : Cc) → (x : Str) → (p : Pos) → (e : Expr) → (es : List Expr) → (pos : Pos) → O1 P C (.Call (.Name x p) (e :: es) [] pos)
  | 0, _, _, _, _, _, _ => none
  | n + 1, C, x, p, e, es, pos => if hns : (e :: es).all noStar = true then (match hd : C.D.lookup x with
    | some (.fn f) => if h : glB C x = true ∧ (P.hot f = true → C.g = true) then (match cEs P n C (e :: es) with
      | some ⟨xs, hx⟩ => some ⟨.call f xs, .call (glB_ok h.1 hd) h.2 hns hx⟩
      | none => none) else none
    | some (.icl c f) => if h : glB C x = true then (match cEs P n C (e :: es) with
      | some ⟨xs, hx⟩ => some ⟨.mk c f xs, .mk (glB_ok h hd) hns hx⟩
      | none => none) else none
    | some .blt => if hb : bltB C x = true then
        (if hx : x = "isinstance" then (match es with
          | [.Name y p2] => (match tyFind y [.int, .bool, .str, .tuple], cE P n C e with
            | some ⟨t, ht⟩, some ⟨z, hz⟩ => if h2 : bltB C t.nm = true ∧ noStar e = true then some ⟨.isa z t, by subst hx; subst ht; exact .isa (bltB_ok hb) (bltB_ok h2.1) h2.2 hz⟩ else none
            | _, _ => none)
          | _ => none)
        else (match biFind x (bis (es.length == 1)), cEs P n C (e :: es) with
          | some ⟨b, hp, hn⟩, some ⟨xs, hxs⟩ => some ⟨.bi b xs, by subst hn; exact .bi hp (bltB_ok hb) hns hxs⟩
          | _, _ => none))
      else none
    | _ => (match hc : C.D.lookup (atK "__call__"), cE P n C (.Name x p), cEs P n C (e :: es) with
      | some (.mth c g), some ⟨y, hy⟩, some ⟨xs, hxs⟩ => some ⟨.icall c g y xs, .icall hc rfl hns hy hxs⟩
      | _, _, _ => none))
    else none
def cPs (P : Pg) : Nat → (C : Cc) → (es : List Expr) → Option {x : Exs // CPs P C es x}
  | 0, _, _ => none
  | n + 1, C, es => match es with
    | [] => some ⟨.nil, .nil⟩
    | .Constant (.str t) _ _ :: es => if h : t.length ≤ 100000 then (match cPs P n C es with
      | some ⟨xs, hx⟩ => some ⟨.cons (.cst (.str t)) xs, .cst h hx⟩
      | none => none) else none
    | .FormattedValue e (-1) none _ :: es => (match cE P n C e, cPs P n C es with
      | some ⟨x, hx⟩, some ⟨xs, hxs⟩ => some ⟨.cons (.fmtE x) xs, .fmt hx hxs⟩
      | _, _ => none)
    | _ => none
def cEs (P : Pg) : Nat → (C : Cc) → (es : List Expr) → Option {x : Exs // CEs P C es x}
  | 0, _, _ => none
  | n + 1, C, es => match es with
    | [] => some ⟨.nil, .nil⟩
    | .Starred e _ :: es => (match cE P n C e, cEs P n C es with
      | some ⟨x, hx⟩, some ⟨xs, hxs⟩ => some ⟨.star x xs, .star hx hxs⟩
      | _, _ => none)
    | e :: es => (match cE P n C e, cEs P n C es with
      | some ⟨x, hx⟩, some ⟨xs, hxs⟩ => if h : noStar e = true then some ⟨.cons x xs, .cons h hx hxs⟩ else none
      | _, _ => none)
def cO (P : Pg) : Nat → (C : Cc) → (e : Option Expr) → Option {x : Exs // CO P C e x}
  | 0, _, _ => none
  | n + 1, C, e => match e with
    | none => some ⟨.nil, .none⟩
    | some e => (match cE P n C e with
      | some ⟨x, hx⟩ => some ⟨.cons x .nil, .some hx⟩
      | none => none)
def cI (P : Pg) : Nat → (C : Cc) → (tg e : Expr) → Option {x : It // CI P C tg e x}
  | 0, _, _, _ => none
  | n + 1, C, tg, e =>
    let dflt : Option {x : It // CI P C tg e x} := match cE P n C e with
      | some ⟨x, hx⟩ => some ⟨.seq x, .seq hx⟩
      | none => none
    match tg, e, dflt with
    | tg, .Call (.Name x p) (e :: es) [] pos, dflt =>
      if h : x = "range" ∧ bltB C "range" = true ∧ (e :: es).all noStar = true ∧ es.length ≤ 1 then (match cEs P n C (e :: es) with
        | some ⟨xs, hx⟩ => some ⟨.rng xs, by obtain ⟨rfl, h1, h2, h3⟩ := h; exact .rng (bltB_ok h1) h2 h3 hx⟩
        | none => none)
      else (match tg, es, dflt with
        | .Tuple elts kk tpos, [], dflt => if h : x = "enumerate" ∧ bltB C "enumerate" = true ∧ noStar e = true then (match cE P n C e with
            | some ⟨y, hy⟩ => some ⟨.enm y, by obtain ⟨rfl, h1, h2⟩ := h; exact .enm (bltB_ok h1) h2 hy⟩
            | none => none)
          else dflt
        | .Tuple elts kk tpos, [b], dflt => if h : x = "zip" ∧ bltB C "zip" = true ∧ noStar e = true ∧ noStar b = true then (match cE P n C e, cE P n C b with
            | some ⟨y, hy⟩, some ⟨z, hz⟩ => some ⟨.zip y z, by obtain ⟨rfl, h1, h2, h3⟩ := h; exact .zip (bltB_ok h1) h2 h3 hy hz⟩
            | _, _ => none)
          else dflt
        | _, _, dflt => dflt)
    | _, _, dflt => dflt
def cT (P : Pg) : Nat → (C : Cc) → (es : List Expr) → Option {x : Exs // CT P C es x}
  | 0, _, _ => none
  | n + 1, C, es => match es with
    | [] => some ⟨.nil, .nil⟩
    | [e] => (match cE P n C e with
      | some ⟨x, hx⟩ => if h : testOk e = true then some ⟨.cons x .nil, .one h hx⟩ else none
      | none => none)
    | _ => none
end
-- GsEv18
def cA (P : Pg) (n : Nat) (C : Cc) : (e : Expr) → Option {a : At // CA P C e a}
  | .Subscript o i _ => (match cE P n C o, cE P n C i with
    | some ⟨x, hx⟩, some ⟨y, hy⟩ => if h : plainIx i = true then some ⟨.ix x y, .ix h hx hy⟩ else none
    | _, _ => none)
  | e => (match cG1 C e with
    | some ⟨i, h⟩ => some ⟨.nm i, .nm h⟩
    | none => none)
def cAs (P : Pg) (n : Nat) (C : Cc) : (es : List Expr) → Option {a : List At // CAs P C es a}
  | [] => some ⟨[], .nil⟩
  | e :: es => (match cA P n C e, cAs P n C es with
    | some ⟨a, h⟩, some ⟨as, hs⟩ => some ⟨a :: as, .cons h hs⟩
    | _, _ => none)
def lclOf (C : Cc) (x : Str) : Option {i : Nat // Lcl C x i} := match ixOf x C.N with
  | some ⟨i, hi⟩ => if h : C.sc.names.lookup x = some .local then some ⟨i, hi, h⟩ else none
  | none => none
abbrev S1 (P : Pg) (C : Cc) (s : Stmt) := Option {x : St // CS P C s x}
def cTup (P : Pg) (n : Nat) (C : Cc) (es : List Expr) (e : Expr) (k : Nat) (p pos : Pos) : S1 P C (.Assign [.Tuple es k p] e pos) := match cE P n C e with
  | some ⟨y, hy⟩ => (match cGs C es with
    | some ⟨is, hi⟩ => if h : isTuple e = false ∨ 3 < es.length ∨ es.any (notLcl C.sc) = true then some ⟨.setT is y, .setT hi h hy⟩ else none
    | none => (match cAs P n C es with
      | some ⟨as, ha⟩ => if h : isTuple e = false then some ⟨.asg as y, .asg ha h hy⟩ else none
      | none => none))
  | none => none
def cAug (P : Pg) {C : Cc} {x : Str} {e : Expr} {p pos : Pos} (o : BOp) (i : Option {i : Nat // CG1 C (.Name x p) i}) (y : O1 P C e) : S1 P C (.AugAssign (.Name x p) o.op e pos) := match i, y with
  | some ⟨i, hi⟩, some ⟨y, hy⟩ => some ⟨.aug o i y, .aug hi hy⟩
  | _, _ => none
mutual
def cS (P : Pg) : Nat → (C : Cc) → (s : Stmt) → S1 P C s
  | 0, _, _ => none
  | n + 1, C, s => match s with
    | .Assign [.Name x p] (.ListComp elt gs scope p2) pos => (match cE P n C (.ListComp elt gs scope p2) with
      | some ⟨y, hy⟩ => (match lclOf C x with
        | some ⟨i, hi⟩ => if h : (p.line == p2.line) = true ∧ (scope.names.any fun (n, k) => n == x && (k == .local || k == .cell)) = false ∧ isFork y = false then some ⟨.set i y, .setLc hi h.1 h.2.1 h.2.2 hy⟩ else none
        | none => (match cG1 C (.Name x p) with
          | some ⟨i, hi⟩ => if h : C.sc.names.lookup x = some .cell then some ⟨.set i y, .set hi (.inr h) hy⟩ else none
          | none => none))
      | none => none)
    | .Assign [.Name x p] e _ => (match cG1 C (.Name x p), cE P n C e with
      | some ⟨i, hi⟩, some ⟨y, hy⟩ => if h : isComp e = false then some ⟨.set i y, .set hi (.inl h) hy⟩ else none
      | _, _ => none)
    | .Assign [.Attribute o f _] e _ => (match hd : C.D.lookup (atK f), cE P n C o, cE P n C e with
      | some (.slt c i), some ⟨x, hx⟩, some ⟨y, hy⟩ => if h : isComp e = false then some ⟨.setA c i x y, .setA hd h hx hy⟩ else none
      | _, _, _ => none)
    | .Assign [.Subscript o i _] e _ => (match cE P n C o, cE P n C i, cE P n C e with
      | some ⟨x, hx⟩, some ⟨y, hy⟩, some ⟨z, hz⟩ => if h : plainIx i = true then some ⟨.setIx x y z, .setIx h hx hy hz⟩ else none
      | _, _, _ => none)
    | .Assign [.Tuple [.Name x px, .Name y py] k p] (.Tuple [a, b] k2 p2) pos => if [Expr.Name x px, .Name y py].any (notLcl C.sc) = true then cTup P n C [.Name x px, .Name y py] (.Tuple [a, b] k2 p2) k p pos else (match lclOf C x, lclOf C y, cEs P n C [a, b] with
      | some ⟨i, hi⟩, some ⟨j, hj⟩, some ⟨xs, hx⟩ => if h : i ≠ j ∧ (py.line == px.line) = true ∧ ([x, y].eraseDups.length == 2) = true ∧ [a, b].all noStar = true ∧ [a, b].all (foldedForSure 8) = false ∧ [a, b].all (constantsAlone 8) = false then
          some ⟨.par [i, j] xs, .par2 hi hj h.1 h.2.1 h.2.2.1 h.2.2.2.1 h.2.2.2.2.1 h.2.2.2.2.2 hx⟩ else none
      | _, _, _ => none)
    | .Assign [.Tuple [.Name x px, .Name y py, .Name z pz] k p] (.Tuple [a, b, c] k2 p2) pos => if [Expr.Name x px, .Name y py, .Name z pz].any (notLcl C.sc) = true then cTup P n C [.Name x px, .Name y py, .Name z pz] (.Tuple [a, b, c] k2 p2) k p pos else (match lclOf C x, lclOf C y, lclOf C z, cEs P n C [a, b, c] with
      | some ⟨i, hi⟩, some ⟨j, hj⟩, some ⟨l, hl⟩, some ⟨xs, hx⟩ => if h : i ≠ j ∧ i ≠ l ∧ j ≠ l ∧ (py.line == px.line) = true ∧ (pz.line == px.line) = true ∧ ([x, y, z].eraseDups.length == 3) = true ∧ [a, b, c].all noStar = true ∧ [a, b, c].all (foldedForSure 8) = false ∧ [a, b, c].all (constantsAlone 8) = false then
          some ⟨.par [i, j, l] xs, .par3 hi hj hl h.1 h.2.1 h.2.2.1 h.2.2.2.1 h.2.2.2.2.1 h.2.2.2.2.2.1 h.2.2.2.2.2.2.1 h.2.2.2.2.2.2.2.1 h.2.2.2.2.2.2.2.2 hx⟩ else none
      | _, _, _, _ => none)
    | .Assign [.Tuple es k p] e pos => cTup P n C es e k p pos
    | .AugAssign (.Name x p) op e _ => (match op with
      | .Add => cAug P .add (cG1 C (.Name x p)) (cE P n C e)
      | .Sub => cAug P .sub (cG1 C (.Name x p)) (cE P n C e)
      | .Mult => cAug P .mul (cG1 C (.Name x p)) (cE P n C e)
      | .FloorDiv => cAug P .fdiv (cG1 C (.Name x p)) (cE P n C e)
      | .Mod => cAug P .mod (cG1 C (.Name x p)) (cE P n C e)
      | _ => none)
    | .Expr e _ => (match cE P n C e with
      | some ⟨x, hx⟩ => if h : isComp e = false then some ⟨.drop x, .drop h hx⟩ else none
      | none => none)
    | .Return (some e) _ => (match cE P n C e with
      | some ⟨x, hx⟩ => some ⟨.ret x, .ret hx⟩
      | none => none)
    | .Return none _ => some ⟨.retN, .retN⟩
    | .Pass _ => some ⟨.pass, .pass⟩
    | .Break _ => some ⟨.brk, .brk⟩
    | .Continue _ => some ⟨.cnt, .cnt⟩
    | .If c a b _ => (match cE P n C c, cSs P n C a, cSs P n C b with
      | some ⟨x, hx⟩, some ⟨y, hy⟩, some ⟨z, hz⟩ => if h : testOk c = true then some ⟨.ifS x y z, .ifS h hx hy hz⟩ else none
      | _, _, _ => none)
    | .While c b [] _ => (match cE P n C c, cSs P n C b with
      | some ⟨x, hx⟩, some ⟨y, hy⟩ => if h : testOk c = true then some ⟨.whl x y, .whl h hx hy⟩ else none
      | _, _ => none)
    | .For tg e b [] _ => (match cI P n C tg e, cG C tg, cSs P n C b with
      | some ⟨it, hi⟩, some ⟨t, ht⟩, some ⟨y, hy⟩ => if h : isSet e = false then some ⟨.for t it y, .for h hi ht hy⟩ else none
      | _, _, _ => none)
    | .Try body (_ :: _) [] [] _ => if hm : C.met = none then (match cSs P n C body with
      | some ⟨b, hb⟩ => some ⟨.tryN b, .tryN hm hb⟩
      | none => none) else none
    | .Raise (some (.Call (.Name x p) [.Constant (.str m) k p2] [] pos)) none rpos => (match hd : C.D.lookup x with
      | some (.clsT c) => if h : glB C x = true then some ⟨.rse c (.cst (.str m)), .rseT (glB_ok h hd)⟩ else none
      | some (.cls c) => if h : glB C x = true then some ⟨.rse c (.cst (.str m)), .rse (glB_ok h hd) rfl .str⟩ else none
      | _ => none)
    | .Raise (some (.Call (.Name x p) [e] [] pos)) none rpos => (match hd : C.D.lookup x, cE P n C e with
      | some (.cls c), some ⟨y, hy⟩ => if h : glB C x = true ∧ noStar e = true then some ⟨.rse c y, .rse (glB_ok h.1 hd) h.2 hy⟩ else none
      | _, _ => none)
    | _ => none
def cSs (P : Pg) : Nat → (C : Cc) → (s : List Stmt) → Option {x : Sts // CSs P C s x}
  | 0, _, _ => none
  | n + 1, C, s => match s with
    | [] => some ⟨.nil, .nil⟩
    | s :: ss => (match cS P n C s, cSs P n C ss with
      | some ⟨x, hx⟩, some ⟨xs, hxs⟩ => some ⟨.cons x xs, .cons hx hxs⟩
      | _, _ => none)
end
/-- the compiled body, checked -/
theorem cSs_ok {P : Pg} {n : Nat} {C : Cc} {s : List Stmt} {x : Sts} (h : (cSs P n C s).map (·.1) = some x) : CSs P C s x := by
  cases e : cSs P n C s with
  | none => rw [e] at h; cases h
  | some y =>
    rw [e] at h
    cases h
    exact y.2
end GS
set_option maxHeartbeats 4000000
-- GsUn
namespace GS
open PySem PySem.Spec PyProof.Rows L2
/-- around a constant it stays -/
def isK : Ex → Bool
  | .cst _ => true
  | .fmtE _ => true
  | _ => false
def spK (k : Ex → Ex) (a s : Ex) : Ex := match isK a with
  | true => k a
  | false => s
mutual
def spE : Ex → Ex
  | .var i => .var i
  | .cst w => .cst w
  | .tup es => .tup (spEs es)
  | .lst es => .lst (spEs es)
  | .bin o a b => .bin o (spE a) (spE b)
  | .neg a => .neg (spE a)
  | .nt a => .nt (spE a)
  | .cmp o a b => .cmp o (spE a) (spE b)
  | .cmp2 o o' a b c => .cmp2 o o' (spE a) (spE b) (spE c)
  | .and a b => .and (spE a) (spE b)
  | .or a b => .or (spE a) (spE b)
  | .ite c a b => .ite (spE c) (spE a) (spE b)
  | .ix a i => .ix (spE a) (spE i)
  | .sl a lo hi => .sl (spE a) (spEs lo) (spEs hi)
  | .isa a t => .isa (spE a) t
  | .bi b es => .bi b (spEs es)
  | .me m o es => .me m (spE o) (spEs es)
  | .tix es e => .tix (spEs es) (spE e)
  | .call f es => .call f (spEs es)
  | .lc elt tg it ifs own => .lc (spE elt) tg (spI it) (spEs ifs) own
  | .lc2 elt tg it ifs tg1 it1 ifs1 own own1 => .lc2 (spE elt) tg (spI it) (spEs ifs) tg1 (spI it1) (spEs ifs1) own own1
  | .dc b k tg it own => .dc b (spE k) tg (spI it) own
  | .met e => .met (spE e)
  | .metD own e => .metD own (spE e)
  | .rp e => .rp (spE e)
  | .dnew => .dnew
  | .dnewK => .dnew
  | .dix a i => .ix (spE a) (spE i)
  | .tixv a i => .tixv (spE a) (spE i)
  | .att c i x => .att c i (spE x)
  | .prp c f x => .prp c f (spE x)
  | .mth c f x es => .mth c f (spE x) (spEs es)
  | .mk c f es => .mk c f (spEs es)
  | .varF i => .var i
  | .tupF es => .tup (spEs es)
  | .fork is e => spK (.fork is) e (spE e)
  | .join e => spK .join e (spE e)
  | .sm m o es => .sm m (spE o) (spEs es)
  | .fst es => .fst (spEs es)
  | .fmtE e => .fmtE (spE e)
  | .icall c f x es => .icall c f (spE x) (spEs es)
def spEs : Exs → Exs
  | .nil => .nil
  | .cons e r => .cons (spE e) (spEs r)
  | .star e r => .star (spE e) (spEs r)
def spI : It → It
  | .seq e => .seq (spE e)
  | .rng es => .rng (spEs es)
  | .enm e => .enm (spE e)
  | .zip a b => .zip (spE a) (spE b)
end
section
variable {P : Pg}
theorem spK_ne {k : Ex → Ex} {a s : Ex} (h : isK a = false) : spK k a s = s := by unfold spK; rw [h]
theorem spK_is {k : Ex → Ex} {a s : Ex} (h : isK a = true) : spK k a s = k a := by unfold spK; rw [h]
theorem spE_cst {w : W} : ∀ {a : Ex}, spE a = .cst w → a = .cst w
  | .cst u, h => by rw [spE] at h; exact h
  | .fork is a, h => by
    rw [spE] at h
    cases hk : isK a with
    | true => rw [spK_is hk] at h; cases h
    | false =>
      rw [spK_ne hk] at h
      rw [spE_cst h] at hk
      cases hk
  | .join a, h => by
    rw [spE] at h
    cases hk : isK a with
    | true => rw [spK_is hk] at h; cases h
    | false =>
      rw [spK_ne hk] at h
      rw [spE_cst h] at hk
      cases hk
  | .var _, h => by rw [spE] at h; cases h
  | .tup _, h => by rw [spE] at h; cases h
  | .lst _, h => by rw [spE] at h; cases h
  | .bin _ _ _, h => by rw [spE] at h; cases h
  | .neg _, h => by rw [spE] at h; cases h
  | .nt _, h => by rw [spE] at h; cases h
  | .cmp _ _ _, h => by rw [spE] at h; cases h
  | .cmp2 _ _ _ _ _, h => by rw [spE] at h; cases h
  | .and _ _, h => by rw [spE] at h; cases h
  | .or _ _, h => by rw [spE] at h; cases h
  | .ite _ _ _, h => by rw [spE] at h; cases h
  | .ix _ _, h => by rw [spE] at h; cases h
  | .sl _ _ _, h => by rw [spE] at h; cases h
  | .isa _ _, h => by rw [spE] at h; cases h
  | .bi _ _, h => by rw [spE] at h; cases h
  | .me _ _ _, h => by rw [spE] at h; cases h
  | .tix _ _, h => by rw [spE] at h; cases h
  | .call _ _, h => by rw [spE] at h; cases h
  | .lc _ _ _ _ _, h => by rw [spE] at h; cases h
  | .lc2 _ _ _ _ _ _ _ _ _, h => by rw [spE] at h; cases h
  | .dc _ _ _ _ _, h => by rw [spE] at h; cases h
  | .met _, h => by rw [spE] at h; cases h
  | .metD _ _, h => by rw [spE] at h; cases h
  | .rp _, h => by rw [spE] at h; cases h
  | .dnew, h => by rw [spE] at h; cases h
  | .dnewK, h => by rw [spE] at h; cases h
  | .dix _ _, h => by rw [spE] at h; cases h
  | .tixv _ _, h => by rw [spE] at h; cases h
  | .att _ _ _, h => by rw [spE] at h; cases h
  | .prp _ _ _, h => by rw [spE] at h; cases h
  | .mth _ _ _ _, h => by rw [spE] at h; cases h
  | .mk _ _ _, h => by rw [spE] at h; cases h
  | .varF _, h => by rw [spE] at h; cases h
  | .tupF _, h => by rw [spE] at h; cases h
  | .sm _ _ _, h => by rw [spE] at h; cases h
  | .fst _, h => by rw [spE] at h; cases h
  | .fmtE _, h => by rw [spE] at h; cases h
  | .icall _ _ _ _, h => by rw [spE] at h; cases h
theorem spE_fmt {w : Ex} : ∀ {a : Ex}, spE a = .fmtE w → ∃ b, a = .fmtE b
  | .cst u, h => by rw [spE] at h; cases h
  | .fork is a, h => by
    rw [spE] at h
    cases hk : isK a with
    | true => rw [spK_is hk] at h; cases h
    | false =>
      rw [spK_ne hk] at h
      obtain ⟨b, rfl⟩ := spE_fmt h
      cases hk
  | .join a, h => by
    rw [spE] at h
    cases hk : isK a with
    | true => rw [spK_is hk] at h; cases h
    | false =>
      rw [spK_ne hk] at h
      obtain ⟨b, rfl⟩ := spE_fmt h
      cases hk
  | .var _, h => by rw [spE] at h; cases h
  | .tup _, h => by rw [spE] at h; cases h
  | .lst _, h => by rw [spE] at h; cases h
  | .bin _ _ _, h => by rw [spE] at h; cases h
  | .neg _, h => by rw [spE] at h; cases h
  | .nt _, h => by rw [spE] at h; cases h
  | .cmp _ _ _, h => by rw [spE] at h; cases h
  | .cmp2 _ _ _ _ _, h => by rw [spE] at h; cases h
  | .and _ _, h => by rw [spE] at h; cases h
  | .or _ _, h => by rw [spE] at h; cases h
  | .ite _ _ _, h => by rw [spE] at h; cases h
  | .ix _ _, h => by rw [spE] at h; cases h
  | .sl _ _ _, h => by rw [spE] at h; cases h
  | .isa _ _, h => by rw [spE] at h; cases h
  | .bi _ _, h => by rw [spE] at h; cases h
  | .me _ _ _, h => by rw [spE] at h; cases h
  | .tix _ _, h => by rw [spE] at h; cases h
  | .call _ _, h => by rw [spE] at h; cases h
  | .lc _ _ _ _ _, h => by rw [spE] at h; cases h
  | .lc2 _ _ _ _ _ _ _ _ _, h => by rw [spE] at h; cases h
  | .dc _ _ _ _ _, h => by rw [spE] at h; cases h
  | .met _, h => by rw [spE] at h; cases h
  | .metD _ _, h => by rw [spE] at h; cases h
  | .rp _, h => by rw [spE] at h; cases h
  | .dnew, h => by rw [spE] at h; cases h
  | .dnewK, h => by rw [spE] at h; cases h
  | .dix _ _, h => by rw [spE] at h; cases h
  | .tixv _ _, h => by rw [spE] at h; cases h
  | .att _ _ _, h => by rw [spE] at h; cases h
  | .prp _ _ _, h => by rw [spE] at h; cases h
  | .mth _ _ _ _, h => by rw [spE] at h; cases h
  | .mk _ _ _, h => by rw [spE] at h; cases h
  | .varF _, h => by rw [spE] at h; cases h
  | .tupF _, h => by rw [spE] at h; cases h
  | .sm _ _ _, h => by rw [spE] at h; cases h
  | .fst _, h => by rw [spE] at h; cases h
  | .fmtE b, h => ⟨b, rfl⟩
  | .icall _ _ _ _, h => by rw [spE] at h; cases h
mutual
theorem unE : ∀ (x : Ex) {C : Cc} {e : Expr}, CE P C e (spE x) → CE P C e x
  | .var i, C, e, h => by rw [spE] at h; exact h
  | .cst w, C, e, h => by rw [spE] at h; exact h
  | .tup es, C, e, h => by rw [spE] at h; cases h with | tup h => exact .tup (unEs es h)
  | .lst es, C, e, h => by rw [spE] at h; cases h with | lst h => exact .lst (unEs es h)
  | .bin o a b, C, e, h => by rw [spE] at h; cases h with | bin h1 h2 => exact .bin (unE a h1) (unE b h2)
  | .neg a, C, e, h => by rw [spE] at h; cases h with | neg h => exact .neg (unE a h)
  | .nt a, C, e, h => by rw [spE] at h; cases h with | nt t h => exact .nt t (unE a h)
  | .cmp o a b, C, e, h => by rw [spE] at h; cases h with | cmp t h1 h2 => exact .cmp t (unE a h1) (unE b h2)
  | .cmp2 o o' a b c, C, e, h => by rw [spE] at h; cases h with | cmp2 t h1 h2 h3 => exact .cmp2 t (unE a h1) (unE b h2) (unE c h3)
  | .and a b, C, e, h => by
    rw [spE] at h
    cases h with
    | and2 t u h1 h2 => exact .and2 t u (unE a h1) (unE b h2)
    | andN t h1 h2 => exact .andN t (unE a h1) (unE b h2)
  | .or a b, C, e, h => by
    rw [spE] at h
    cases h with
    | or2 t u h1 h2 => exact .or2 t u (unE a h1) (unE b h2)
    | orN t h1 h2 => exact .orN t (unE a h1) (unE b h2)
  | .ite c a b, C, e, h => by rw [spE] at h; cases h with | ite t h1 h2 h3 => exact .ite t (unE c h1) (unE a h2) (unE b h3)
  | .ix a i, C, e, h => by rw [spE] at h; cases h with | ix t h1 h2 => exact .ix t (unE a h1) (unE i h2)
  | .sl a lo hi, C, e, h => by rw [spE] at h; cases h with | sl h1 h2 h3 => exact .sl (unE a h1) (unO lo h2) (unO hi h3)
  | .isa a t, C, e, h => by rw [spE] at h; cases h with | isa t u v h => exact .isa t u v (unE a h)
  | .bi b es, C, e, h => by
    rw [spE] at h
    cases h with
    | bi t u v h => exact .bi t u v (unEs es h)
    | tupRange t u v w h => exact .tupRange t u v w (unEs es h)
    | listRange t u v w h => exact .listRange t u v w (unEs es h)
  | .me m o es, C, e, h => by
    rw [spE] at h
    cases es with
    | nil =>
      rw [spEs] at h
      cases h with
      | me t u v w h1 h2 => exact .me t u v w (unE o h1) (unEs .nil (by rw [spEs]; exact h2))
      | me0 t u h1 => exact .me0 t u (unE o h1)
    | cons a r =>
      rw [spEs] at h
      cases h with
      | me t u v w h1 h2 => exact .me t u v w (unE o h1) (unEs (.cons a r) (by rw [spEs]; exact h2))
    | star a r =>
      rw [spEs] at h
      cases h with
      | me t u v w h1 h2 => exact .me t u v w (unE o h1) (unEs (.star a r) (by rw [spEs]; exact h2))
  | .tix es a, C, e, h => by rw [spE] at h; cases h with | tix t u h1 h2 => exact .tix t u (unEs es h1) (unE a h2)
  | .call f es, C, e, h => by rw [spE] at h; cases h with | call t u v h => exact .call t u v (unEs es h)
  | .lc elt tg it ifs own, C, e, h => by rw [spE] at h; cases h with | lc t u v h1 h2 h3 h4 => exact .lc t u v (unI it h1) h2 (unT ifs h3) (unE elt h4)
  | .lc2 elt tg it ifs tg1 it1 ifs1 own own1, C, e, h => by rw [spE] at h; cases h with | lc2 t u v w x y h1 h2 h3 h4 h5 h6 h7 => exact .lc2 t u v w x y (unI it h1) h2 (unT ifs h3) (unI it1 h4) h5 (unT ifs1 h6) (unE elt h7)
  | .dc b k tg it own, C, e, h => by rw [spE] at h; cases h with
    | dcS t u v w h1 h2 h3 => exact .dcS t u v w (unI it h1) h2 (unE k h3)
    | dcL t u v w h1 h2 h3 => exact .dcL t u v w (unI it h1) h2 (unE k h3)
  | .met a, C, e, h => by rw [spE] at h; cases h with | met t u h => exact .met t u (unE a h)
  | .metD own a, C, e, h => by rw [spE] at h; cases h with | metD t u v h => exact .metD t u v (unE a h)
  | .rp a, C, e, h => by rw [spE] at h; cases h with | rp t u v h => exact .rp t u v (unE a h)
  | .dnew, C, e, h => by rw [spE] at h; exact h
  | .dnewK, C, e, h => by rw [spE] at h; cases h with | dnew => exact .dnewK
  | .dix a i, C, e, h => by rw [spE] at h; cases h with | ix t h1 h2 => exact .dix t (unE a h1) (unE i h2)
  | .tixv a i, C, e, h => by rw [spE] at h; cases h with | tixv t u v h1 h2 => exact .tixv t u v (unE a h1) (unE i h2)
  | .att c i x, C, e, h => by rw [spE] at h; cases h with | att t u h1 => exact .att t u (unE x h1)
  | .prp c f x, C, e, h => by rw [spE] at h; cases h with | prp t u h1 => exact .prp t u (unE x h1)
  | .mth c f x es, C, e, h => by
    rw [spE] at h
    cases es with
    | nil =>
      rw [spEs] at h
      cases h with
      | mth t u v w y h1 h2 => exact .mth t u v w y (unE x h1) (unEs .nil (by rw [spEs]; exact h2))
      | mth0 t u v h1 => exact .mth0 t u v (unE x h1)
    | cons a r =>
      cases r with
      | nil =>
        rw [spEs, spEs] at h
        generalize ea : spE a = a' at h
        cases h with
        | mth t u v w y h1 h2 => exact .mth t u v w y (unE x h1) (unEs (.cons a .nil) (by rw [spEs, spEs, ea]; exact h2))
        | mthK t u v h1 h2 => exact .mthK t u v (unE x h1) (unE a (by rw [ea]; exact h2))
        | mthK0 t u v h1 => rw [spE_cst ea]; exact .mthK0 t u v (unE x h1)
      | cons b r =>
        rw [spEs, spEs] at h
        generalize ea : spE a = a' at h
        cases h with
        | mth t u v w y h1 h2 => exact .mth t u v w y (unE x h1) (unEs (.cons a (.cons b r)) (by rw [spEs, spEs, ea]; exact h2))
      | star b r =>
        rw [spEs, spEs] at h
        generalize ea : spE a = a' at h
        cases h with
        | mth t u v w y h1 h2 => exact .mth t u v w y (unE x h1) (unEs (.cons a (.star b r)) (by rw [spEs, spEs, ea]; exact h2))
    | star a r =>
      rw [spEs] at h
      cases h with
      | mth t u v w y h1 h2 => exact .mth t u v w y (unE x h1) (unEs (.star a r) (by rw [spEs]; exact h2))
  | .sm m o es, C, e, h => by
    rw [spE] at h
    cases es with
    | nil => rw [spEs] at h; cases h
    | star a r => rw [spEs] at h; cases h
    | cons a r =>
      cases r with
      | nil => rw [spEs, spEs] at h; cases h with | sm t u v h1 h2 => exact .sm t u v (unE o h1) (unE a h2)
      | cons b r => rw [spEs, spEs] at h; cases h
      | star b r => rw [spEs, spEs] at h; cases h
  | .fst es, C, e, h => by rw [spE] at h; cases h with | fst h1 t => exact .fst (unPs es h1) t
  | .fmtE a, C, e, h => by rw [spE] at h; cases h
  | .icall c f x es, C, e, h => by rw [spE] at h; cases h with | icall t u v h1 h2 => exact .icall t u v (unE x h1) (unEs es h2)
  | .mk c f es, C, e, h => by rw [spE] at h; cases h with | mk t u h1 => exact .mk t u (unEs es h1)
  | .varF i, C, e, h => by rw [spE] at h; cases h with | var t u v => exact .varF t u v
  | .tupF es, C, e, h => by rw [spE] at h; cases h with | tup h => exact .tupF (unEs es h)
  | .fork is a, C, e, h => by
    rw [spE] at h
    cases hk : isK a with
    | true => rw [spK_is hk] at h; exact h
    | false => rw [spK_ne hk] at h; exact .fork (unE a h)
  | .join a, C, e, h => by
    rw [spE] at h
    cases hk : isK a with
    | true => rw [spK_is hk] at h; exact h
    | false => rw [spK_ne hk] at h; exact .join (unE a h)
theorem unPs : ∀ (x : Exs) {C : Cc} {e : List Expr}, CPs P C e (spEs x) → CPs P C e x
  | .nil, C, e, h => by rw [spEs] at h; exact h
  | .star a r, C, e, h => by rw [spEs] at h; cases h
  | .cons (.fmtE b) r, C, e, h => by
    rw [spEs, spE] at h
    cases h with
    | fmt h1 h2 => exact .fmt (unE b h1) (unPs r h2)
  | .cons a r, C, e, h => by
    rw [spEs] at h
    generalize ea : spE a = a' at h
    cases h with
    | cst t h2 => rw [spE_cst ea]; exact .cst t (unPs r h2)
    | fmt h1 h2 =>
      obtain ⟨b, rfl⟩ := spE_fmt ea
      rw [spE] at ea
      cases ea
      exact .fmt (unE b h1) (unPs r h2)
theorem unEs : ∀ (x : Exs) {C : Cc} {e : List Expr}, CEs P C e (spEs x) → CEs P C e x
  | .nil, C, e, h => by rw [spEs] at h; exact h
  | .cons a r, C, e, h => by rw [spEs] at h; cases h with | cons t h1 h2 => exact .cons t (unE a h1) (unEs r h2)
  | .star a r, C, e, h => by rw [spEs] at h; cases h with | star h1 h2 => exact .star (unE a h1) (unEs r h2)
theorem unO : ∀ (x : Exs) {C : Cc} {e : Option Expr}, CO P C e (spEs x) → CO P C e x
  | .nil, C, e, h => by rw [spEs] at h; exact h
  | .cons a r, C, e, h => by
    cases r with
    | nil => rw [spEs, spEs] at h; cases h with | some h => exact .some (unE a h)
    | cons b r => rw [spEs, spEs] at h; cases h
    | star b r => rw [spEs, spEs] at h; cases h
  | .star a r, C, e, h => by rw [spEs] at h; cases h
theorem unT : ∀ (x : Exs) {C : Cc} {e : List Expr}, CT P C e (spEs x) → CT P C e x
  | .nil, C, e, h => by rw [spEs] at h; exact h
  | .cons a r, C, e, h => by
    cases r with
    | nil => rw [spEs, spEs] at h; cases h with | one t h => exact .one t (unE a h)
    | cons b r => rw [spEs, spEs] at h; cases h
    | star b r => rw [spEs, spEs] at h; cases h
  | .star a r, C, e, h => by rw [spEs] at h; cases h
theorem unI : ∀ (x : It) {C : Cc} {tg e : Expr}, CI P C tg e (spI x) → CI P C tg e x
  | .seq a, C, tg, e, h => by rw [spI] at h; cases h with | seq h => exact .seq (unE a h)
  | .rng es, C, tg, e, h => by rw [spI] at h; cases h with | rng t u v h => exact .rng t u v (unEs es h)
  | .enm a, C, tg, e, h => by rw [spI] at h; cases h with | enm t u h => exact .enm t u (unE a h)
  | .zip a b, C, tg, e, h => by rw [spI] at h; cases h with | zip t u v h1 h2 => exact .zip t u v (unE a h1) (unE b h2)
end
end
def spA : At → At
  | .nm i => .nm i
  | .ix o i => .ix (spE o) (spE i)
def Sts.app : Sts → Sts → Sts
  | .nil, r => r
  | .cons s a, r => .cons s (a.app r)
  | .fork is own b a, r => .fork is own b (a.app r)
mutual
def spS : St → St
  | .set i e => .set i (spE e)
  | .setT is e => .setT is (spE e)
  | .par is es => .par is (spEs es)
  | .asg ts e => .asg (ts.map spA) (spE e)
  | .setIx o i e => .setIx (spE o) (spE i) (spE e)
  | .setDx o i e => .setIx (spE o) (spE i) (spE e)
  | .setA c i o e => .setA c i (spE o) (spE e)
  | .aug o i e => .aug o i (spE e)
  | .drop e => .drop (spE e)
  | .ret e => .ret (spE e)
  | .retN => .retN
  | .pass => .pass
  | .brk => .brk
  | .cnt => .cnt
  | .ifS c a b => .ifS (spE c) (spSs a) (spSs b)
  | .whl c b => .whl (spE c) (spSs b)
  | .for tg it b => .for tg (spI it) (spSs b)
  | .rse c e => .rse c (spE e)
  | .tryN b => .tryN (spSs b)
def spSs : Sts → Sts
  | .nil => .nil
  | .cons s r => .cons (spS s) (spSs r)
  | .fork _ _ b r => (spSs b).app (spSs r)
end
section
variable {P : Pg}
theorem unA : ∀ (x : At) {C : Cc} {e : Expr}, CA P C e (spA x) → CA P C e x
  | .nm i, C, e, h => h
  | .ix o i, C, e, h => by rw [spA] at h; cases h with | ix t h1 h2 => exact .ix t (unE o h1) (unE i h2)
theorem unAs : ∀ (x : List At) {C : Cc} {e : List Expr}, CAs P C e (x.map spA) → CAs P C e x
  | [], C, e, h => h
  | a :: x, C, e, h => by rw [List.map_cons] at h; cases h with | cons h1 h2 => exact .cons (unA a h1) (unAs x h2)
/-- a block in two parts -/
theorem app_inv : ∀ {x y : Sts} {C : Cc} {s : List Stmt}, CSs P C s (x.app y) → ∃ s1 s2, s = s1 ++ s2 ∧ CSs P C s1 x ∧ CSs P C s2 y
  | .nil, y, C, s, h => ⟨[], s, rfl, .nil, h⟩
  | .cons a x, y, C, s, h => by
    rw [Sts.app] at h
    cases h with
    | @cons st ss _ _ h1 h2 =>
      obtain ⟨s1, s2, e, k1, k2⟩ := app_inv h2
      exact ⟨st :: s1, s2, by rw [e]; rfl, .cons h1 k1, k2⟩
  | .fork is own b x, y, C, s, h => by
    rw [Sts.app] at h
    cases h with
    | @fork ss ss2 _ _ _ _ h1 h2 =>
      obtain ⟨s1, s2, e, k1, k2⟩ := app_inv h2
      exact ⟨ss ++ s1, s2, by rw [e, List.append_assoc], .fork h1 k1, k2⟩
def isCallX : Ex → Bool
  | .call _ _ => true
  | _ => false
theorem lc_notCall {P : Pg} {C : Cc} {elt : Expr} {gs : List Comprehension} {scope : Scope} {pos : Pos} {y : Ex} (h : CE P C (.ListComp elt gs scope pos) y) : isCallX y = false := by cases h <;> rfl
mutual
def nfS : St → Bool
  | .set _ e => !isFork e || isCallX (spE e)
  | .ifS _ a b => nfSs a && nfSs b
  | .whl _ b => nfSs b
  | .for _ _ b => nfSs b
  | .rse _ e => !isFork e
  | .tryN b => nfSs b
  | _ => true
def nfSs : Sts → Bool
  | .nil => true
  | .cons s r => nfS s && nfSs r
  | .fork _ _ b r => nfSs b && nfSs r
end
mutual
theorem unS : ∀ (x : St) {C : Cc} {s : Stmt}, nfS x = true → CS P C s (spS x) → CS P C s x
  | .set i e, C, s, n, h => by
    rw [nfS] at n
    rw [spS] at h
    cases h with
    | set t u h => exact .set t u (unE e h)
    | setLc t u v _ h => exact .setLc t u v (by rw [lc_notCall h] at n; simpa using n) (unE e h)
  | .setT is e, C, s, n, h => by rw [spS] at h; cases h with | setT t u h => exact .setT t u (unE e h)
  | .par is es, C, s, n, h => by
    cases is with
    | nil => rw [spS] at h; cases h
    | cons i is =>
      cases is with
      | nil => rw [spS] at h; cases h
      | cons j is =>
        cases is with
        | nil => rw [spS] at h; cases h with | par2 a b c d e f g k h => exact .par2 a b c d e f g k (unEs es h)
        | cons l is =>
          cases is with
          | nil => rw [spS] at h; cases h with | par3 a b c d e f g k l m o p h => exact .par3 a b c d e f g k l m o p (unEs es h)
          | cons _ _ => rw [spS] at h; cases h
  | .asg ts e, C, s, n, h => by rw [spS] at h; cases h with | asg t u h => exact .asg (unAs ts t) u (unE e h)
  | .setIx o i e, C, s, n, h => by rw [spS] at h; cases h with | setIx t h1 h2 h3 => exact .setIx t (unE o h1) (unE i h2) (unE e h3)
  | .setA c i o e, C, s, n, h => by rw [spS] at h; cases h with | setA t u h1 h2 => exact .setA t u (unE o h1) (unE e h2)
  | .setDx o i e, C, s, n, h => by rw [spS] at h; cases h with | setIx t h1 h2 h3 => exact .setDx t (unE o h1) (unE i h2) (unE e h3)
  | .aug o i e, C, s, n, h => by rw [spS] at h; cases h with | aug t h => exact .aug t (unE e h)
  | .drop e, C, s, n, h => by rw [spS] at h; cases h with | drop t h => exact .drop t (unE e h)
  | .ret e, C, s, n, h => by rw [spS] at h; cases h with | ret h => exact .ret (unE e h)
  | .retN, C, s, n, h => by rw [spS] at h; exact h
  | .pass, C, s, n, h => by rw [spS] at h; exact h
  | .brk, C, s, n, h => by rw [spS] at h; exact h
  | .cnt, C, s, n, h => by rw [spS] at h; exact h
  | .ifS c a b, C, s, n, h => by
    rw [nfS, Bool.and_eq_true] at n
    rw [spS] at h; cases h with | ifS t h1 h2 h3 => exact .ifS t (unE c h1) (unSs a n.1 h2) (unSs b n.2 h3)
  | .whl c b, C, s, n, h => by
    rw [nfS] at n
    rw [spS] at h; cases h with | whl t h1 h2 => exact .whl t (unE c h1) (unSs b n h2)
  | .for tg it b, C, s, n, h => by
    rw [nfS] at n
    rw [spS] at h; cases h with | «for» t h1 h2 h3 => exact .for t (unI it h1) h2 (unSs b n h3)
  | .tryN b, C, s, n, h => by
    rw [nfS] at n
    rw [spS] at h; cases h with | tryN t h1 => exact .tryN t (unSs b n h1)
  | .rse c e, C, s, n, h => by
    cases e <;> first
      | (rw [spS, spE] at h; exact h)
      | (rw [spS] at h; cases h with | rse t u h => exact .rse t u (unE _ h))
      | (rw [nfS] at n; cases n)
theorem unSs : ∀ (x : Sts) {C : Cc} {s : List Stmt}, nfSs x = true → CSs P C s (spSs x) → CSs P C s x
  | .nil, C, s, n, h => by rw [spSs] at h; exact h
  | .cons a r, C, s, n, h => by
    rw [nfSs, Bool.and_eq_true] at n
    rw [spSs] at h; cases h with | cons h1 h2 => exact .cons (unS a n.1 h1) (unSs r n.2 h2)
  | .fork is own b r, C, s, n, h => by
    rw [nfSs, Bool.and_eq_true] at n
    rw [spSs] at h
    obtain ⟨s1, s2, e, h1, h2⟩ := app_inv h
    subst e
    exact .fork (unSs b n.1 h1) (unSs r n.2 h2)
end
/-- the compiled body with what is written besides, checked -/
theorem cSs_un {n : Nat} {C : Cc} {s : List Stmt} {x : Sts} (h : (cSs P n C s).map (·.1) = some (spSs x)) (hn : nfSs x = true) : CSs P C s x := unSs x hn (cSs_ok h)
end
end GS
-- GsEv19
namespace GS
open PySem PySem.Spec PyProof.Rows L2

/-- what is known of the module behind its top -/
structure Lw (Pr : Program) (w : World) (K : PySem.W.Frag) (mg : Str → Option Value) (base : Heap) (G : Gl0) (D : List (Str × Dc)) (ad : Nat → Addr) : Prop where
  cst : ∀ x w, D.lookup x = some (.cst w) → ∃ v u, mg x = some u ∧ RelV v u ∧ ∀ m H, RW K m H w v
  fad : ∀ x f, D.lookup x = some (.fn f) → mg x = some (.ref (ad f)) ∧ PySem.W.keepIn K (.ref (ad f)) = true
  slt : ∀ f c i, D.lookup (atK f) = some (.slt c i) → ∃ Ca p, G.icls c = some Ca ∧ SlX.SCls K Ca ∧ SlX.Slot1 K Ca f p i
  prp : ∀ f c g, D.lookup (atK f) = some (.prp c g) → ∃ Ca p, G.icls c = some Ca ∧ SlX.SCls K Ca ∧ PropA K Ca f p (ad g)
  mth : ∀ f c g, D.lookup (atK f) = some (.mth c g) → ∃ Ca, G.icls c = some Ca ∧ SlX.SCls K Ca ∧ MethF K Ca f (ad g)
  mtk : ∀ f c g k w0, D.lookup (atK f) = some (.mtk c g k w0) → ∃ Ca, G.icls c = some Ca ∧ SlX.SCls K Ca ∧ Meth K Ca f (ad g)
  icl : ∀ x c g, D.lookup x = some (.icl c g) → ∃ Ca, G.icls c = some Ca ∧ mg x = some (.ref Ca) ∧ Mk K Ca (ad g)
  blt : ∀ x, D.lookup x = some .blt → mg x = none
  cls : ∀ x c, D.lookup x = some (.cls c) → ∀ (X : Cx) (E : XK), X.prog = Pr → X.w = w → X.K = K → X.mg = mg → X.base = base → X.calm = true → Takes X (fun cls d _ H => E cls d H) → Gl X x → okNm x = true → Room 3 X.A →
    ∀ e te p pos rpos, noStar e = true → PE X e te → PS X (.Raise (some (.Call (.Name x p) [e] [] pos)) none rpos) (tRse K G E c te)
  clsT : ∀ x c, D.lookup x = some (.clsT c) → ∀ (X : Cx) (E : XK), X.prog = Pr → X.w = w → X.K = K → X.mg = mg → X.base = base → X.calm = true → Takes X (fun cls d _ H => E cls d H) → Gl X x → okNm x = true → Room 3 X.A →
    ∀ m k p p2 pos rpos, PS X (.Raise (some (.Call (.Name x p) [.Constant (.str m) k p2] [] pos)) none rpos) (tRse K G E c (tC (.str m)))
theorem pures_take : ∀ {ws : List W}, W.pures ws = true → ∀ n, W.pures (ws.take n) = true
  | [], _, n => by simp [W.pures]
  | w :: ws, h, 0 => by simp [W.pures]
  | w :: ws, h, n + 1 => by
    rw [W.pures, Bool.and_eq_true] at h
    rw [List.take_succ_cons, W.pures, h.1, pures_take h.2 n]; rfl
theorem pures_drop : ∀ {ws : List W}, W.pures ws = true → ∀ n, W.pures (ws.drop n) = true
  | [], _, n => by simp [W.pures]
  | w :: ws, h, 0 => h
  | w :: ws, h, n + 1 => by
    rw [W.pures, Bool.and_eq_true] at h
    rw [List.drop_succ_cons]; exact pures_drop h.2 n
section
variable {Pr : Program} {w : World} {K : PySem.W.Frag} {mg : Str → Option Value} {base : Heap} {P : Pg} {G : Gl0} {D : List (Str × Dc)} {ad : Nat → Addr}
/-- f is a def of the module (b: where no guard stands around), a property's, a method, an __init__ -/
def isD (P : Pg) (D : List (Str × Dc)) (x : Str) (f : Nat) (b : Bool) : Prop := (D.lookup x = some (.fn f) ∧ b = P.hot f) ∨ ∃ c, (D.lookup x = some (.prp c f) ∨ D.lookup x = some (.mth c f) ∨ D.lookup x = some (.icl c f)) ∧ b = false
/-- all defs keep their promises at the level j -/
structure AllFn (P : Pg) (Pr : Program) (w : World) (K : PySem.W.Frag) (mg : Str → Option Value) (base : Heap) (G : Gl0) (D : List (Str × Dc)) (ad : Nat → Addr) (Cl : GS.Cl) (j : Nat) : Prop where
  fn : ∀ x f b, isD P D x f b → FnG b Pr w K mg base (L2.CX Pr w) j (ad f) (spC K G Cl f)
  kw : ∀ m c f k w0, D.lookup (atK m) = some (.mtk c f k w0) → ∃ dv, (∀ m H, RW K m H w0 dv) ∧ FnK Pr w K mg base (L2.CX Pr w) j (ad f) k dv (spC K G Cl f)
/-- a lambda handed to the law's catcher, within X -/
def MetAt (P : Pg) (G : Gl0) (Cl : GS.Cl) (C : Cc) (E : XK) (X : Cx) : Prop :=
  (∀ x, C.met = some x → ∀ body scope e p lpos pos, LamX.lamSB C.sc scope = true → CE P (C.lam scope) body e → PE X (.Call (.Name x p) [.Lambda lamParams body scope lpos] [] pos) (TR X.K G E fun v h => Cl.met e v h)) ∧
  ∀ x, C.met = some x → ∀ (y : Str) (an : Option Expr) (q0 p0 : Pos) (i0 : Int) (j0 : Nat) (body : Expr) (scope : Scope) (own : List Nat) (e : Ex) (p lpos pos : Pos), lamDB C.sc scope y = true → (∀ i, C.N[i]? = some y → i ∈ own) → CE P (C.lam scope) body e →
    PE X (.Call (.Name x p) [.Lambda (lamParD y an q0 i0 j0 p0) body scope lpos] [] pos) (TR X.K G E fun v h => Cl.met e (wipeE v own) h)
theorem takes_cx {N : List Str} {qual : Str} {scope : Scope} {f : Addr} {cd : Value} {A : Around} {outer : List PySem.Env} {s : Shared} {H : Hp} {E : XK} : Takes (cxOf (L2.CX Pr w) Pr w K mg base N qual scope f cd A outer s H E) (fun cls d _ H' => E cls d H') := takes_of rfl rfl rfl rfl
theorem sok_cx (L : Lw Pr w K mg base G D ad) {Cl : GS.Cl} {j : Nat} {N ps : List Str} {qual : Str} {scope : Scope} {f : Addr} {cd : Value} {A : Around} {outer : List PySem.Env} {s : Shared} {H : Hp} {E : XK} {mt : Option Str} {gb : Bool} (S : FnScope N ps scope) (hj : 3 ≤ j) (hgd : gb = true → A.guards = some []) (hr : Room (j + 1) (A.deeper (envOfC qual scope s.heap.objs.size f cd)))
    (hf : AllFn P Pr w K mg base G D ad Cl j) (hm : MetAt P G Cl ⟨N, scope, D, mt, fun _ => true, gb⟩ E (cxOf (L2.CX Pr w) Pr w K mg base N qual scope f cd A outer s H E)) :
    SOk P G Cl j ⟨N, scope, D, mt, fun _ => true, gb⟩ E (cxOf (L2.CX Pr w) Pr w K mg base N qual scope f cd A outer s H E) where
  calm := rfl
  N := rfl
  nd := S.nd
  sc := rfl
  fn := fun _ _ => rfl
  room := hr
  pass := passes_call takes_cx fun _ _ _ _ z => z
  cst := L.cst
  fns := fun x f h => ⟨ad f, (L.fad x f h).1, (L.fad x f h).2, hf.fn x f _ (.inl ⟨h, rfl⟩)⟩
  slt := L.slt
  prp := fun f c g h => by obtain ⟨Ca, p, h1, h2, h3⟩ := L.prp f c g h; exact ⟨Ca, p, _, h1, h2, h3, hf.fn _ g _ (.inr ⟨c, .inl h, rfl⟩)⟩
  mth := fun f c g h => by obtain ⟨Ca, h1, h2, h3⟩ := L.mth f c g h; exact ⟨Ca, _, h1, h2, h3, hf.fn _ g _ (.inr ⟨c, .inr (.inl h), rfl⟩)⟩
  mtk := fun f c g k w0 h => by obtain ⟨Ca, h1, h2, h3⟩ := L.mtk f c g k w0 h; obtain ⟨dv, h4, h5⟩ := hf.kw _ _ _ _ _ h; exact ⟨Ca, _, dv, h1, h2, h3, h4, h5⟩
  icl := fun x c g h => by obtain ⟨Ca, h1, h2, h3⟩ := L.icl x c g h; exact ⟨Ca, _, h1, h2, h3, hf.fn _ g _ (.inr ⟨c, .inr (.inr h), rfl⟩)⟩
  blt := L.blt
  gd := hgd
  met := hm.1
  metD := hm.2
  kind := S.kind
  own := passes_of rfl
  cls := fun x c h hg hn e te p pos rpos hns he => L.cls x c h _ E rfl rfl rfl rfl rfl rfl takes_cx hg hn (hr.mono (by omega)) e te p pos rpos hns he
  clsN := fun x c h hg hn e te p pos rpos hns he => L.cls x c h (cxOf (L2.CX Pr w) Pr w K mg base N qual scope f cd A outer s H E).nox E0 rfl rfl rfl rfl rfl rfl takes_none5 hg hn (hr.mono (by omega)) e te p pos rpos hns he
  clsTN := fun x c h hg hn m k p p2 pos rpos => L.clsT x c h (cxOf (L2.CX Pr w) Pr w K mg base N qual scope f cd A outer s H E).nox E0 rfl rfl rfl rfl rfl rfl takes_none5 hg hn (hr.mono (by omega)) m k p p2 pos rpos
  clsT := fun x c h hg hn m k p p2 pos rpos => L.clsT x c h _ E rfl rfl rfl rfl rfl rfl takes_cx hg hn (hr.mono (by omega)) m k p p2 pos rpos
/-- a def without a star -/
theorem def_fnR (L : Lw Pr w K mg base G D ad) {Cl : GS.Cl} {j : Nat} {F : FnI} {N ps : List Str} {x qual : Str} {params : Arguments} {body : List Stmt} {scope : Scope} {a : Addr} {fd : FuncData} {mt : Option Str} {gb : Bool} (Fd : FunD K x qual params body scope [] [] a fd) (S : FnScope N ps scope) (hb : Binds K fd ps []) (hst : F.star = false) (hnp : F.np = ps.length) (hns : F.ns = N.length)
    (c : CSs P ⟨N, scope, D, mt, fun _ => true, gb⟩ body F.body) (hj : 3 ≤ j) (hf : AllFn P Pr w K mg base G D ad Cl j)
    (hm : ∀ (oc : Value) (od : Option Addr) (osl : Array (Option Value)), K.lookup a = some ⟨oc, od, .func fd, osl⟩ → ∀ (A : Around) (outer : List PySem.Env) (s : Shared) (H : Hp) (E : XK), (gb = true → A.guards = some []) → Room (j + 1) (A.deeper (envOfC qual scope s.heap.objs.size a fd.code)) →
      MetAt P G Cl ⟨N, scope, D, mt, fun _ => true, gb⟩ E (cxOf (L2.CX Pr w) Pr w K mg base N qual scope a fd.code A outer s H E)) :
    FnG gb Pr w K mg base (L2.CX Pr w) (j + 2) a (fun vs H Q E => ∃ m h ws, HR K G m h H ∧ RWs K m H ws vs ∧ (runF P Cl F ws h).post (OkP K G m H Q) (ExP K G E m H)) := by
  have hpl : ps.length ≤ N.length := by have := congrArg List.length S.pre; rw [List.length_take] at this; omega
  obtain ⟨oc, od, dV, kV, doc, pm, an, cdv, ct, osl, rfl, lk, hcd, hD, hK⟩ := Fd.ex
  intro A outer s H us vs Q E hgd hr e0 r ⟨m, h, ws, h1, rs, p⟩
  obtain ⟨hl, q⟩ := body_run (N := N) hst (by omega) hns h1 rs p
  have hl : vs.length = ps.length := by rw [← hnp]; exact hl
  have hlu : (us ++ ([] : List Value)).length = ps.length := by rw [List.append_nil, ← r.length]; exact hl
  refine LamX.run_ofS (us := us) (vs := vs) lk hcd S hr e0 ?_ r hl fun hr' => ⟨_, (snd_s P G Cl P.fuel).ss (sok_cx L S hj hgd hr' hf (hm _ _ _ lk A outer s H E hgd hr')) c, q⟩
  have z := hb s us (e0.mod.kin.keeps fun b o e => (e0.bs b o e).1) hlu
  rw [List.append_nil] at z
  exact z
/-- the same, however its parameters are bound -/
theorem def_args (L : Lw Pr w K mg base G D ad) {Cl : GS.Cl} {j : Nat} {F : FnI} {N ps : List Str} {x qual : Str} {params : Arguments} {body : List Stmt} {scope : Scope} {a : Addr} {fd : FuncData} {kws : List (Str × V)} (Fd : FunD K x qual params body scope [] kws a fd) (S : FnScope N ps scope) (hst : F.star = false) (hnp : F.np = ps.length) (hns : F.ns = N.length)
    (c : CSs P ⟨N, scope, D, none, fun _ => true, false⟩ body F.body) (hj : 3 ≤ j) (hf : AllFn P Pr w K mg base G D ad Cl j) {A : Around} {outer : List PySem.Env} {s : Shared} {H : Hp} {args : Args} {us : List Value} {vs : List V} {Q : VK} {E : XK} (hr : Room (j + 2) A) (e0 : Env0 Pr w K mg base A outer s H)
    (hb : BindsTo s fd args (ps.zip us)) (r : Vals vs us) (hs : ∃ m h ws, HR K G m h H ∧ RWs K m H ws vs ∧ (runF P Cl F ws h).post (OkP K G m H Q) (ExP K G E m H)) : codeAny (model Pr w) A (.call (.ref a) args) (CR (L2.CX Pr w) outer Pr w H s Q E) s := by
  have hpl : ps.length ≤ N.length := by have := congrArg List.length S.pre; rw [List.length_take] at this; omega
  obtain ⟨oc, od, dV, kV, doc, pm, an, cdv, ct, osl, rfl, lk, hcd, hD, hK⟩ := Fd.ex
  obtain ⟨m, h, ws, h1, rs, p⟩ := hs
  obtain ⟨hl, q⟩ := body_run (N := N) hst (by omega) hns h1 rs p
  have hl : vs.length = ps.length := by rw [← hnp]; exact hl
  exact LamX.run_ofS (us := us) (vs := vs) lk hcd S hr e0 hb r hl fun hr' => ⟨_, (snd_s P G Cl P.fuel).ss (sok_cx L S hj (fun z => by cases z) hr' hf ⟨(fun x z => by cases z), (fun x z => by cases z)⟩) c, q⟩
/-- a method with one parameter by keyword only -/
theorem def_fnK (L : Lw Pr w K mg base G D ad) {Cl : GS.Cl} {j : Nat} {F : FnI} {N : List Str} {x qual p0 kn : Str} {params : Arguments} {body : List Stmt} {scope : Scope} {a : Addr} {fd : FuncData} {dv : V} (Fd : FunD K x qual params body scope [] [(kn, dv)] a fd) (S : FnScope N [p0, kn] scope) (hst : F.star = false) (hnp : F.np = 2) (hns : F.ns = N.length)
    (hb1 : ∀ (kV doc pm : Value) (an : Option Addr) (cdv ct u1 u2 : Value), bindArgs (PySem.W.fnOf x qual params body scope .none kV doc pm an cdv ct) ⟨[u1], [(kn, u2)]⟩ = pure [(p0, u1), (kn, u2)])
    (hb2 : ∀ (D : Addr) (doc pm : Value) (an : Option Addr) (cdv ct u1 u2 : Value), KwChain D [(kn, u2)] (bindArgs (PySem.W.fnOf x qual params body scope .none (.ref D) doc pm an cdv ct) ⟨[u1], []⟩) [(p0, u1), (kn, u2)])
    (c : CSs P ⟨N, scope, D, none, fun _ => true, false⟩ body F.body) (hj : 3 ≤ j) (hf : AllFn P Pr w K mg base G D ad Cl j) :
    FnK Pr w K mg base (L2.CX Pr w) (j + 2) a kn dv (fun vs H Q E => ∃ m h ws, HR K G m h H ∧ RWs K m H ws vs ∧ (runF P Cl F ws h).post (OkP K G m H Q) (ExP K G E m H)) where
  kw := fun A outer s H u1 u2 v1 v2 Q E hr e0 r1 r2 hs => by
    refine def_args L Fd S hst hnp hns c hj hf (us := [u1, u2]) hr e0 ?_ (.cons r1 (.cons r2 .nil)) hs
    obtain ⟨oc, od, dV, kV, doc, pm, an, cdv, ct, osl, rfl, lk, hcd, hD, hK⟩ := Fd.ex
    rcases hD with ⟨_, rfl⟩ | ⟨e, _⟩
    · exact .of_eq (hb1 kV doc pm an cdv ct u1 u2)
    · exact absurd rfl e
  no := fun A outer s H u1 v1 Q E hr e0 r1 hs => by
    obtain ⟨ds, rd, hb⟩ := Fd.binds0 (ps := [p0, kn]) 1 (by simp) rfl (fun D doc pm an cdv ct us ks h1 h2 => by
      match us, ks, h1, h2 with
      | [u1], [u2], _, _ => exact hb2 D doc pm an cdv ct u1 u2)
    cases rd with
    | cons rd rn =>
      cases rn
      exact def_args L Fd S hst hnp hns c hj hf (us := [u1, _]) hr e0 (hb s [u1] (e0.mod.kin.keeps fun b o e => (e0.bs b o e).1) rfl) (.cons r1 (.cons rd .nil)) hs
/-- a def with one -/
theorem def_fnS (L : Lw Pr w K mg base G D ad) {Cl : GS.Cl} {j : Nat} {F : FnI} {N ps : List Str} {pv x qual : Str} {params : Arguments} {body : List Stmt} {scope : Scope} {a : Addr} {fd : FuncData} (Fd : FunD K x qual params body scope [] [] a fd) (S : FnScope N (ps ++ [pv]) scope)
    (hb : ∀ (dV kV doc pm : Value) (an : Option Addr) (cdv ct : Value), dV = .none → ∀ us rest : List Value, us.length = ps.length → bindArgs (PySem.W.fnOf x qual params body scope dV kV doc pm an cdv ct) ⟨us ++ rest, []⟩ = (newTuple rest >>= fun t => pure (ps.zip us ++ [(pv, t)])))
    (hst : F.star = true) (hnp : F.np = ps.length) (hns : F.ns = N.length) (c : CSs P ⟨N, scope, D, none, fun _ => true, false⟩ body F.body) (hj : 3 ≤ j) (hf : AllFn P Pr w K mg base G D ad Cl j) :
    FnR Pr w K mg base (L2.CX Pr w) (j + 2) a (fun vs H Q E => ∃ m h ws, HR K G m h H ∧ RWs K m H ws vs ∧ (runF P Cl F ws h).post (OkP K G m H Q) (ExP K G E m H) ) := by
  have hpl : ps.length + 1 ≤ N.length := by have := congrArg List.length S.pre; rw [List.length_take, List.length_append, List.length_singleton] at this; omega
  obtain ⟨oc, od, dV, kV, doc, pm, an, cdv, ct, osl, rfl, lk, hcd, hD, hK⟩ := Fd.ex
  have hdv : dV = .none := by
    rcases hD with ⟨_, z⟩ | ⟨z, _⟩
    · exact z
    · exact absurd rfl z
  have key := StX.fn_star (CX := L2.CX Pr w) (P := Pr) (w := w) (mg := mg) (base := base) (k := j + 1) (sp := fun vs' H Q E => TRS K G E (rSs Cl P.fuel F.body) (endsOf Q) (L2.start N vs') H) lk hcd S StX.cxUp (hb _ _ _ _ _ _ _ hdv) fun A outer s H vs Q E hr q =>
    ⟨_, (snd_s P G Cl P.fuel).ss (sok_cx L S hj (fun z => by cases z) hr hf ⟨(fun x z => by cases z), (fun x z => by cases z)⟩) c, q⟩
  refine key.imp fun vs H Q E ⟨m, h, ws, hr, rs, p⟩ => ?_
  unfold runF at p
  split at p
  · rename_i v hv
    unfold bindW at hv
    rw [if_pos hst] at hv
    split at hv
    · rename_i hl
      cases hv
      refine ⟨vs.take ps.length, vs.drop ps.length, (List.take_append_drop _ _).symm, ?_, ?_, fun a ha => ?_⟩
      · rw [List.length_take, ← rs.length]; omega
      · have hz := sizeLine_eq
        rw [List.length_drop, ← rs.length]; omega
      · have q1 := rs.take F.np
        have q2 := rs.drop F.np
        rw [hnp] at q1 q2
        have key : ∀ {m2 : Mp} {h2 : Hs}, HR K G m2 h2 H → RWs K m2 H (ws.take ps.length) (vs.take ps.length) → RWs K m2 H (ws.drop ps.length) (vs.drop ps.length) →
            (retOf (rSs Cl P.fuel F.body ((ws.take F.np).map some ++ [some (.tup (ws.drop F.np))] ++ List.replicate (F.ns - F.np - 1) none) h2)).post (OkP K G m2 H Q) (ExP K G E m2 H) →
            TRS K G E (rSs Cl P.fuel F.body) (endsOf Q) (L2.start N (vs.take ps.length ++ [.ref a])) (upd H a (.tup (vs.drop ps.length))) := fun {m2 h2} hr2 q1 q2 p2 => by
          have st : Stp m2 H m2 (upd H a (.tup (vs.drop ps.length))) := .tup ha
          have rr : RWs K m2 (upd H a (.tup (vs.drop ps.length))) (ws.take ps.length ++ [.tup (ws.drop ps.length)]) (vs.take ps.length ++ [.ref a]) := (hr2.rws st q1).append (.cons (.tup (.of upd_same) (hr2.rws st q2)) .nil)
          refine ⟨m2, _, h2, ?_, hr2.tup ha, post_mono (fun f h3 p3 => fl_of p3) (fun _ _ _ z => z) (later (Qo' := _) st (fun f h3 z => ?_) (ret_post p2))⟩
          · have e : (ws.take F.np).map some ++ [some (W.tup (ws.drop F.np))] ++ List.replicate (F.ns - F.np - 1) none = (ws.take ps.length ++ [W.tup (ws.drop ps.length)]).map some ++ List.replicate (F.ns - F.np - 1) none := by
              rw [hnp, List.map_append]; rfl
            rw [e]
            refine fr_start rr ?_
            rw [List.length_append, List.length_take, List.length_singleton]
            omega
          · cases f with
            | nx v => exact OkP.later st z
            | rt w => exact OkP.later st z
            | bk v => exact z
            | ct v => exact z
        split at p
        · rename_i hp
          exact key (hr0 hr) (q1.ofPure (fun _ _ _ z => z) (pures_take hp _)) (q2.ofPure (fun _ _ _ z => z) (pures_drop hp _)) (out_post hr p)
        · exact key hr q1 q2 p
    · cases hv
  · exact p.elim
end
end GS
-- GsEx1
namespace GS
open PySem PySem.Spec PyProof.Rows L2
open PySem.W (ksFn ksEnv kxs_mw ks_superObj excTup excObj)

/-- the call of a method of super() on one line -/
theorem super_call_eq {p0 p1 ap pc : Pos} {m a : Str} {pa : Pos} {env : PySem.Env} (hl : (ap.endLine == pc.line) = true) :
    eval (.Call (.Attribute (.Call (.Name "super" p0) [] [] p1) m ap) [.Name a pa] [] pc) env = (do
      let ov ← attributeBase (.Call (.Name "super" p0) [] [] p1) m env (eval (.Call (.Name "super" p0) [] [] p1) env)
      standAt ap.atName
      let (f, first) ← holding [ov] (getMethod ov m (plainOf (.Call (.Name "super" p0) [] [] p1) env))
      callWith pc f first (backTo pc (starEach [.Name a pa] env)) []) := by
  have e : ∀ ov, methodCall (.Call (.Name "super" p0) [] [] p1) m ap pc env ov 1 (backTo pc (starEach [.Name a pa] env)) [] = (do
      let (f, first) ← holding [ov] (getMethod ov m (plainOf (.Call (.Name "super" p0) [] [] p1) env))
      callWith pc f first (backTo pc (starEach [.Name a pa] env)) []) := fun ov => mcall_line (by rfl) hl
  show (attributeBase (.Call (.Name "super" p0) [] [] p1) m env (eval (.Call (.Name "super" p0) [] [] p1) env) >>= fun ov => standAt ap.atName >>= fun _ => methodCall (.Call (.Name "super" p0) [] [] p1) m ap pc env ov 1 (backTo pc (starEach [.Name a pa] env)) []) = _
  simp only [e]
/-- the def  __init__(s, a): super().__init__(a); s.f = a  -/
structure InitD (K : PySem.W.Frag) (file : Str) (C fI : Addr) (f a : Str) where
  p0 : Pos
  p1 : Pos
  ap : Pos
  pa : Pos
  pc : Pos
  pe : Pos
  ps : Pos
  pf : Pos
  pa2 : Pos
  pas : Pos
  as_ : Option Expr
  aa : Option Expr
  as2 : Pos
  aa2 : Pos
  name : Str
  qual : Str
  scope : Scope
  kV : Value
  doc : Value
  pm : Value
  ct : Value
  an : Option Addr
  cda : Addr
  cc : Addr
  oc : Value
  od : Option Addr
  osl : Array (Option Value)
  ccl : Value
  cdd : Option Addr
  ccs : Array (Option Value)
  vs : Array Value
  tf : Tok
  cl : Value
  cld : Option Addr
  csl : Array (Option Value)
  lk : K.lookup fI = some ⟨oc, od, .func (ksFn name qual ⟨[], [⟨"self", as_, as2⟩, ⟨a, aa, aa2⟩], none, [], [], none, []⟩ [.Expr (.Call (.Attribute (.Call (.Name "super" p0) [] [] p1) "__init__" ap) [.Name a pa] [] pc) pe, .Assign [.Attribute (.Name "self" ps) f pf] (.Name a pa2) pas] scope .none kV doc pm an (.ref cda) ct cc), osl⟩
  cd : PySem.W.codeIn K (.ref cda) qual = true
  code : K.lookup cda = some ⟨ccl, cdd, .fields vs, ccs⟩
  hvs : vs[2]? = some (.str file tf)
  cell : K.lookup cc = some ⟨cl, cld, .cell (some (.ref C)), csl⟩
  line : (ap.endLine == pc.line) = true
  ks : scope.names.lookup ("super" : Str) = some .globalImplicit
  kc : scope.names.lookup ("__class__" : Str) = some .free
  ka : scope.names.lookup a = some .local
  kself : scope.names.lookup ("self" : Str) = some .local
  ncell : ∀ x ∈ scope.names, x.2 ≠ .cell
  co : scope.isCoroutine = false
  gen : scope.isGenerator = false
  kind : scope.kind = .function
/-- the class C: its built-in base B, its field f -/
structure SupK (prog : Program) (K : PySem.W.Frag) (C : Addr) (f a : Str) (B newId initId : String) (bmB : List Value) : Prop where
  keepC : PySem.W.keepIn K (.ref C) = true
  exInit : PySem.W.excInitIn K C bmB newId = true
  excC : PySem.W.subIn K (.ref C) (.type "BaseException") = some true
  tyC : PySem.W.typeIn K (.ref C) = some (.type "type")
  isB : PySem.W.subIn K (.ref C) (.type B) = some true
  seta : PySem.W.findIn K (.ref C) "__setattr__" = some (some (.builtin "object.__setattr__"))
  over : PySem.W.excOver K C bmB = true
  tk : PySem.W.takerIn K C f = some none
  hd : PySem.W.hasDictIn K C = true
  opq : PySem.W.nsIn K cStatics "thirdparty.any" = some none
  sup : PySem.W.ks_superIn K C C "__init__" = some (some (.builtin initId))
  own : PySem.W.mroIn K C (.ref C) = some true
  cls : ∃ cd, PySem.W.clsIn K C = some cd
  init : ∃ fI, PySem.W.findIn K (.ref C) "__init__" = some (some (.ref fI)) ∧ PySem.W.typeIn K (.ref fI) = some (.type "function") ∧ Nonempty (InitD K prog.main.file C fI f a)
  sa : a ≠ "self"
  na : okNm a = true
  bind : ∀ (name qual : Str) (an1 an2 : Option Expr) (q1 q2 : Pos) (body : List Stmt) (scope : Scope) (kV doc pm : Value) (an : Option Addr) (cdv ct : Value) (cc : Addr) (u1 u2 : Value),
    bindArgs (ksFn name qual ⟨[], [⟨"self", an1, q1⟩, ⟨a, an2, q2⟩], none, [], [], none, []⟩ body scope .none kV doc pm an cdv ct cc) ⟨[u1, u2], []⟩ = pure [(("self" : Str), u1), (a, u2)]
  top : (prog.main.scope.names.lookup ("super" : Str)).isSome = false
theorem ns1_one {h : Heap} {dx : Addr} {f : Str} {v : Value} {hsh : Int} {tk : Tok} {n : Nat} (e : h.get? dx = some (PySem.W.dictOf [⟨hsh, .str f tk, v⟩] n)) : h.Ns1 dx (fun y => if y = f then some v else none) := by
  refine ⟨_, _, n, e, rfl, fun e he => ?_, ?_, fun name => ?_⟩
  · have : e = ⟨hsh, .str f tk, v⟩ := by simpa using he
    subst this
    exact ⟨f, tk, rfl⟩
  · exact List.pairwise_singleton _ _
  · have key : (Value.str f tk).isStr name = decide (name = f) := by
      by_cases h : name = f
      · subst h
        simp [Value.isStr]
      · have h2 : ¬ f = name := fun z => h z.symm
        simp [Value.isStr, h, h2]
    unfold nsFind findBy
    simp only [List.find?_toArray, List.find?_cons, List.find?_nil, key]
    by_cases h : name = f
    · simp [h]
    · simp [h]
/-- C(e) -/
theorem pmk_sup {X : Cx} {E : XK} {x : Str} {C : Addr} {f a : Str} {B newId initId : String} {bmB : List Value} {e : Expr} {te : TE} {p pos : Pos} (FB : ExcBaseFacts B newId initId bmB) (KF : PySem.W.KxsFacts B initId) (SF : StoreFacts B bmB "object.__setattr__" "object")
    (S : SupK X.prog X.K C f a B newId initId bmB) (hg : Gl X x) (hm : X.mg x = some (.ref C)) (hsup : X.mg "super" = none) (hr : Room 2 X.A) (hns : noStar e = true) (he : PE X e te) (hdb : (x == ("__debug__" : Str)) = false) :
    PMk X (.Call (.Name x p) [e] [] pos) (fun σ H Q => te σ H fun v H1 => ∀ d, H1 d = none → Q (.ref C) (some d) (upd H1 d (.xd [(f, v)]))) := by
  intro pins s σ H Q I h
  refine wpAny_Call_Name_kw (ld_glob I hg hm ?_ hdb)
  refine PySem.W.callWith_K (h₀ := X.base) I.ok.mod.kin S.keepC (thn ((pa_cons he pa_nil (starEach_ns hns)).run pos pins s σ H (fun vs H1 => match vs with | [v] => ∀ d, H1 d = none → Q (.ref C) (some d) (upd H1 d (.xd [(f, v)])) | _ => False) I h) fun us s1 ⟨vs, H1, I1, r1, q1⟩ => ⟨I1.kIn, ?_⟩) (starEach_ns hns) (backTo_ns (es := []) rfl)
  show wpAny _ _ (call (.ref C) us) _ _ _
  match vs, us, r1, q1 with
  | [], _, _, q1 => exact q1.elim
  | _ :: _ :: _, _, _, q1 => exact q1.elim
  | [v], _, .cons (b := u) rv .nil, q1 =>
  obtain ⟨fI, iC, tI, ⟨T⟩⟩ := S.init
  obtain ⟨nm, N', qn, bs, bm, hdct, sn, sub, ab, col, dd, k0, k1, k2, k3, k5, hC, hT⟩ := PySem.W.excInit_of I1.kIn S.exInit
  obtain ⟨cdC, hcl⟩ := S.cls
  obtain ⟨hp, g, dr, tk, os⟩ := s1
  have KX : X.K.In hp := I1.kIn
  have kk : ∀ b o, hp.get? b = some o → ((hp.push (PySem.W.kdv_tup [u])).push (PySem.HandSPX.excO C hp.objs.size)).get? b = some o := fun b o e => Heap.get?_push_of_some _ (Heap.get?_push_of_some _ e)
  have K2 : X.K.In ((hp.push (PySem.W.kdv_tup [u])).push (PySem.HandSPX.excO C hp.objs.size)) := KX.keeps kk
  obtain ⟨mb, hb1, hb2⟩ := I1.mod.blt
  refine wpAny_call (PySem.HandSPX.call_own FB hT hC (PySem.W.looks_findIn KX iC) (fun self => PySem.W.bind_fn KX self tI) (by rw [sizeLine_eq]; simp) ?_)
  have hrm := hr.make C [u] []
  obtain ⟨p0, p1, ap, pa, pc, pe, ps, pf, pa2, pas, as_, aa, as2, aa2, name, qual, scope, kV, doc, pm, ct, an, cda, cc, oc, od, osl, ccl, cdd, ccs, vs, tf, cl, cld, csl, lk, cd, code, hvs, cell, line, ks, kc, ka, kself, ncell, co, gen, kind⟩ := T
  have hsa := S.sa
  refine ks_codeAny_call_defAt (fd := ksFn name qual ⟨[], [⟨"self", as_, as2⟩, ⟨a, aa, aa2⟩], none, [], [], none, []⟩ _ scope .none kV doc pm an (.ref cda) ct cc) (binds := [(("self" : Str), .ref (hp.objs.size + 1)), (a, u)]) hrm.depth (K2 _ _ lk) rfl (I1.nolimit.keeps kk) (PySem.W.codeRec_of K2 cd) rfl (BindsTo.of_eq ?_) ncell ?_ (fun h₀ hns0 hk => ?_) co gen kind
  · exact S.bind _ _ _ _ _ _ _ _ _ _ _ _ _ _ _ _ _
  · intro y hy
    rcases List.mem_cons.mp hy with e | hy
    · rw [e]; exact kself
    · rcases List.mem_cons.mp hy with e | hy
      · rw [e]; exact ka
      · cases hy
  · generalize hL : ((hp.push (PySem.W.kdv_tup [u])).push (PySem.HandSPX.excO C hp.objs.size)).objs.size = L at hns0 ⊢
    have hLe : hp.objs.size + 2 = L := by rw [← hL, Heap.size_push, Heap.size_push]
    have F0 : Fr hp L h₀ (fun y => ([(("self" : Str), Value.ref (hp.objs.size + 1)), (a, u)] : List (Str × Value)).reverse.lookup y) := ⟨hns0, fun b o e => hk _ _ (kk b o e), by omega⟩
    have hx0 : h₀.get? (hp.objs.size + 1) = some (excObj C hp.objs.size none .none) := hk _ _ (by heap_get)
    have hnone : ∀ b, hp.objs.size ≤ b → hp.get? b = none := fun b hb => by
      cases z : hp.get? b with
      | none => rfl
      | some o => exact absurd (Heap.lt_size z) (Nat.not_lt.mpr hb)
    have N0 : News hp L h₀ [(hp.objs.size + 1, excObj C hp.objs.size none .none)] := fun q hq => by
      have : q = (hp.objs.size + 1, excObj C hp.objs.size none .none) := by simpa using hq
      subst this
      exact ⟨hx0, by show hp.objs.size + 1 ≠ L; omega, hnone _ (Nat.le_succ _)⟩
    have ms : ([(("self" : Str), Value.ref (hp.objs.size + 1)), (a, u)] : List (Str × Value)).reverse.lookup ("self" : Str) = some (.ref (hp.objs.size + 1)) := by
      have : (("self" : Str) == a) = false := by simpa using fun z : ("self" : Str) = a => hsa z.symm
      simp [List.lookup, this]
    have ma : ([(("self" : Str), Value.ref (hp.objs.size + 1)), (a, u)] : List (Str × Value)).reverse.lookup a = some u := by
      simp [List.lookup]
    generalize hm0 : (fun y => ([(("self" : Str), Value.ref (hp.objs.size + 1)), (a, u)] : List (Str × Value)).reverse.lookup y) = m0 at F0
    have ms : m0 ("self" : Str) = some (.ref (hp.objs.size + 1)) := by rw [← hm0]; exact ms
    have ma : m0 a = some u := by rw [← hm0]; exact ma
    have ldn : ∀ {A : Around} {E' : Value → Shared → Prop} {s' : Shared} {y : Str} {u' : Value} {q : Pos} {Q' : Value → Shared → Prop}, Fr hp L s'.heap m0 → scope.names.lookup y = some .local → m0 y = some u' → okNm y = true → Q' u' s' → wpAny (model X.prog X.w) A (eval (.Name y q) (ksEnv qual scope L fI (.ref cda) cc)) Q' E' s' := fun F hl hv hn h => wpAny_Name (wpAny_loadName_local kind hl F.ns hv h) (okNm_d hn)
    generalize hA : X.A.under (.builtin "type.__call__" ⟨[.ref C, u], []⟩) = A2 at hrm ⊢
    show PySem.wpAt (model X.prog X.w) (A2.deeper (ksEnv qual scope L fI (.ref cda) cc)) (.func _ (ksEnv qual scope L fI (.ref cda) cc)) (execs _ (ksEnv qual scope L fI (.ref cda) cc)) _ _ _
    refine ks_wpAt_execs_cons (ks_wpAt_Expr_any (ks_wpAt_MethodCall ?_ (super_call_eq line)) ?_ rfl)
    · refine ks_wpAt_super_base (f := fI) (cc := cda) ks kc (by decide) rfl (hk _ _ (K2 _ _ lk)) rfl rfl rfl (hk _ _ (K2 _ _ code)) rfl hvs (beq_self_eq_true _) S.top ?_
      refine PySem.W.ks_loadName_global kind ks (Calls.loadGlobal_builtin (env := ksEnv qual scope L fI (.ref cda) cc) ((I1.mod.glob.keeps I1.bk).keeps fun b o e => hk _ _ (kk b o e)) hsup ((hb1.keeps I1.bk).keeps fun b o e => hk _ _ (kk b o e)) ((hb2 _ (by decide)).trans (by kernel_rfl)) ⟨rfl, ?_⟩)
      refine wpAny_loadName_free kind kc rfl ⟨_, hk _ _ (K2 _ _ cell), rfl⟩ ?_
      refine wpAny_loadName_local kind kself F0.ns ms ?_
      obtain ⟨oC, hC1, hC2⟩ : ∃ oD, h₀.get? C = some oD ∧ oD.data = .cls cdC := by
        unfold PySem.W.clsIn at hcl
        split at hcl
        · rename_i c d cd' sl ho
          cases hcl
          exact ⟨_, hk _ _ (K2 _ _ ho), rfl⟩
        · cases hcl
      refine ks_wpAny_isType_cls hC1 hC2 ⟨rfl, ?_⟩
      refine ks_wpAny_call_super hC1 hC2 hx0 rfl (fun c e => by cases e) (PySem.W.looks_mroIn (K2.keeps hk) S.own) (fun h1 e1 k1' => ?_)
      obtain ⟨F1, N1, l1⟩ := PySem.W.ks_newsPush (s := ⟨h₀, g, dr, tk + 2, os⟩) F0 N0 rfl e1 k1'
      refine PySem.W.kxs_method KF F1 KX N1 (List.mem_cons_self ..) (PySem.W.InstAt.of_exc0 N1 (List.mem_cons_of_mem _ (List.mem_cons_self ..))) S.opq S.sup S.isB (by decide) fun q h2 F2 N2 l2 => ?_
      refine PySem.W.kxs_callWith1 N2 (List.mem_cons_self ..) (Calls.spliced_cons (ldn F2 ka ma S.na (Calls.spliced_nil ⟨PySem.W.kxs_at N2 (List.mem_cons_self ..), ?_⟩)))
      refine PySem.W.kxs_call F2 KX N2 FB S.exInit (List.mem_cons_self ..) (.tail ?_ (.tail ?_ (.head ?_))) (by rw [sizeLine_eq]; show 1 ≤ _; omega) fun t3 h3 F3 N3 l3 => ?_
      · exact (Nat.ne_of_gt (l2 _ (List.mem_cons_of_mem _ (List.mem_cons_self ..))))
      · exact (Nat.ne_of_gt (l1 _ (List.mem_cons_self ..)))
      · exact fun p hp => by cases hp
      refine ks_wpAt_execs_cons (ks_wpAt_Assign_Attr (wpAt_of_wpAny (ldn F3 ka ma S.na (ldn F3 kself ms (by decide) ?_))) rfl)
      have lt3 : ∀ p ∈ ([(q, kxs_mw initId (hp.objs.size + 1)), (h₀.objs.size, ks_superObj C (hp.objs.size + 1) C), (hp.objs.size + 1, excObj C hp.objs.size none .none)] : List (Addr × Obj)), p.1 < t3 := l3
      refine PySem.W.set_exc0 (es' := [⟨PyData.keyHash X.w.params f, .str f _, u⟩]) (n' := 1) SF F3 KX N3 (by simp) S.seta S.over S.tk S.hd rfl (.tail ?_ (.tail ?_ (.tail ?_ (.head ?_)))) (by simp) fun dx h4 F4 N4 l4 => ?_
      · exact (Nat.ne_of_gt (lt3 (hp.objs.size + 1, excObj C hp.objs.size none .none) (by simp)))
      · exact (Nat.ne_of_gt (l2 _ (List.mem_cons_of_mem _ (List.mem_cons_self ..))))
      · exact (Nat.ne_of_gt (l1 _ (List.mem_cons_self ..)))
      · exact fun p hp => by cases hp
      refine wpAt_of_wpAny (wpAny_execs_nil ⟨rfl, ?_⟩)
      have hn4 := ns1_one (N4 (dx, _) (List.mem_cons_self ..)).1
      have he4 : h4.get? (hp.objs.size + 1) = some (excObj C t3 (some dx) .none) := (N4 (hp.objs.size + 1, excObj C t3 (some dx) .none) (by simp)).1
      have hdn : hp.get? dx = none := (N4 (dx, _) (List.mem_cons_self ..)).2.2
      have hne : dx ≠ hp.objs.size + 1 := Nat.ne_of_gt (l4 (hp.objs.size + 1, excObj C t3 none .none) (by simp))
      have hdge : hp.objs.size ≤ dx := Nat.le_of_lt (Nat.lt_trans (Nat.lt_succ_self _) (l4 (hp.objs.size + 1, excObj C t3 none .none) (by simp)))
      obtain ⟨Gh, g1, g2⟩ := restrict h4 fun b => decide (b ≠ hp.objs.size + 1)
      have gk : ∀ b o, hp.get? b = some o → Gh.get? b = some o := fun b o z => by
        have hb : b ≠ hp.objs.size + 1 := Nat.ne_of_lt (Nat.lt_succ_of_lt (Heap.lt_size z))
        rw [g1 b (decide_eq_true hb)]
        exact F4.keep _ _ z
      have hn : H1 (hp.objs.size + 1) = none := I1.hok.fresh (Nat.le_succ _)
      have hnd : H1 dx = none := I1.hok.fresh hdge
      have gd : ∀ b o, Gh.get? b = some o → h4.get? b = some o := fun b o z => by
        by_cases hb : b = hp.objs.size + 1
        · rw [hb, g2 _ (by simp)] at z
          cases z
        · rw [g1 b (decide_eq_true hb)] at z
          exact z
      have J := I1.laid (t' := tk) (h' := Gh) (a := dx) (o := .xd [(f, v)]) gk hdge ⟨_, hn4.at (fun o z => by rw [g1 dx (decide_eq_true hne)]; exact z), fun y => by
        by_cases hy : y = f
        · subst hy
          rw [if_pos rfl]
          show RelO (([(y, v)] : List (Str × V)).lookup y) _
          simp [List.lookup]
          exact rv
        · rw [if_neg hy]
          have : (y == f) = false := by simpa using hy
          simp [List.lookup, this, RelO]⟩
      exact ⟨hp.objs.size + 1, _, _, _, _, .ref C, some dx, rfl, J, gd, g2 _ (by simp), he4, ⟨rfl, rfl⟩, rfl, rfl, by rw [upd_ne (Ne.symm hne)]; exact hn, rfl, I1.bare, raises_own S.excC S.tyC, q1 dx hnd⟩
    · show (scope.kind == .module && _) = false
      rw [kind]; rfl
end GS
-- GsEx2
namespace GS
open PySem PySem.Spec PyProof.Rows L2
open PySem.W (ksFn ksEnv kxs_mw ks_superObj excTup excObj)

def bodyB (f a : Str) : FuncBody → Bool
  | .stmts [.Expr (.Call (.Attribute (.Call (.Name su _) [] [] _) ini ap) [.Name a1 _] [] pc) _, .Assign [.Attribute (.Name s2 _) f2 _] (.Name a2 _) _] =>
    decide (su = "super") && decide (ini = "__init__") && decide (a1 = a) && decide (s2 = "self") && decide (f2 = f) && decide (a2 = a) && (ap.endLine == pc.line)
  | _ => false
def paramsB (a : Str) : Arguments → Bool
  | ⟨[], [⟨se, _, _⟩, ⟨a', _, _⟩], none, [], [], none, []⟩ => decide (se = "self") && decide (a' = a)
  | _ => false
def scopeB (a : Str) (sc : Scope) : Bool := decide (sc.names.lookup ("super" : Str) = some .globalImplicit) && decide (sc.names.lookup ("__class__" : Str) = some .free) && decide (sc.names.lookup a = some .local) && decide (sc.names.lookup ("self" : Str) = some .local) &&
  sc.names.all (fun x => decide (x.2 ≠ .cell)) && decide (sc.isCoroutine = false) && decide (sc.isGenerator = false) && decide (sc.kind = .function)
def cellB (K : PySem.W.Frag) (C : Addr) : List (Str × Addr) → Bool
  | [(n, cc)] => decide (n = "__class__") && (match K.lookup cc with
    | some ⟨_, _, .cell (some (.ref D)), _⟩ => decide (D = C)
    | _ => false)
  | _ => false
def codeB (K : PySem.W.Frag) (file : Str) : Value → Bool
  | .ref c => (match K.lookup c with
    | some ⟨_, _, .fields vs, _⟩ => (match vs[2]? with
      | some (Value.str fl _) => decide (fl = file)
      | _ => false)
    | _ => false)
  | _ => false
def isNone : Value → Bool
  | .none => true
  | _ => false
def fdB (K : PySem.W.Frag) (file : Str) (C : Addr) (f a : Str) (fd : FuncData) : Bool := bodyB f a fd.body && paramsB a fd.params && scopeB a fd.scope && cellB K C fd.closure && codeB K file fd.code && isNone fd.defaults && PySem.W.codeIn K fd.code fd.qualname && decide (fd.globals = mainGlobals) && decide (fd.builtins = builtinsNs)
def initB (K : PySem.W.Frag) (file : Str) (C fI : Addr) (f a : Str) : Bool := match K.lookup fI with
  | some ⟨_, _, .func fd, _⟩ => fdB K file C f a fd
  | _ => false
theorem bodyB_ok {f a : Str} {b : FuncBody} (h : bodyB f a b = true) : ∃ p0 p1 ap pa pc pe ps pf pa2 pas, b = .stmts [.Expr (.Call (.Attribute (.Call (.Name "super" p0) [] [] p1) "__init__" ap) [.Name a pa] [] pc) pe, .Assign [.Attribute (.Name "self" ps) f pf] (.Name a pa2) pas] ∧ (ap.endLine == pc.line) = true := by
  unfold bodyB at h
  split at h
  · simp only [Bool.and_eq_true, decide_eq_true_eq] at h
    obtain ⟨⟨⟨⟨⟨⟨rfl, rfl⟩, rfl⟩, rfl⟩, rfl⟩, h6⟩, h7⟩ := h
    subst h6
    exact ⟨_, _, _, _, _, _, _, _, _, _, rfl, h7⟩
  · cases h
theorem paramsB_ok {a : Str} {p : Arguments} (h : paramsB a p = true) : ∃ an1 an2 q1 q2, p = ⟨[], [⟨"self", an1, q1⟩, ⟨a, an2, q2⟩], none, [], [], none, []⟩ := by
  unfold paramsB at h
  split at h
  · simp only [Bool.and_eq_true, decide_eq_true_eq] at h
    obtain ⟨rfl, rfl⟩ := h
    exact ⟨_, _, _, _, rfl⟩
  · cases h
theorem cellB_ok {K : PySem.W.Frag} {C : Addr} {l : List (Str × Addr)} (h : cellB K C l = true) : ∃ cc cl cld csl, l = [(("__class__" : Str), cc)] ∧ K.lookup cc = some ⟨cl, cld, .cell (some (.ref C)), csl⟩ := by
  unfold cellB at h
  split at h
  · rw [Bool.and_eq_true, decide_eq_true_eq] at h
    obtain ⟨rfl, h⟩ := h
    split at h
    · rename_i e
      rw [decide_eq_true_eq] at h
      subst h
      exact ⟨_, _, _, _, rfl, e⟩
    · cases h
  · cases h
theorem codeB_ok {K : PySem.W.Frag} {file : Str} {v : Value} (h : codeB K file v = true) : ∃ c ccl cdd ccs vs tf, v = .ref c ∧ K.lookup c = some ⟨ccl, cdd, .fields vs, ccs⟩ ∧ vs[2]? = some (.str file tf) := by
  unfold codeB at h
  split at h
  · split at h
    · split at h
      · rename_i e
        rw [decide_eq_true_eq] at h
        subst h
        rename_i e2 _ _ _
        exact ⟨_, _, _, _, _, _, rfl, e2, e⟩
      · cases h
    · cases h
  · cases h
theorem initB_ok {K : PySem.W.Frag} {file : Str} {C fI : Addr} {f a : Str} (h : initB K file C fI f a = true) : Nonempty (InitD K file C fI f a) := by
  unfold initB at h
  split at h
  · rename_i oc od fd osl lk
    unfold fdB at h
    simp only [Bool.and_eq_true, decide_eq_true_eq] at h
    obtain ⟨⟨⟨⟨⟨⟨⟨⟨h1, h2⟩, h3⟩, h4⟩, h5⟩, h6⟩, h7⟩, h8⟩, h9⟩ := h
    obtain ⟨n1, n2, n3, n4, n5, n6, n7, n8, n9, n10, n11, n12, n13, n14, n15⟩ := fd
    dsimp only at h1 h2 h3 h4 h5 h6 h7 h8 h9
    subst h8 h9
    obtain ⟨p0, p1, ap, pa, pc, pe, ps, pf, pa2, pas, rfl, hl⟩ := bodyB_ok h1
    obtain ⟨an1, an2, q1, q2, rfl⟩ := paramsB_ok h2
    obtain ⟨cc, cl, cld, csl, rfl, ec⟩ := cellB_ok h4
    obtain ⟨c, ccl, cdd, ccs, vs, tf, rfl, ek, ev⟩ := codeB_ok h5
    unfold scopeB at h3
    simp only [Bool.and_eq_true, decide_eq_true_eq, List.all_eq_true] at h3
    obtain ⟨⟨⟨⟨⟨⟨⟨s1, s2⟩, s3⟩, s4⟩, s5⟩, s6⟩, s7⟩, s8⟩ := h3
    have hn : n8 = .none := by
      cases n8 <;> first
        | rfl
        | cases h6
    subst hn
    exact ⟨p0, p1, ap, pa, pc, pe, ps, pf, pa2, pas, an1, an2, q1, q2, n1, n2, n5, n9, n10, n11, n14, n12, c, cc, oc, od, osl, ccl, cdd, ccs, vs, tf, cl, cld, csl, lk, h7, ek, ev, ec, hl, s1, s2, s3, s4, s5, s6, s7, s8⟩
  · cases h
/-- the whole look at the class x -/
def supB (K : PySem.W.Frag) (file x f a : Str) (B newId initId : String) (bmB : List Value) : Bool :=
  He.eqO (PySem.W.nsIn K mainGlobals x) (some (some (.ref (He.ga K x)))) && PySem.W.keepIn K (.ref (He.ga K x)) && PySem.W.excInitIn K (He.ga K x) bmB newId && decide (PySem.W.subIn K (.ref (He.ga K x)) (.type "BaseException") = some true) && decide (PySem.W.typeIn K (.ref (He.ga K x)) = some (.type "type")) &&
  decide (PySem.W.subIn K (.ref (He.ga K x)) (.type B) = some true) && He.eqO (PySem.W.findIn K (.ref (He.ga K x)) "__setattr__") (some (some (.builtin "object.__setattr__"))) && PySem.W.excOver K (He.ga K x) bmB && He.eqO (PySem.W.takerIn K (He.ga K x) f) (some none) && PySem.W.hasDictIn K (He.ga K x) &&
  He.eqO (PySem.W.nsIn K cStatics "thirdparty.any") (some none) && He.eqO (PySem.W.ks_superIn K (He.ga K x) (He.ga K x) "__init__") (some (some (.builtin initId))) && decide (PySem.W.mroIn K (He.ga K x) (.ref (He.ga K x)) = some true) && (PySem.W.clsIn K (He.ga K x)).isSome &&
  He.eqO (PySem.W.findIn K (.ref (He.ga K x)) "__init__") (some (some (.ref (He.ma K (He.ga K x) "__init__")))) && decide (PySem.W.typeIn K (.ref (He.ma K (He.ga K x) "__init__")) = some (.type "function")) && initB K file (He.ga K x) (He.ma K (He.ga K x) "__init__") f a
theorem supB_ok {prog : Program} {K : PySem.W.Frag} {x f a : Str} {B newId initId : String} {bmB : List Value} (h : supB K prog.main.file x f a B newId initId bmB = true) (sa : a ≠ "self") (na : okNm a = true)
    (bind : ∀ (name qual : Str) (an1 an2 : Option Expr) (q1 q2 : Pos) (body : List Stmt) (scope : Scope) (kV doc pm : Value) (an : Option Addr) (cdv ct : Value) (cc : Addr) (u1 u2 : Value),
      bindArgs (ksFn name qual ⟨[], [⟨"self", an1, q1⟩, ⟨a, an2, q2⟩], none, [], [], none, []⟩ body scope .none kV doc pm an cdv ct cc) ⟨[u1, u2], []⟩ = pure [((("self" : Str)), u1), (a, u2)])
    (top : (prog.main.scope.names.lookup ("super" : Str)).isSome = false) : PySem.W.nsIn K mainGlobals x = some (some (.ref (He.ga K x))) ∧ SupK prog K (He.ga K x) f a B newId initId bmB := by
  unfold supB at h
  simp only [Bool.and_eq_true, decide_eq_true_eq] at h
  obtain ⟨⟨⟨⟨⟨⟨⟨⟨⟨⟨⟨⟨⟨⟨⟨⟨h1, h2⟩, h3⟩, h4⟩, h5⟩, h6⟩, h7⟩, h8⟩, h9⟩, h10⟩, h11⟩, h12⟩, h13⟩, h14⟩, h15⟩, h16⟩, h17⟩ := h
  exact ⟨He.eqO_ok h1, ⟨h2, h3, h4, h5, h6, He.eqO_ok h7, h8, He.eqO_ok h9, h10, He.eqO_ok h11, He.eqO_ok h12, h13, Option.isSome_iff_exists.mp h14, ⟨_, He.eqO_ok h15, h16, initB_ok h17⟩, sa, na, bind, top⟩⟩
end GS
-- GsEx3
namespace GS
open PySem PySem.Spec PyProof.Rows L2

theorem PS.imp2 {X : Cx} {st : Stmt} {t t' : TS} (h : PS X st t) (k : ∀ D σ H, t' D σ H → t D σ H) : PS X st t' := ⟨fun pins s σ H D I q => h.run pins s σ H D I (k D σ H q)⟩
theorem rse_sup {X : Cx} {G : Gl0} {E : XK} {x : Str} {C : Addr} {f a : Str} {B newId initId : String} {bmB : List Value} {c : Nat} {e : Expr} {te : TE} {p pos rpos : Pos} (FB : ExcBaseFacts B newId initId bmB) (KF : PySem.W.KxsFacts B initId) (SF : StoreFacts B bmB "object.__setattr__" "object")
    (S : SupK X.prog X.K C f a B newId initId bmB) (hG : G.cls c = some (C, some f)) (hc : X.calm = true) (tk : Takes X (fun cls d _ H => E cls d H)) (hg : Gl X x) (hn : okNm x = true) (hm : X.mg x = some (.ref C)) (hsup : X.mg "super" = none) (hr : Room 3 X.A) (hns : noStar e = true) (he : PE X e te) :
    PS X (.Raise (some (.Call (.Name x p) [e] [] pos)) none rpos) (tRse X.K G E c te) := by
  refine PS.imp2 (ps_raise hc tk (pmk_sup (E := E) FB KF SF S hg hm hsup (hr.mono (by omega)) hns he (okNm_d hn))) fun D σ H h => ?_
  unfold tRse at h
  rw [hG] at h
  exact h
theorem rse_txt {X : Cx} {G : Gl0} {E : XK} {x : Str} {C : Addr} {B newId initId : String} {bmB : List Value} {c : Nat} {m : Str} {k : Nat} {p p2 pos rpos : Pos} (FB : ExcBaseFacts B newId initId bmB)
    (q : PySem.W.excIn X.K C bmB newId = true) (kC : PySem.W.keepIn X.K (.ref C) = true) (r : Raises X (.ref C)) (hG : G.cls c = some (C, none)) (hc : X.calm = true) (tk : Takes X (fun cls d _ H => E cls d H)) (hg : Gl X x) (hn : okNm x = true) (hm : X.mg x = some (.ref C)) :
    PS X (.Raise (some (.Call (.Name x p) [.Constant (.str m) k p2] [] pos)) none rpos) (tRse X.K G E c (tC (.str m))) := by
  refine PS.imp2 (ps_raise hc tk (pmk_own FB q hm kC r hg (okNm_d hn))) fun D σ H h => ?_
  unfold tRse at h
  rw [hG] at h
  exact h
end GS
-- GsEx4
namespace GS
open PySem PySem.Spec PyProof.Rows L2

/-- a clause: the class, the reading of what it returns -/
abbrev Cls1 := Value × (Addr → Value → Option Addr → Hp → VK → Prop)
/-- what the clauses wish of an exception -/
def wRet (K : PySem.W.Frag) (Q : VK) : List Cls1 → XK
  | [] => fun _ _ _ => False
  | (c, te) :: r => fun cls d H => ∃ b, PySem.W.exmOne K cls c = some b ∧ (b = true → ∀ a, H a = none → te a cls d H Q) ∧ (b = false → wRet K Q r cls d H)
/-- the clauses of X, each returns at once -/
inductive Rets (X : Cx) : List ExceptHandler → List Cls1 → Prop
  | nil : Rets X [] []
  | plain {x : Str} {c : Value} {te : Addr → Value → Option Addr → Hp → VK → Prop} {e : Expr} {np rp pos' : Pos} {hds : List ExceptHandler} {l : List Cls1} (hc : Names X x c)
      (he : ∀ (a : Addr) (oe : Obj) (cls : Value) (d : Option Addr) (pn : List (Addr × Obj)), Zc cls d oe → (∃ vs, oe.data = .fields vs) → PE (X.suite a ((a, oe) :: pn)) e (fun _ H Q => te a cls d H Q)) (r : Rets X hds l) :
      Rets X (.ExceptHandler (some (.Name x np)) none [.Return (some e) rp] pos' :: hds) ((c, te) :: l)
  | named {x n : Str} {i : Nat} {c : Value} {te : Addr → Value → Option Addr → Hp → VK → Prop} {e : Expr} {np rp pos' : Pos} {hds : List ExceptHandler} {l : List Cls1} (hc : Names X x c) (hi : X.N[i]? = some n) (hln : X.env.kindOf n = some .local)
      (he : ∀ (a : Addr) (oe : Obj) (cls : Value) (d : Option Addr) (pn : List (Addr × Obj)), Zc cls d oe → (∃ vs, oe.data = .fields vs) → PE (X.suite a ((a, oe) :: pn)) e (fun σ H Q => σ[i]? = some (some (.ref a)) ∧ te a cls d H Q)) (r : Rets X hds l) :
      Rets X (.ExceptHandler (some (.Name x np)) (some n) [.Return (some e) rp] pos' :: hds) ((c, te) :: l)
section
variable {X : Cx}
/-- what the clauses make of the exception at a -/
theorem by_rets {a : Addr} {B : Heap} {sI s1 : Shared} {pins : List (Addr × Obj)} {σ : L2.St} {H : Hp} {cls : Value} {d : Option Addr} {D : Ends} (hN : X.N.Nodup) (ok : X.Ok) (hf : X.env.frame = some X.env.locals)
    (J : Inv X pins σ H sI) (nb : ∀ b o, sI.heap.get? b = some o → b ∉ frs X.stack → B.get? b = some o) (os : s1.os = sI.os) (ag : AllBare s1.gens) (na : H a = none) (nL : a ≠ X.env.locals) (nF : a ∉ X.fs)
    {hds : List ExceptHandler} {l : List Cls1} (hk : Rets X hds l) : ∀ {h3 : Heap}, HandSPX.FlyingZ B (X.env :: X.outer) a (Zc cls d) h3 → sI.heap.UpToSlots h3 → wRet X.K D.rt l cls d H →
      wpAny (model X.prog X.w) X.A (handleBy (.ref a) X.env hds) (SP X pins D) X.xe { s1 with heap := h3 } := by
  induction hk with
  | nil => exact fun _ _ w => w.elim
  | @plain x c te e np rp pos' hds l hc he r ih =>
    intro h3 fl3 up3 ⟨b, hb1, hyes, hno⟩
    have J3 : Inv X pins σ H { s1 with heap := h3 } := J.landed nb fl3.1 up3 os ag
    obtain ⟨oe3, vs3, he3, hz3, hd3⟩ := fl3.there
    have S3 := J3.suite he3 hd3 na nL nF
    have LT : PySem.W.Looks (model X.prog X.w) h3 (typeOf (.ref a)) cls := fun A Q E s k q => wpAny_typeOf_ref (k _ _ he3) (by rw [hz3.1]; exact q)
    have LM := PySem.W.exm_one (M := model X.prog X.w) J3.kIn LT hb1
    refine wpAny_handleBy_cons (codeAny_handlers_test ?_) (by intro q; cases q)
    have go : ∀ {Q : Value → Shared → Prop} {E : Value → Shared → Prop}, Q c { s1 with heap := h3 } → wpAny (model X.prog X.w) (X.A.mark (some (.ref a))) (eval (.Name x np) X.env) Q E { s1 with heap := h3 } := fun {Q E} q => by
      obtain ⟨g1, g2, hm | ⟨hm, hv, hnn⟩⟩ := hc
      · exact ld_glob (X := X.suite a ((a, oe3) :: (X.pn ++ pins))) S3 g1 hm q g2
      · exact ld_blt (X := X.suite a ((a, oe3) :: (X.pn ++ pins))) S3 g1 hm hv q hnn g2
    refine go (LM.here ?_)
    cases b with
    | false => exact ih fl3 up3 (hno rfl)
    | true =>
      refine codeAny_handlers_suite (HandSPX.lands_againZ fl3 fun h4 fl4 up4 => ?_)
      obtain ⟨oe4, vs4, he4, hz4, hd4⟩ := fl4.there
      have S4 := (J.landed (s' := { s1 with heap := h4 }) nb fl4.1 (up3.trans up4) os ag).suite he4 hd4 na nL nF
      refine wpAny_mono ((pss_one (ps_ret (pos := rp) (he a oe4 cls d (X.pn ++ pins) hz4 ⟨_, hd4⟩))).run [] _ _ H D S4 (hyes rfl a na)) (fun f s6 hsp => ?_) (fun _ _ z => False.elim z)
      cases f with
      | ret u =>
        obtain ⟨v6, σ6, H6, S6, r6, q6⟩ := hsp
        exact ⟨_, _, _, S6.unsuite ok, r6, q6⟩
      | next => obtain ⟨σ6, H6, S6, q6⟩ := hsp; exact ⟨_, _, S6.unsuite ok, q6⟩
      | brk => obtain ⟨σ6, H6, S6, q6⟩ := hsp; exact ⟨_, _, S6.unsuite ok, q6⟩
      | cont => obtain ⟨σ6, H6, S6, q6⟩ := hsp; exact ⟨_, _, S6.unsuite ok, q6⟩
  | @named x n i c te e np rp pos' hds l hc hi hln he r ih =>
    intro h3 fl3 up3 ⟨b, hb1, hyes, hno⟩
    have J3 : Inv X pins σ H { s1 with heap := h3 } := J.landed nb fl3.1 up3 os ag
    obtain ⟨oe3, vs3, he3, hz3, hd3⟩ := fl3.there
    have S3 := J3.suite he3 hd3 na nL nF
    have LT : PySem.W.Looks (model X.prog X.w) h3 (typeOf (.ref a)) cls := fun A Q E s k q => wpAny_typeOf_ref (k _ _ he3) (by rw [hz3.1]; exact q)
    have LM := PySem.W.exm_one (M := model X.prog X.w) J3.kIn LT hb1
    refine wpAny_handleBy_cons (codeAny_handlers_test ?_) (by intro q; cases q)
    have go : ∀ {Q : Value → Shared → Prop} {E : Value → Shared → Prop}, Q c { s1 with heap := h3 } → wpAny (model X.prog X.w) (X.A.mark (some (.ref a))) (eval (.Name x np) X.env) Q E { s1 with heap := h3 } := fun {Q E} q => by
      obtain ⟨g1, g2, hm | ⟨hm, hv, hnn⟩⟩ := hc
      · exact ld_glob (X := X.suite a ((a, oe3) :: (X.pn ++ pins))) S3 g1 hm q g2
      · exact ld_blt (X := X.suite a ((a, oe3) :: (X.pn ++ pins))) S3 g1 hm hv q hnn g2
    refine go (LM.here ?_)
    cases b with
    | false => exact ih fl3 up3 (hno rfl)
    | true =>
      refine codeAny_handlers_suite_as (HandSPX.lands_againZ fl3 fun h4 fl4 up4 => ?_)
      obtain ⟨oe4, vs4, he4, hz4, hd4⟩ := fl4.there
      have S4 := (J.landed (s' := { s1 with heap := h4 }) nb fl4.1 (up3.trans up4) os ag).suite he4 hd4 na nL nF
      have hl : i < σ.length := by
        rw [J.len]
        exact (List.getElem?_eq_some_iff.mp hi).1
      refine store_ok (X := X.suite a ((a, oe4) :: (X.pn ++ pins))) (v := .ref a) S4 hN hi (.inl hln) rfl (fun s5 S5 => ?_) (.inr hln)
      refine wpAny_mono ((pss_one (ps_ret (pos := rp) (he a oe4 cls d (X.pn ++ pins) hz4 ⟨_, hd4⟩))).run [] s5 _ H { nx := fun _ _ => False, rt := D.rt, bk := fun _ _ => False, ct := fun _ _ => False } S5 ⟨List.getElem?_set_self hl, hyes rfl a na⟩) (fun f s6 hsp => ?_) (fun _ _ z => False.elim z)
      cases f with
      | ret u =>
        obtain ⟨v6, σ6, H6, S6, r6, q6⟩ := hsp
        exact gone_ok (S6.unsuite ok) hN hi hln fun s7 J7 => ⟨_, _, _, J7, r6, q6⟩
      | next => obtain ⟨σ6, H6, S6, q6⟩ := hsp; exact q6.elim
      | brk => obtain ⟨σ6, H6, S6, q6⟩ := hsp; exact q6.elim
      | cont => obtain ⟨σ6, H6, S6, q6⟩ := hsp; exact q6.elim
/-- the whole: all that comes is caught -/
theorem ps_try_ret {body : List Stmt} {h₀ : ExceptHandler} {hds : List ExceptHandler} {l : List Cls1} {pos : Pos} {tb : WX → TS} (hs : X.stack = X.env :: X.outer) (hf : X.env.frame = some X.env.locals) (hN : X.N.Nodup)
    (hb : ∀ (W : WX) (pn : List (Addr × Obj)) (xe : Value → Shared → Prop), Takes (X.tr pn xe) W → PassesOwn (model X.prog X.w) X.A X.env xe → PSs (X.tr pn xe) body (tb W))
    (hh : Rets X (h₀ :: hds) l) : PS X (.Try body (h₀ :: hds) [] [] pos) (fun D σ H => tb (fun cls d _ H' => wRet X.K D.rt l cls d H') D σ H) := by
  refine ⟨fun pins s σ H D I h => wpAny_Try_except ?_⟩
  have ok := I.ok
  have hfr : X.A.frames = some (X.env :: X.outer) := by rw [ok.frames, hs]
  refine wpAny_mono ((hb _ (X.pn ++ pins) (fun e s₁ => wpAny (model X.prog X.w) X.A (noteFrame e X.env) (fun _ s₂ => wpAny (model X.prog X.w) X.A (setFlight e none) (fun _ s₃ =>
    wpAny (model X.prog X.w) X.A (handleBy e X.env (h₀ :: hds)) (SP X pins D) X.xe s₃) X.xe s₂) X.xe s₁) (fun u s' xx => ?_) PassesOwn.looking).run [] s σ H D (I.toTry _) h) (fun f s1 hsp => ?_) (fun e s1 he => he)
  · obtain ⟨a, B, sI, pins', σ', H', cls, d, rfl, J', nb, up, sky, na, os, ag, w⟩ := xx
    have J : Inv X pins σ' H' sI := J'.ofTry ok
    have sky' : Sky B (X.env :: X.outer) a (Zc cls d) X.env.locals s'.heap := by rw [← hs]; exact sky
    refine Sky.land Zc.steady hfr hf sky' fun h3 fl3 up3 => ?_
    have nfr : a ∉ frs (X.env :: X.outer) := fun hm => by
      obtain ⟨oe, vs, e, _, dd⟩ := fl3.there
      obtain ⟨_, o', e', hnf⟩ := fl3.2.2.1.mem hm
      rw [e] at e'; cases e'
      exact hnf _ dd
    have nL : a ≠ X.env.locals := fun z => nfr (List.mem_filterMap.mpr ⟨X.env, List.mem_cons_self, by rw [hf, z]⟩)
    have nF : a ∉ X.fs := fun hm => by
      obtain ⟨e, he, q⟩ := List.mem_filterMap.mp hm
      exact nfr (List.mem_filterMap.mpr ⟨e, List.mem_cons_of_mem _ he, q⟩)
    exact by_rets (s1 := s') hN ok hf J nb os ag na nL nF hh fl3 (up.trans up3) w
  · cases f with
    | ret u => obtain ⟨v, σ', H', J', r, q⟩ := hsp; exact ⟨v, σ', H', J'.ofTry ok, r, q⟩
    | next => obtain ⟨σ', H', J', q⟩ := hsp; exact wpAny_execs_nil ⟨σ', H', J'.ofTry ok, q⟩
    | brk => obtain ⟨σ', H', J', q⟩ := hsp; exact ⟨σ', H', J'.ofTry ok, q⟩
    | cont => obtain ⟨σ', H', J', q⟩ := hsp; exact ⟨σ', H', J'.ofTry ok, q⟩
end
end GS
-- GsEx5
namespace GS
open PySem PySem.Spec PyProof.Rows L2
/-- caught, or else tf -/
def TTm (K : PySem.W.Frag) (l : List Cls1) (tf : Hp → VK → Prop) : (XK → Hp → VK → Prop) → Hp → VK → Prop := fun tl H Q => tl (wRet K Q l) H (fun _ H' => tf H' Q)
abbrev metCx (X : Cx) (Ng : List Str) (x : Str) (sg : Scope) (g : Addr) (cdg : Value) (s : Shared) (H : Hp) : Cx := (cxOf C8.CX0 X.prog X.w X.K X.mg X.base Ng x sg g cdg X.A X.stack s H C8.E0).nox
theorem met_gives {X : Cx} {Ng : List Str} {x a q : Str} {sg : Scope} {g : Addr} {cdg : Value} {h₀ : ExceptHandler} {hds : List ExceptHandler} {l : List Cls1} {ef : Expr} {tf : Hp → VK → Prop} {p1 p2 p3 p8 p9 : Pos}
    (h0 : ∀ f : Addr, (L2.start Ng [V.ref f])[0]? = some (some (V.ref f))) (hN : Ng.Nodup) (hh : ∀ (s : Shared) (H : Hp), Rets (metCx X Ng x sg g cdg s H) (h₀ :: hds) l) (hf : ∀ (s : Shared) (H : Hp), PE (metCx X Ng x sg g cdg s H) ef (fun _ H Q => tf H Q)) :
    LamX.GivesTo X Ng x sg g cdg [.Try [.Expr (.Call (.Name a p1) [] [] p2) p3] (h₀ :: hds) [] [] p8, .Return (some ef) p9] a q (TTm X.K l tf) := by
  intro f c' s H Q tl act hc h
  refine ⟨_, pss_cons (ps_try_ret (X := metCx X Ng x sg g cdg s H)
      (tb := fun W D σ H => ∃ Ech : XK, (∀ cls d σ' H', Ech cls d H' → W cls d σ' H') ∧ σ[0]? = some (some (.ref f)) ∧ H c' = some (LamX.CodeO c' q) ∧ tl Ech H (fun _ H' => D.nx σ H'))
      rfl rfl hN (fun W pn xe tk _ => ?_) (hh s H)) (pss_one (ps_ret (hf s H))), ?_⟩
  · refine ⟨fun pins s' σ H' D I h' => ?_⟩
    obtain ⟨Ech, hW, h1, h2, h3⟩ := h'
    exact (pss_one (ps_expr (pos := p3) (act W pn xe Ech p1 p2 tk hW))).run pins s' σ H' D I ⟨h1, h2, h3⟩
  · exact ⟨wRet X.K Q l, fun _ _ _ _ z => z, h0 f, hc, h⟩
section
variable {K : PySem.W.Frag} {G : Gl0} {m m' : Mp} {h : Hs} {H H' : Hp}
/-- tables that grew -/
theorem Stp.ext (hr : HR K G m h H) (e : LamX.ExtN H H') : Stp m H m H' where
  le := fun _ _ z => z
  kp := fun a o q _ ht _ => e a o q ht
  fr := fun _ _ z => .inl z
  al := fun a o q ht => ⟨o, e a o q ht, ht⟩
  ko := fun a y q _ => .inl (e a _ q fun _ z => by cases z)
theorem HR.ext (hr : HR K G m h H) (e : LamX.ExtN H H') (t : LamX.Tabs G.T H') : HR K G m h H' where
  len := hr.len
  dom := hr.dom
  dom' := hr.dom'
  inj := hr.inj
  ob := fun n a o em q => by
    obtain ⟨u, hu, mu⟩ := hr.mut em
    refine (hr.ob n a o em q).step hr (.ext hr e) ?_
    rw [hu]
    exact e a u hu fun ps z => by subst z; exact mu
  tab := t
end
/-- the promises of all defs -/
structure FnsOk (P : Pg) (G : Gl0) (Cl : Cl) (j : Nat) (C : Cc) (X : Cx) : Prop where
  fns : ∀ x f, C.D.lookup x = some (.fn f) → ∃ a, X.mg x = some (.ref a) ∧ PySem.W.keepIn X.K (.ref a) = true ∧ FnG (P.hot f) X.prog X.w X.K X.mg X.base (L2.CX X.prog X.w) j a (spC X.K G Cl f)
  prp : ∀ f c g, C.D.lookup (atK f) = some (.prp c g) → ∃ Ca p a, G.icls c = some Ca ∧ SlX.SCls X.K Ca ∧ PropA X.K Ca f p a ∧ FnG false X.prog X.w X.K X.mg X.base (L2.CX X.prog X.w) j a (spC X.K G Cl g)
  mth : ∀ f c g, C.D.lookup (atK f) = some (.mth c g) → ∃ Ca a, G.icls c = some Ca ∧ SlX.SCls X.K Ca ∧ MethF X.K Ca f a ∧ FnG false X.prog X.w X.K X.mg X.base (L2.CX X.prog X.w) j a (spC X.K G Cl g)
  mtk : ∀ f c g k w0, C.D.lookup (atK f) = some (.mtk c g k w0) → ∃ Ca a dv, G.icls c = some Ca ∧ SlX.SCls X.K Ca ∧ Meth X.K Ca f a ∧ (∀ m H, RW X.K m H w0 dv) ∧ FnK X.prog X.w X.K X.mg X.base (L2.CX X.prog X.w) j a k dv (spC X.K G Cl g)
  icl : ∀ x c g, C.D.lookup x = some (.icl c g) → ∃ Ca a, G.icls c = some Ca ∧ X.mg x = some (.ref Ca) ∧ Mk X.K Ca a ∧ FnG false X.prog X.w X.K X.mg X.base (L2.CX X.prog X.w) j a (spC X.K G Cl g)
/-- the context of the lambda's body -/
theorem XOk.lam {P : Pg} {G : Gl0} {Cl Cl' : GS.Cl} {j k : Nat} {C : Cc} {E E' : XK} {X : Cx} (ok : XOk P G Cl j C E X) {A : Around} {outer : List PySem.Env} {s : Shared} {H : Hp} {scope : Scope} {f c' : Addr} (hr : Room (k + 1) (A.deeper (LamX.lamEnv X scope s.heap.objs.size f c')))
    (fns : FnsOk P G Cl' k C X) :
    XOk P G Cl' k (C.lam scope) E' (LamX.lamCx X A outer s H E' scope f c') where
  calm := rfl
  N := ok.N
  nd := ok.nd
  sc := rfl
  fn := fun _ h => by cases h
  room := hr
  pass := passes_call (takes_of rfl rfl rfl rfl) fun _ _ _ _ z => z
  cst := ok.cst
  fns := fns.fns
  slt := ok.slt
  prp := fns.prp
  mth := fns.mth
  mtk := fns.mtk
  icl := fns.icl
  gd := fun z => by cases z
  blt := ok.blt
  met := fun x h => by cases h
  metD := fun x h => by cases h
end GS
-- GsLam
namespace GS
open PySem PySem.Spec PyProof.Rows L2 LamX

/-- the object of such a lambda -/
abbrev lamObj (qual : Str) (params : Arguments) (body : Expr) (scope : Scope) (cl : List (Str × Addr)) (t0 : Addr) (doc pm : Value) (c' : Addr) (ctv : Value) : Obj := PySem.W.kdv_obj "<lambda>" qual params (.expr body) scope cl (.ref t0) doc pm c' ctv
section
variable {X : Cx} {pins : List (Addr × Obj)} {σ : L2.St} {H : Hp} {s : Shared}
theorem lam_makeD {T : List (Addr × Str)} {c P : Addr} {y : Str} {an : Option Expr} {q0 p0 : Pos} {i0 : Int} {j0 : Nat} {body : Expr} {scope : Scope} {pos : Pos} {E : Value → Shared → Prop} {Q : Value → Shared → Prop} (I : Inv X pins σ H s) (TB : TabB X.base X.mg c P) (hcode : X.env.code = .ref c)
    (hm : (P, X.env.qual ++ "<lambda>") ∈ T) (hu : ∀ p ∈ T, p.1 = P → p.2 = X.env.qual ++ "<lambda>") (hT : Tabs T H) (hfree : ∀ y ∈ scope.names, y.2 = .free → ∃ c, X.env.cells.lookup y.1 = some c)
    (h : ∀ (f c' t0 : Addr) (doc pm ctv : Value) (tk : Tok) (H1 : Hp) (s' : Shared), Inv X pins σ H1 s' → ExtN H H1 → Tabs T H1 → s'.heap.get? t0 = some (PySem.W.kdv_tup [.int i0 tk]) → H1 t0 = none → t0 ∉ frs X.stack →
      s'.heap.get? f = some (lamObj (X.env.qual ++ "<lambda>") (lamParD y an q0 i0 j0 p0) body scope (cloFrom X.env.cells scope.names []) t0 doc pm c' ctv) → H1 f = none → f ∉ frs X.stack → H1 c' = some (CodeO c' (X.env.qual ++ "<lambda>")) → Q (.ref f) s') :
    wpAny (model X.prog X.w) X.A (eval (.Lambda (lamParD y an q0 i0 j0 p0) body scope pos) X.env) Q E s := by
  refine PySem.W.kdv_lam rfl rfl (PySem.W.kdv_all1 (wpAny_Constant_int (PySem.W.kdv_all0 ?_)))
  rw [makeFunction_eq]
  simp only [List.zip_nil_right, List.filterMap_nil, List.isEmpty_nil, List.isEmpty_cons, if_true, pure_bind, Bool.false_eq_true, if_false]
  refine wpAny_bind (wpAny_newTextTuple ?_)
  have I0 : Inv X pins σ H { s with heap := s.heap.push (PySem.W.kdv_tup [.int i0 s.toks]), toks := s.toks + 1 } := I.kept (t' := s.toks + 1) fun b o e => Heap.get?_push_of_some _ e
  have ht0 : (s.heap.push (PySem.W.kdv_tup [.int i0 s.toks])).get? s.heap.objs.size = some (PySem.W.kdv_tup [.int i0 s.toks]) := Heap.get?_push_size _ rfl
  have nt0 : H s.heap.objs.size = none := I.hok.fresh (Nat.le_refl _)
  have nofr : ∀ f, s.heap.objs.size ≤ f → f ∉ frs X.stack := fun f hf z => by
    rcases List.mem_cons.mp (I.stkSub _ z) with e | e
    · have h1 := I.lt
      rw [← e] at h1
      exact Nat.lt_irrefl _ (Nat.lt_of_lt_of_le h1 hf)
    · exact I.nofs hf e
  have ft0 := nofr _ (Nat.le_refl s.heap.objs.size)
  have sz0 : s.heap.objs.size + 1 = (s.heap.push (PySem.W.kdv_tup [.int i0 s.toks])).objs.size := by rw [Heap.size_push]
  generalize hs0 : ({ s with heap := s.heap.push (PySem.W.kdv_tup [.int i0 s.toks]), toks := s.toks + 1 } : Shared) = s0 at I0
  have eh : s0.heap = s.heap.push (PySem.W.kdv_tup [.int i0 s.toks]) := by rw [← hs0]
  rw [← eh] at ht0 sz0
  obtain ⟨ps, hP, ht, ha⟩ := hT _ hm
  have bP : s0.heap.BuiltinsAt X.mg P := TB.bm.keeps I0.bk
  have hP' : s0.heap.get? P = some { cls := .none, data := .fields ps } := I0.hok P _ hP
  have nP : s.heap.objs.size ≠ P := fun z => by rw [z, hP] at nt0; cases nt0
  cases hc : codeAmong pos ps.toList with
  | none =>
    refine PySem.W.kdv_makeTail (mg := X.mg) (c := c) (P := P) (ps := ps) (closure_ok hfree) I0.ok.glob (I0.mod.glob.keeps I0.bk) hcode (TB.code.keeps I0.bk) hP' ht hc TB.gP bP fun c' ctv doc h' tk hx hge hlt hrec htb => ?_
    obtain ⟨c2, oc, vs, t, e2, hoc, hd, hv⟩ := hrec
    cases e2
    have hsz : s0.heap.objs.size ≤ h'.objs.size := Nat.le_trans hge (Nat.le_of_lt hlt)
    have nC : H c' = none := I0.hok.fresh hge
    have I1 := inv_table (t' := tk) (more := #[rawInt pos.line, rawInt pos.col, .ref c']) (h' := h'.push (lamObj (X.env.qual ++ "<lambda>") (lamParD y an q0 i0 j0 p0) body scope (cloFrom X.env.cells scope.names []) s.heap.objs.size doc ((X.mg "__name__").getD .none) c' ctv)) I0 hP
      (fun b o hb e => Heap.get?_push_of_some _ (hx b o hb e)) (Heap.get?_push_of_some _ htb) hge ⟨oc, vs, t, Heap.get?_push_of_some _ hoc, hd, hv⟩
    have hE : ExtN H (upd (upd H P (.tbl (ps ++ #[rawInt pos.line, rawInt pos.col, .ref c']))) c' (CodeO c' (X.env.qual ++ "<lambda>"))) := fun b o e n => by
      rw [upd_ne (ne_of_none e nC), upd_ne (fun z => n ps (Option.some.inj (e.symm.trans (by rw [z]; exact hP))))]
      exact e
    have eL : (ps ++ #[rawInt pos.line, rawInt pos.col, .ref c']).toList = ps.toList ++ [rawInt pos.line, rawInt pos.col, .ref c'] := by simp
    refine h h'.objs.size c' s.heap.objs.size doc ((X.mg "__name__").getD .none) ctv s.toks _ _ I1 hE (fun p hp => ?_) (Heap.get?_push_of_some _ (hx _ _ nP ht0)) ?_ ft0 (Heap.get?_push_size _ rfl) ?_ (nofr _ (by omega)) upd_same
    · by_cases hb : p.1 = P
      · rw [hu p hp hb, hb]
        refine ⟨_, by rw [upd_ne (ne_of_none hP nC), upd_same], by rw [eL]; exact PySem.TriplesOk_snoc _ _ _ _ ht, fun p' cv hcv => ?_⟩
        rw [eL] at hcv
        rcases among_app _ ht hcv with z | z
        · obtain ⟨c0, e1, e2⟩ := ha p' cv z
          exact ⟨c0, e1, hE _ _ e2 codeO_ne⟩
        · exact ⟨c', z, upd_same⟩
      · obtain ⟨ps', a1, a2, a3⟩ := hT p hp
        refine ⟨ps', by rw [upd_ne (ne_of_none a1 nC), upd_ne hb]; exact a1, a2, fun p' cv hcv => ?_⟩
        obtain ⟨c0, e1, e2⟩ := a3 p' cv hcv
        exact ⟨c0, e1, hE _ _ e2 codeO_ne⟩
    · have n1 : s.heap.objs.size ≠ c' := fun z => by rw [← z] at hge; omega
      rw [upd_ne n1, upd_ne nP]
      exact nt0
    · rw [upd_ne (Nat.ne_of_gt hlt), upd_ne (Nat.ne_of_gt (Nat.lt_of_lt_of_le (Heap.lt_size hP') hsz))]
      exact I.hok.fresh (by omega)
  | some cv =>
    obtain ⟨c', e, hco⟩ := ha pos cv hc
    subst e
    refine PySem.W.kdv_makeTailHit (mg := X.mg) (c := c) (P := P) (ps := ps) (closure_ok hfree) I0.ok.glob (I0.mod.glob.keeps I0.bk) hcode (TB.code.keeps I0.bk) hP' ht hc bP fun ctv doc h' tk hx hsz => ?_
    have I1 : Inv X pins σ H { s0 with heap := h'.push (lamObj (X.env.qual ++ "<lambda>") (lamParD y an q0 i0 j0 p0) body scope (cloFrom X.env.cells scope.names []) s.heap.objs.size doc ((X.mg "__name__").getD .none) c' ctv), toks := tk } := I0.kept fun b o e => Heap.get?_push_of_some _ (hx b o e)
    exact h h'.objs.size c' s.heap.objs.size doc ((X.mg "__name__").getD .none) ctv s.toks H _ I1 (ExtN.refl H) hT (Heap.get?_push_of_some _ (hx _ _ ht0)) nt0 ft0 (Heap.get?_push_size _ rfl) (I.hok.fresh (by omega)) (nofr _ (by omega)) hco
end
/-- its names: one parameter y, else captured ones and globals -/
structure LamD (sc scope : Scope) (y : Str) : Prop where
  kind : scope.kind = .function
  co : scope.isCoroutine = false
  gen : scope.isGenerator = false
  own : ∀ z ∈ scope.names, z.2 ≠ .cell ∧ (z.2 = .local → z.1 = y)
  loc : scope.names.lookup y = some .local
  free : ∀ z ∈ scope.names, z.2 = .free → sc.names.lookup z.1 = some .cell ∨ sc.names.lookup z.1 = some .free
theorem lamD_by {sc scope : Scope} {y : Str} (h : lamDB sc scope y = true) : LamD sc scope y := by
  unfold lamDB at h
  simp only [Bool.and_eq_true, Bool.or_eq_true, Bool.not_eq_true', decide_eq_true_eq, decide_eq_false_iff_not, List.all_eq_true] at h
  obtain ⟨⟨⟨⟨h1, h2⟩, h3⟩, h4⟩, h5⟩ := h
  refine ⟨h1, h2, h3, fun z hz => ⟨(h5 z hz).1.1, fun e => ?_⟩, h4, fun z hz e => ?_⟩
  · rcases (h5 z hz).1.2 with q | q
    · exact absurd e q
    · exact q
  · rcases (h5 z hz).2 with (q | q) | q
    · exact absurd e q
    · exact .inl q
    · exact .inr q
section
variable {X : Cx} {pins : List (Addr × Obj)} {σ σ' : L2.St} {H HZ : Hp} {s s1 : Shared} {y : Str}
theorem LamD.has {scope : Scope} (L : LamD X.env.scope scope y) (ok : X.Ok) : ∀ z ∈ scope.names, z.2 = .free → ∃ c, X.env.cells.lookup z.1 = some c := fun z hz e => by
  rcases L.free z hz e with k | k
  · exact ok.has _ (.inl k)
  · exact ok.has _ (.inr k)
/-- in the body: the parameter's slot is forgotten -/
theorem lam_startD {A : Around} {outer : List PySem.Env} {E : XK} {scope : Scope} {f c' : Addr} {h₁ : Heap} {tk : Nat} {bs : List (Str × Value)} (I : Inv X pins σ H s) (L : LamD X.env.scope scope y) (e0 : Env0 X.prog X.w X.K X.mg X.base A outer s1 HZ) (hd : A.handled = none) (un : Un (frs X.stack) [] H HZ s.heap s1.heap)
    (hns : h₁.Ns s1.heap.objs.size fun z => bs.reverse.lookup z) (kp : ∀ b o, s1.heap.get? b = some o → h₁.get? b = some o) (hl : σ'.length = σ.length) (hw : ∀ (i : Nat) (v : V), σ'[i]? = some (some v) → σ[i]? = some (some v) ∧ X.N[i]? ≠ some y) :
    Inv (lamCx X A outer s1 HZ E scope f c') [] σ' HZ { s1 with heap := h₁, toks := tk } := by
  have hfree := L.has I.ok
  have cm : ∀ {z c}, (cloFrom X.env.cells scope.names []).lookup z = some c → X.env.cells.lookup z = some c := fun {z c} e => by
    rcases cloFrom_mem (PySem.mem_of_lookup e) with hm | ⟨h1, h2⟩
    · cases hm
    · obtain ⟨c1, hc⟩ := hfree _ h1 rfl
      have hc : X.env.cells.lookup z = some c1 := hc
      rw [show c = c1 by rw [h2, hc] <;> rfl]
      exact hc
  have look : ∀ {z}, scope.names.lookup z = some .free → ∃ c, (cloFrom X.env.cells scope.names []).lookup z = some c := fun {z} q =>
    mem_lookup (cloFrom_has (cells := X.env.cells) (acc := []) (PySem.mem_of_lookup q : (z, NameKind.free) ∈ scope.names))
  have cellK : ∀ {c : Addr} {v : Option Value}, H c = none → s.heap.IsCell c v → h₁.IsCell c v := fun {c v} n ⟨o, ho, hd⟩ => by
    obtain ⟨sl, q⟩ := un.any ho n (by simp)
    exact ⟨_, kp _ _ q, hd⟩
  have noA : ∀ b : Addr, b ∉ (lamCx X A outer s1 HZ E scope f c').ex := fun b => List.not_mem_nil
  refine ⟨⟨e0.mod, L.kind, rfl, rfl, Nat.le_refl _, fun z u c e1 e2 => I.ok.inj z u c (cm e1) (cm e2), fun z hz => ?_, fun z c q _ => ?_, fun _ => hd, Around.frames_deeper e0.frames, .inr ⟨rfl, rfl⟩, fun b z => absurd z (noA b), e0.bs, e0.bsz, fun b _ _ => noA b,
      fun b z => absurd z (noA b), e0.funs, e0.frf⟩,
    rfl, e0.bare, Un.kept kp, ⟨_, hns, fun i z v e1 e2 e3 => ?_⟩, fun z c e => ?_, e0.hok.fresh (Nat.le_refl _), fun z c e => ?_, fun q hq => absurd hq List.not_mem_nil, e0.hok.kept kp, hl.trans I.len⟩
  · rcases (show scope.names.lookup z = some .cell ∨ scope.names.lookup z = some .free from hz) with hz | hz
    · exact absurd rfl (L.own _ (PySem.mem_of_lookup hz)).1
    · exact look hz
  · exact absurd (show false = true from q) Bool.false_ne_true
  · have e1 : X.N[i]? = some z := e1
    obtain ⟨e2, ny⟩ := hw i v e2
    rcases (show Vis scope z from e3) with k | k | k
    · have hz := (L.own _ (PySem.mem_of_lookup k)).2 rfl
      have hz : z = y := hz
      rw [hz] at e1
      exact absurd e1 ny
    · exact absurd rfl (L.own _ (PySem.mem_of_lookup k)).1
    · obtain ⟨m, hn, hl⟩ := I.loc
      have hvis : Vis X.env.scope z := (L.free _ (PySem.mem_of_lookup k) rfl).elim (fun k => .inr (.inl k)) (fun k => .inr (.inr k))
      obtain ⟨w', r, q⟩ := hl i z v e1 e2 hvis
      obtain ⟨c2, h2⟩ := look k
      refine ⟨w', r, .inr ⟨.inr k, c2, h2, ?_⟩⟩
      have c1 := cm h2
      rcases q with ⟨k', _⟩ | ⟨_, c3, e', q⟩
      · have k' : X.env.scope.names.lookup z = some .local := k'
        rcases L.free _ (PySem.mem_of_lookup k) rfl with k2 | k2 <;> rw [show X.env.scope.names.lookup z = _ from k2] at k' <;> cases k'
      · rw [c1] at e'
        cases e'
        exact cellK (I.freeC z _ c1) q
  · obtain ⟨w', q⟩ := I.cell z c (cm e)
    exact ⟨w', cellK (I.freeC z c (cm e)) q⟩
  · obtain ⟨v, o, ho, hd⟩ := I.cell z c (cm e)
    exact un.free c o ho (I.freeC z c (cm e)) (by simp)
/-- its call without arguments, in the def that got it -/
theorem pe_actD {CXg : CXT} {Eg : XK} {Ng : List Str} {qg : Str} {sg : Scope} {g f c' t0 : Addr} {cdg doc pm ctv : Value} {an : Option Expr} {q0 p0 : Pos} {i0 : Int} {j0 : Nat} {tk0 : Tok} {body : Expr} {scope : Scope} {k i : Nat} {a : Str} {pn : List (Addr × Obj)} {xe : Value → Shared → Prop} {W : WX} {E : XK} {tb : TE} {p1 p2 : Pos} {own : List Nat}
    (I : Inv X pins σ H s) (L : LamD X.env.scope scope y) (hown : ∀ i, X.N[i]? = some y → i ∈ own) (ht : s.heap.get? t0 = some (PySem.W.kdv_tup [.int i0 tk0])) (htn : H t0 = none) (htr : t0 ∉ frs X.stack)
    (hf : s.heap.get? f = some (lamObj (X.env.qual ++ "<lambda>") (lamParD y an q0 i0 j0 p0) body scope (cloFrom X.env.cells scope.names []) t0 doc pm c' ctv)) (hfn : H f = none) (hfr : f ∉ frs X.stack)
    (hbind : ∀ (q : Str) (cl : List (Str × Addr)) (dV doc pm cv ctv : Value), ∃ kk : Option (Array Value) → Sem (List (Str × Value)), bindArgs (PySem.W.kdv_fn "<lambda>" q (lamParD y an q0 i0 j0 p0) (.expr body) scope cl dV doc pm cv ctv) ⟨[], []⟩ = (seqItems? dV >>= kk) ∧ ∀ v, kk (some #[v]) = pure [(y, v)])
    (tk : Takes ((cxOf CXg X.prog X.w X.K X.mg X.base Ng qg sg g cdg X.A X.stack s H Eg).tr pn xe) W) (hW : ∀ cls d σ' H', E cls d H' → W cls d σ' H') (hr : Room (k + 1) (X.A.deeper (envOfC qg sg s.heap.objs.size g cdg)))
    (hbody : ∀ (A : Around) (outer : List PySem.Env) (s : Shared) (H : Hp), Room k (A.deeper (lamEnv X scope s.heap.objs.size f c')) → PE (lamCx X A outer s H E scope f c') body tb)
    (hN : Ng[i]? = some a) (hv : Vis sg a) (hd : (a == ("__debug__" : Str)) = false) (hcd : (a == ("__classdict__" : Str)) = false) :
    PE ((cxOf CXg X.prog X.w X.K X.mg X.base Ng qg sg g cdg X.A X.stack s H Eg).tr pn xe) (.Call (.Name a p1) [] [] p2)
      (fun σZ HZ Q => σZ[i]? = some (some (.ref f)) ∧ HZ c' = some (CodeO c' (X.env.qual ++ "<lambda>")) ∧ tb (wipe σ own) HZ Q) := by
  refine ⟨fun pinsZ sZ σZ HZ Q IZ ⟨hs, hc, htb⟩ => ?_⟩
  refine wpAny_Call_Name_kw (thn ((pe_var (pos := p1) (i := i) hN hv hd hcd).run pinsZ sZ σZ HZ (fun v H1 => v = .ref f ∧ H1 = HZ) IZ ⟨.ref f, hs, rfl, rfl⟩) fun u s1 ⟨v, H1, I1, r1, ev, eH⟩ => ?_)
  subst ev
  rw [eH] at I1
  obtain rfl : u = Value.ref f := r1
  have un : Un (frs X.stack) [] H HZ s.heap s1.heap := I1.base
  have of1 := un.keep f _ hf hfn hfr List.not_mem_nil
  have ot1 := un.keep t0 _ ht htn htr List.not_mem_nil
  refine PySem.W.callWith_F0 ⟨_, _, _, _, of1⟩ ?_
  obtain ⟨⟨oc, vs, t, hoc, hdc, hvc⟩, _, _⟩ := I1.hok c' _ hc
  have hlen : ∀ own : List Nat, (wipe σ own).length = σ.length := fun own => wipe_length σ own
  have rc : codeAny (model X.prog X.w) (X.A.deeper (envOfC qg sg s.heap.objs.size g cdg)) (.call (.ref f) ⟨[], []⟩) (CR (L2.CX X.prog X.w) (envOfC qg sg s.heap.objs.size g cdg :: X.stack) X.prog X.w HZ s1 Q E) s1 := by
    refine PySem.W.kla_callFunE hr.depth of1 rfl L.co L.gen rfl ⟨c', oc, vs, t, rfl, hoc, hdc, hvc⟩ ?_
    obtain ⟨kk, hk1, hk2⟩ := hbind (X.env.qual ++ "<lambda>") (cloFrom X.env.cells scope.names []) (.ref t0) doc pm (.ref c') ctv
    refine BindsTo.of_defaults (binds := [(y, .int i0 tk0)]) rfl ot1 rfl hk1 (hk2 _) _ _ _ _ ?_
    refine wpAny_newFunctionEnv (fun z hz => (L.own z hz).1) (fun z hz => ?_) (fun h₁ hns hsb => ⟨I1.nolimit.fresh _ hsb, ?_⟩) L.kind
    · have : z = (y, .int i0 tk0) := by simpa using hz
      rw [this]
      exact L.loc
    show codeAny _ _ (.expr body (lamEnv X scope s1.heap.objs.size f c')) _ _
    have kp : ∀ b o, s1.heap.get? b = some o → h₁.get? b = some o := fun b o e => hsb.extBut b o (Nat.ne_of_lt (Heap.lt_size e)) (Heap.get?_push_of_some _ e)
    have J := lam_startD (σ' := wipe σ own) (tk := s1.toks + ([(y, Value.int i0 tk0)] : List (Str × Value)).length) (E := E) (f := f) (c' := c') I L I1.env0 hr.hd un hns kp (hlen own) fun i v e => ⟨(wipe_some e).1, fun z => (wipe_some e).2 (hown i z)⟩
    refine PySem.W.kla_codeExpr (wpAny_mono ((hbody _ _ s1 HZ (hr.deeper _)).run [] _ _ HZ Q J htb) (fun v s' hq => ?_) fun e s' hq => hq)
    obtain ⟨w', H', J', rv, q⟩ := hq
    exact ⟨w', H', J'.os, J'.bare, J'.base, J'.hok, rv, q⟩
  have hx : Passes (L2.CX X.prog X.w) ((cxOf CXg X.prog X.w X.K X.mg X.base Ng qg sg g cdg X.A X.stack s H Eg).tr pn xe) E := passes_call tk hW
  refine wpAny_call (codeAny_mono rc fun r s' hq => ?_)
  cases r with
  | error e => exact hx pinsZ σZ HZ s1 e s' I1 hq
  | ok fl =>
    cases fl with
    | ret u => exact I1.after hq
    | next => exact False.elim hq
    | brk => exact False.elim hq
    | cont => exact False.elim hq
/-- x(lambda y=i: body) -/
theorem pe_lamcallD {T : List (Addr × Str)} {TT : (XK → Hp → VK → Prop) → Hp → VK → Prop} {x a : Str} {g c P : Addr} {k : Nat} {pg : Arguments} {bg : List Stmt} {sg : Scope} {dV kV doc pm cdv ct oc : Value} {an0 od : Option Addr} {osl : Array (Option Value)} {Ng : List Str}
    {an : Option Expr} {q0 p0 : Pos} {i0 : Int} {j0 : Nat} {body : Expr} {scope : Scope} {t : XK → TE} {p lpos pos : Pos} {own : List Nat} (hg : Gl X x) (hm : X.mg x = some (.ref g)) (hk : PySem.W.keepIn X.K (.ref g) = true)
    (lk : X.K.lookup g = some ⟨oc, od, .func (PySem.W.fnOf x x pg bg sg dV kV doc pm an0 cdv ct), osl⟩) (hcg : PySem.W.codeIn X.K cdv x = true) (hb : L2.Binds X.K (PySem.W.fnOf x x pg bg sg dV kV doc pm an0 cdv ct) [a] []) (Sg : FnScope Ng [a] sg) (hNg : Ng[0]? = some a) (hva : Vis sg a)
    (hG : GivesTo X Ng x sg g cdv bg a (X.env.qual ++ "<lambda>") TT) (TB : TabB X.base X.mg c P) (hcode : X.env.code = .ref c) (hmT : (P, X.env.qual ++ "<lambda>") ∈ T) (hu : ∀ p ∈ T, p.1 = P → p.2 = X.env.qual ++ "<lambda>") (hr : Room (k + 2) X.A) (L : LamD X.env.scope scope y) (hown : ∀ i, X.N[i]? = some y → i ∈ own)
    (hbind : ∀ (q : Str) (cl : List (Str × Addr)) (dV doc pm cv ctv : Value), ∃ kk : Option (Array Value) → Sem (List (Str × Value)), bindArgs (PySem.W.kdv_fn "<lambda>" q (lamParD y an q0 i0 j0 p0) (.expr body) scope cl dV doc pm cv ctv) ⟨[], []⟩ = (seqItems? dV >>= kk) ∧ ∀ v, kk (some #[v]) = pure [(y, v)])
    (hbody : ∀ (A : Around) (outer : List PySem.Env) (s : Shared) (H : Hp) (E : XK) (f c' : Addr), Room k (A.deeper (lamEnv X scope s.heap.objs.size f c')) → PE (lamCx X A outer s H E scope f c') body (t E))
    (hdb : (x == ("__debug__" : Str)) = false) (hd : (a == ("__debug__" : Str)) = false) (hcd : (a == ("__classdict__" : Str)) = false) :
    PE X (.Call (.Name x p) [.Lambda (lamParD y an q0 i0 j0 p0) body scope lpos] [] pos) (fun σ H Q => Tabs T H ∧ ∀ H1, ExtN H H1 → Tabs T H1 → TT (fun E H' Q' => t E (wipe σ own) H' Q') H1 Q) := by
  refine ⟨fun pins s σ H Q I ⟨hT, h⟩ => ?_⟩
  refine wpAny_Call_Name_kw (ld_glob I hg hm ?_ hdb)
  refine PySem.W.callWith_K (h₀ := X.base) I.ok.mod.kin hk ?_ (by rfl) (by rfl)
  show wpAny _ _ (spliced ((false, eval (.Lambda (lamParD y an q0 i0 j0 p0) body scope lpos) X.env) :: backTo pos (starEach [] X.env))) _ _ s
  refine Calls.spliced_cons (lam_makeD I TB hcode hmT hu hT (L.has I.ok) fun f c' t0 doc' pm' ctv tk0 H1 s' I1 eN T1 ht htn htr hf hfn hfr hco => ?_)
  refine Calls.spliced_nil ⟨I1.kIn, ?_⟩
  have rc : codeAny (model X.prog X.w) X.A (.call (.ref g) ⟨[.ref f], []⟩) (CR C8.CX0 X.stack X.prog X.w H1 s' Q C8.E0) s' := by
    refine run_ofS (N := Ng) (ps := [a]) (us := [.ref f]) (vs := [.ref f]) lk hcg Sg hr I1.env0 (hb s' [.ref f] I1.kIn rfl) (.cons rfl .nil) rfl fun hr' => ?_
    obtain ⟨t', ht', hq'⟩ := hG f c' s' H1 Q (fun E H' Q' => t E (wipe σ own) H' Q') (fun W pn xe E p1 p2 tk hW => pe_actD (i := 0) I1 L hown ht htn htr hf hfn hfr hbind tk hW hr' (fun A outer s H hr2 => hbody A outer s H E f c' hr2) hNg hva hd hcd) hco (h H1 eN T1)
    exact ⟨t', ht'.nox, hq'⟩
  refine wpAny_call (codeAny_mono rc fun r s2 hq => ?_)
  cases r with
  | error e => exact (show False from hq).elim
  | ok fl =>
    cases fl with
    | ret u => exact I1.after hq
    | next => exact False.elim hq
    | brk => exact False.elim hq
    | cont => exact False.elim hq
end
theorem bindD (y : Str) (an : Option Expr) (q0 p0 : Pos) (i0 : Int) (j0 : Nat) (body : Expr) (scope : Scope) (q : Str) (cl : List (Str × Addr)) (dV doc pm cv ctv : Value) : ∃ kk : Option (Array Value) → Sem (List (Str × Value)), bindArgs (PySem.W.kdv_fn "<lambda>" q (lamParD y an q0 i0 j0 p0) (.expr body) scope cl dV doc pm cv ctv) ⟨[], []⟩ = (seqItems? dV >>= kk) ∧ ∀ v, kk (some #[v]) = pure [(y, v)] := by
  refine ⟨_, rfl, fun v => ?_⟩
  have e : (([(y, v)] : List (Str × Value)).lookup y) = some v := by simp [List.lookup]
  show (pure ((([y] : List Str) ++ []).filterMap fun n => ((([] : List (Str × Value)) ++ [(y, v)]).lookup n).map (n, ·)) : Sem (List (Str × Value))) = _
  simp [List.filterMap, List.lookup]
end GS
-- GsEx6
namespace GS
open PySem PySem.Spec PyProof.Rows L2
section
variable {P : Pg} {K : PySem.W.Frag} {G : Gl0} {E : XK} {l : List Cls1} {tf : Hp → VK → Prop}
theorem post_met (fine : ∀ (m : Mp) (h : Hs) (H : Hp) (Q : VK), HR K G m h H → OkP K G m H Q P.fine h → tf H Q)
    (caught : ∀ c w x, P.hnd c w = some x → ∀ (m : Mp) (h : Hs) (H : Hp) (Q : VK), HR K G m h H → OkP K G m H Q x h → ExE K G (wRet K Q l) c w m H)
    {m : Mp} {H H1 : Hp} {Q : VK} {Qe : Nat → W → Hs → Prop} (st : Stp m H m H1) : ∀ {r : R W}, (metW P r).post (OkP K G m H Q) Qe → r.post (OkP K G m H1 (fun _ H' => tf H' Q)) (ExP K G (wRet K Q l) m H1)
  | .ok w h', p => fun m' H' x s r _ => fine m' h' H' Q r (OkP.later (st.trans s) p)
  | .ex c w h', p => fun m' H' s r => by
    unfold metW at p
    split at p
    · rename_i x e
      exact caught c w x e m' h' H' Q r (OkP.later (st.trans s) p)
    · exact p.elim
  | .no, p => p
  | .dr n k, p => fun i hi => post_met fine caught st (p i hi)
theorem met_at {Cl Cl' : GS.Cl} {j k : Nat} {C : Cc} {X : Cx} {x a : Str} {g c Pt : Addr} {pg : Arguments} {bg : List Stmt} {sg : Scope} {dV kV doc pm cdv ct oc : Value} {an od : Option Addr} {osl : Array (Option Value)} {Ng : List Str}
    (hK : X.K = K) (ok : XOk P G Cl j { C with met := none } E X) (hkj : k + 2 ≤ j) (fns : FnsOk P G Cl' k C X)
    (hx : ∀ y, C.met = some y → y = x) (hg : Gl X x) (hm : X.mg x = some (.ref g)) (hk : PySem.W.keepIn X.K (.ref g) = true) (lk : X.K.lookup g = some ⟨oc, od, .func (PySem.W.fnOf x x pg bg sg dV kV doc pm an cdv ct), osl⟩) (hcg : PySem.W.codeIn X.K cdv x = true)
    (hb : L2.Binds X.K (PySem.W.fnOf x x pg bg sg dV kV doc pm an cdv ct) [a] []) (Sg : FnScope Ng [a] sg) (hNg : Ng[0]? = some a) (hva : Vis sg a) (ha1 : (a == ("__debug__" : Str)) = false) (ha2 : (a == ("__classdict__" : Str)) = false) (hx1 : (x == ("__debug__" : Str)) = false)
    (hG : LamX.GivesTo X Ng x sg g cdv bg a (X.env.qual ++ "<lambda>") (TTm X.K l tf)) (TB : LamX.TabB X.base X.mg c Pt) (hcode : X.env.code = .ref c) (hmT : (Pt, X.env.qual ++ "<lambda>") ∈ G.T) (hu : ∀ p ∈ G.T, p.1 = Pt → p.2 = X.env.qual ++ "<lambda>")
    (fine : ∀ (m : Mp) (h : Hs) (H : Hp) (Q : VK), HR K G m h H → OkP K G m H Q P.fine h → tf H Q)
    (caught : ∀ c w x, P.hnd c w = some x → ∀ (m : Mp) (h : Hs) (H : Hp) (Q : VK), HR K G m h H → OkP K G m H Q x h → ExE K G (wRet K Q l) c w m H)
    (met : Ex → Env → Hs → R W) (hmet : met = fun e v h => metW P (rE Cl' P.fuel e v h)) :
    ∀ y, C.met = some y → ∀ body scope e p lpos pos, LamX.lamSB C.sc scope = true → CE P (C.lam scope) body e → PE X (.Call (.Name y p) [.Lambda lamParams body scope lpos] [] pos) (TR X.K G E fun v h => met e v h) := by
  intro y hy body scope e p lpos pos hsc hce
  obtain rfl := hx y hy
  subst hK hmet
  have hL : LamX.LamS X.env.scope scope := LamX.lamS_by (by rw [ok.sc]; exact hsc)
  refine PE.imp (LamX.pe_lamcall (T := G.T) (t := fun E' => TR X.K G E' (rE Cl' P.fuel e)) hg hm hk lk hcg hb Sg hNg hva hG TB hcode hmT hu (ok.room.mono (show k + 1 + 2 ≤ j + 1 by omega)) hL (by rfl) (fun _ _ _ _ _ => by rfl) (fun A outer s H E' f c' hr => ?_) hx1 ha1 ha2) fun σ H Q q => ?_
  · exact (snd_e P G Cl' P.fuel).e (XOk.lam ok hr ⟨fns.fns, fns.prp, fns.mth, fns.mtk, fns.icl⟩) hce
  · obtain ⟨m, v, h, fr, hr, p⟩ := q
    refine ⟨hr.tab, fun H1 e1 t1 => ⟨m, v, h, fr.mono hr (.ext hr e1), hr.ext e1 t1, post_met fine caught (.ext hr e1) p⟩⟩
theorem met_atD {Cl Cl' : GS.Cl} {j k : Nat} {C : Cc} {X : Cx} {x a : Str} {g c Pt : Addr} {pg : Arguments} {bg : List Stmt} {sg : Scope} {dV kV doc pm cdv ct oc : Value} {an od : Option Addr} {osl : Array (Option Value)} {Ng : List Str}
    (hK : X.K = K) (ok : XOk P G Cl j { C with met := none } E X) (hkj : k + 2 ≤ j) (fns : FnsOk P G Cl' k C X)
    (hx : ∀ y, C.met = some y → y = x) (hg : Gl X x) (hm : X.mg x = some (.ref g)) (hk : PySem.W.keepIn X.K (.ref g) = true) (lk : X.K.lookup g = some ⟨oc, od, .func (PySem.W.fnOf x x pg bg sg dV kV doc pm an cdv ct), osl⟩) (hcg : PySem.W.codeIn X.K cdv x = true)
    (hb : L2.Binds X.K (PySem.W.fnOf x x pg bg sg dV kV doc pm an cdv ct) [a] []) (Sg : FnScope Ng [a] sg) (hNg : Ng[0]? = some a) (hva : Vis sg a) (ha1 : (a == ("__debug__" : Str)) = false) (ha2 : (a == ("__classdict__" : Str)) = false) (hx1 : (x == ("__debug__" : Str)) = false)
    (hG : LamX.GivesTo X Ng x sg g cdv bg a (X.env.qual ++ "<lambda>") (TTm X.K l tf)) (TB : LamX.TabB X.base X.mg c Pt) (hcode : X.env.code = .ref c) (hmT : (Pt, X.env.qual ++ "<lambda>") ∈ G.T) (hu : ∀ p ∈ G.T, p.1 = Pt → p.2 = X.env.qual ++ "<lambda>")
    (fine : ∀ (m : Mp) (h : Hs) (H : Hp) (Q : VK), HR K G m h H → OkP K G m H Q P.fine h → tf H Q)
    (caught : ∀ c w x, P.hnd c w = some x → ∀ (m : Mp) (h : Hs) (H : Hp) (Q : VK), HR K G m h H → OkP K G m H Q x h → ExE K G (wRet K Q l) c w m H)
    (met : Ex → Env → Hs → R W) (hmet : met = fun e v h => metW P (rE Cl' P.fuel e v h)) :
    ∀ z, C.met = some z → ∀ (y : Str) (an : Option Expr) (q0 p0 : Pos) (i0 : Int) (j0 : Nat) (body : Expr) (scope : Scope) (own : List Nat) (e : Ex) (p lpos pos : Pos), lamDB C.sc scope y = true → (∀ i, C.N[i]? = some y → i ∈ own) → CE P (C.lam scope) body e →
      PE X (.Call (.Name z p) [.Lambda (lamParD y an q0 i0 j0 p0) body scope lpos] [] pos) (TR X.K G E fun v h => met e (wipeE v own) h) := by
  intro z hz y an q0 p0 i0 j0 body scope own e p lpos pos hsc ho hce
  obtain rfl := hx z hz
  subst hK hmet
  have hL : LamD X.env.scope scope y := lamD_by (by rw [ok.sc]; exact hsc)
  refine PE.imp (pe_lamcallD (T := G.T) (t := fun E' => TR X.K G E' (rE Cl' P.fuel e)) hg hm hk lk hcg hb Sg hNg hva hG TB hcode hmT hu (ok.room.mono (show k + 1 + 2 ≤ j + 1 by omega)) hL (by rw [ok.N]; exact ho) (bindD y an q0 p0 i0 j0 body scope) (fun A outer s H E' f c' hr => ?_) hx1 ha1 ha2) fun σ H Q q => ?_
  · exact (snd_e P G Cl' P.fuel).e (XOk.lam ok hr ⟨fns.fns, fns.prp, fns.mth, fns.mtk, fns.icl⟩) hce
  · obtain ⟨m, v, h, fr, hr, p⟩ := q
    refine ⟨hr.tab, fun H1 e1 t1 => ⟨m, wipeE v own, h, (fr.mono hr (.ext hr e1)).wipe own, hr.ext e1 t1, post_met fine caught (.ext hr e1) p⟩⟩
end
end GS
-- GsEnd1
namespace GS
open PySem PySem.Spec PyProof.Rows L2

section
variable {h : Heap} {cs : List (Addr × Addr)} {K : PySem.W.Frag} {a : Addr} {vs : List Value} {ns : List Int}
/-- the script's object -/
abbrev scO (vs : List Value) : Obj := { cls := .type "list", data := .seq vs.toArray }
/-- what is tracked at the start: the tables, and the script, if it is not written -/
def H0 (cs : List (Addr × Addr)) (K : PySem.W.Frag) (a : Addr) (vs : List Value) (ns : List Int) : Hp := fun b =>
  if cs.any (fun p => p.2 == b) = true then some (.tbl #[]) else if b = a ∧ K.lookup a = none then some (.frz (scO vs) (.lst (ns.map V.int))) else none
theorem H0_tab {p : Addr × Addr} (hp : p ∈ cs) : H0 cs K a vs ns p.2 = some (.tbl #[]) := if_pos (List.any_eq_true.mpr ⟨p, hp, by simp⟩)
theorem H0_inv {b : Addr} {u : HO} (e : H0 cs K a vs ns b = some u) : (∃ p ∈ cs, p.2 = b ∧ u = .tbl #[]) ∨ (b = a ∧ K.lookup a = none ∧ u = .frz (scO vs) (.lst (ns.map V.int))) := by
  unfold H0 at e
  split at e
  · rename_i q
    obtain ⟨p, hp, z⟩ := List.any_eq_true.mp q
    cases e
    exact .inl ⟨p, hp, by simpa using z, rfl⟩
  · split at e
    · rename_i q
      cases e
      exact .inr ⟨q.1, q.2, rfl⟩
    · cases e
/-- what is there and is neither a list nor an empty record isn't tracked -/
theorem H0_none (hT : ∀ p ∈ cs, h.get? p.2 = some { cls := .none, data := .fields #[] }) (ha : h.get? a = some (scO vs)) {b : Addr} {o : Obj} (e : h.get? b = some o) (h1 : o.data ≠ .seq vs.toArray 0) (h2 : o.data ≠ .fields #[]) : H0 cs K a vs ns b = none := by
  cases q : H0 cs K a vs ns b with
  | none => rfl
  | some u =>
    rcases H0_inv q with ⟨p, hp, z, _⟩ | ⟨z, _⟩
    · subst z
      rw [hT p hp] at e
      cases e
      exact absurd rfl h2
    · subst z
      rw [ha] at e
      cases e
      exact absurd rfl h1
end
theorem law_callG {P : Program} {w : World} {K : PySem.W.Frag} {mg mb : Str → Option Value} {k : Nat} {fa a : Addr} {cs : List (Addr × Addr)} {sp : Sp} {s₁ : Shared} {vs : List Value} {ns : List Int}
    (KX : K.In s₁.heap) (hns : s₁.heap.Ns mainGlobals mg) (hb : s₁.heap.Ns builtinsNs mb) (hbb : ∀ x : Str, x ≠ "__name__" → mb x = bootBuiltins x) (hlim : s₁.heap.NoLimit) (hg : s₁.gens = #[])
    (hT : ∀ p ∈ cs, s₁.heap.get? p.2 = some { cls := .none, data := .fields #[] }) (nT : ∀ p ∈ cs, K.lookup p.2 = none) (C : ∀ p ∈ cs, PySem.W.CodeHd s₁.heap p.1 p.2)
    (hbm : ∃ (bm : Addr) (ob : Obj), mg "__builtins__" = some (.ref bm) ∧ bm ≠ builtinsNs ∧ s₁.heap.get? bm = some ob ∧ ob.cls = .type "module" ∧ ob.dict = some builtinsNs ∧ ob.data = .plain)
    (ha : s₁.heap.get? a = some (scO vs)) (hi : IntsAre vs ns) (hl : ns.length ≤ sizeLine) (hr : Room k callerA)
    (F : ∀ base : Heap, K.In base → base.Ns mainGlobals mg → (∀ p ∈ cs, LamX.TabB base mg p.1 p.2) → (∃ mb, base.Ns builtinsNs mb ∧ ∀ x : Str, x ≠ "__name__" → mb x = bootBuiltins x) → base.NoLimit → FnG true P w K mg base (L2.CX P w) k fa sp)
    (hsp : ∀ H : Hp, (∀ p ∈ cs, H p.2 = some (.tbl #[])) → StL K H a (ns.map V.int) → sp [.ref a] H (fun v _ => v = .bl true) fun _ _ _ => False) :
    codeAny (model P w) callerA (.call (.ref fa) ⟨[.ref a], []⟩) (fun r s' => r = .ok (.ret (.bool true)) ∧ OldK s₁.heap s'.heap ∧ s'.os = s₁.os ∧ AllBare s'.gens) s₁ := by
  have rv := vals_ints hi
  have aT : ∀ p ∈ cs, p.2 ≠ a := fun p hp z => by
    have q := hT p hp
    rw [z, ha] at q
    cases (congrArg Obj.data (Option.some.inj q))
  generalize hH : H0 cs K a vs ns = H
  have none_of : ∀ {b : Addr} {o : Obj}, s₁.heap.get? b = some o → o.data ≠ .seq vs.toArray 0 → o.data ≠ .fields #[] → H b = none := fun e h1 h2 => by rw [← hH]; exact H0_none hT ha e h1 h2
  have up : ∀ {b : Addr} {o : Obj}, s₁.heap.get? b = some o → o.data ≠ .seq vs.toArray 0 → o.data ≠ .fields #[] → (hidT s₁.heap H).get? b = some o := fun e h1 h2 => hidT_get e (none_of e h1 h2)
  have ups : ∀ {b : Addr} {m : Str → Option Value}, s₁.heap.Ns b m → (hidT s₁.heap H).Ns b m := fun {b m} ⟨o, es, ep, e, d, r⟩ => ⟨o, es, ep, up e (by rw [d]; exact fun z => nomatch z) (by rw [d]; exact fun z => nomatch z), d, r⟩
  have inv : ∀ {b : Addr} {u : HO}, H b = some u → (∃ p ∈ cs, p.2 = b ∧ u = .tbl #[]) ∨ (b = a ∧ K.lookup a = none ∧ u = .frz (scO vs) (.lst (ns.map V.int))) := fun e => H0_inv (by rw [hH]; exact e)
  have tabH : ∀ p ∈ cs, H p.2 = some (.tbl #[]) := fun p hp => by rw [← hH]; exact H0_tab hp
  have kb : K.In (hidT s₁.heap H) := fun b o e => hidT_get (KX b o e) (by
    cases q : H b with
    | none => rfl
    | some u =>
      rcases inv q with ⟨p, hp, z, _⟩ | ⟨z, n, _⟩
      · rw [← z, nT p hp] at e; cases e
      · rw [z, n] at e; cases e)
  have stl : StL K H a (ns.map V.int) := by
    cases q : K.lookup a with
    | none =>
      refine .inl ⟨scO vs, ?_⟩
      rw [← hH]
      unfold H0
      rw [if_neg (fun z => by obtain ⟨p, hp, z⟩ := List.any_eq_true.mp z; exact aT p hp (by simpa using z)), if_pos ⟨rfl, q⟩]
    | some o =>
      have e := KX a o q
      rw [ha] at e
      cases e
      exact .inr ⟨_, vs.toArray, _, q, rfl, rfl, rfl, by rw [List.size_toArray, hi.length]; exact hl, by simpa using rv⟩
  have hok : HOk P w H s₁.heap := fun b u e => by
    rcases inv e with ⟨p, hp, z, eu⟩ | ⟨z, _, eu⟩
    · subst eu; rw [← z]; exact hT p hp
    · subst eu; rw [z]; exact ⟨ha, by rw [List.length_map]; exact hl, vs, _, rv, ha⟩
  have tabs : ∀ p ∈ cs, LamX.TabB (hidT s₁.heap H) mg p.1 p.2 := fun p hp => by
    obtain ⟨oM, esM, epM, eM, dM, _⟩ := hns
    have gM : mainGlobals ≠ p.2 := fun z => by
      rw [z, hT p hp] at eM
      cases eM
      cases dM
    refine ⟨?_, ?_, gM⟩
    · obtain ⟨o, us, file, tf, flags, tg, inF, text, tt, e1, r1, r2, r3, r⟩ := C p hp
      refine ⟨o, us, file, tf, flags, tg, inF, text, tt, up e1 (by rw [r2]; exact fun z => nomatch z) (fun z => ?_), r1, r2, r3, r⟩
      rw [r2] at z
      cases z
      simp at r3
    · obtain ⟨bm, ob, b1, b2, b3, b4, b5, b6⟩ := hbm
      refine ⟨bm, ob, b1, b2, fun z => ?_, fun z => ?_, up b3 (by rw [b6]; exact fun z => nomatch z) (by rw [b6]; exact fun z => nomatch z), b4, b5, b6⟩
      · rw [z, eM] at b3
        cases b3
        rw [dM] at b6
        cases b6
      · rw [z, hT p hp] at b3
        cases b3
        cases b6
  have blt : ∃ mb, (hidT s₁.heap H).Ns builtinsNs mb ∧ ∀ x : Str, x ≠ "__name__" → mb x = bootBuiltins x := ⟨mb, ups hb, hbb⟩
  have nl : (hidT s₁.heap H).NoLimit := let ⟨mc, h1, h2⟩ := hlim; ⟨mc, ups h1, h2⟩
  have e0 : Env0 P w K mg (hidT s₁.heap H) callerA [] s₁ H := ⟨rfl, ⟨kb, ups hns, blt, nl⟩, fun b o e => of_hidT e, Nat.le_of_eq (hidT_size _ _), trivial, fun b hb => absurd hb (List.not_mem_nil), hok, .of_eq hg⟩
  refine codeAny_mono (F _ kb (ups hns) tabs blt nl callerA [] s₁ H [.ref a] [.ref a] _ _ (fun _ => rfl) hr e0 (.cons rfl .nil) (hsp H tabH stl)) fun r s' q => ?_
  cases r with
  | error e =>
    obtain ⟨_, _, _, _, _, _, _, _, _, _, _, _, z⟩ := (show L2.CX P w [] H s₁ (fun _ _ _ => False) e s' from q)
    exact z.elim
  | ok fl =>
    cases fl with
    | ret u =>
      obtain ⟨v, H', os, bare, un, hok', r', rfl⟩ := q
      have r' : u = .bool true := r'
      subst r'
      have at_ : ∀ b o, s₁.heap.get? b = some o → s'.heap.get? b = some o ∨ ∃ p ∈ cs, p.2 = b ∧ ∃ more : Array Value, s'.heap.get? b = some { cls := .none, data := .fields more } := fun b o e => by
        cases q : H b with
        | none => exact .inl (un.keep b o e q List.not_mem_nil List.not_mem_nil)
        | some u =>
          rcases inv q with ⟨p, hp, z, eu⟩ | ⟨z, _, eu⟩
          · subst eu
            obtain ⟨more, z2⟩ := un.tbls b #[] q
            exact .inr ⟨p, hp, z, _, hok' b _ z2⟩
          · subst eu
            have e2 := (hok' b _ (un.frzs b _ _ q)).1
            rw [z, ha] at e
            cases e
            exact .inl e2
      refine ⟨rfl, ⟨fun b o e => ?_, fun b o e => ?_⟩, os, bare⟩
      · rcases at_ b o e with z | ⟨p, hp, z, more, z2⟩
        · exact .inl z
        · subst z
          rw [hT p hp] at e
          cases e
          exact .inr (.inl ⟨((C p hp).tab (hT p hp)).isCodeTable, rfl, #[], more, rfl, by rw [Array.empty_append]; exact z2⟩)
      · rcases at_ b o e with z | ⟨p, hp, z, more, z2⟩
        · exact ⟨o, z⟩
        · exact ⟨_, z2⟩
    | next => exact False.elim q
    | brk => exact False.elim q
    | cont => exact False.elim q
end GS
-- GsEnd2
namespace GS
open PySem PySem.Spec PyProof.Rows L2

/-- where a class's method, a property's def stands -/
def mAd (K : PySem.W.Frag) (c m : Str) : Addr := match PySem.W.findIn K (.ref (He.ga K c)) m with
  | some (some (.ref q)) => (match PySem.W.recIn K q "property" with
    | some (.ref g :: _) => g
    | _ => q)
  | _ => 0
def adK (K : PySem.W.Frag) (d : He.Defn) : Addr := match d.2 with
  | none => He.ga K d.1
  | some m => mAd K d.1 m
def fdOf (K : PySem.W.Frag) (a : Addr) : Option FuncData := match K.lookup a with
  | some ⟨_, _, .func fd, _⟩ => some fd
  | _ => none
def fnA (K : PySem.W.Frag) (d : He.DefD) : He.FnW := (fdOf K (adK K d.at_)).map fun fd => (fd.name, fd.qualname, fd.params, fd.body, fd.scope, fd.globals, fd.closure, fd.builtins)
def okA (K : PySem.W.Frag) (d : He.DefD) : Bool := PySem.W.keepIn K (.ref (adK K d.at_)) && (match fdOf K (adK K d.at_) with
  | some fd => PySem.W.codeIn K fd.code d.qual && (He.dflB K fd.defaults (d.dvs K) && He.kwdB K fd.kwdefaults (d.kws K))
  | none => false)
theorem fdOf_eq {K : PySem.W.Frag} {a : Addr} {fd : FuncData} (h : fdOf K a = some fd) : ∃ oc od osl, K.lookup a = some ⟨oc, od, .func fd, osl⟩ := by
  unfold fdOf at h
  split at h
  · rename_i e
    cases h
    exact ⟨_, _, _, e⟩
  · cases h
theorem funA {K : PySem.W.Frag} {d : He.DefD} (e : fnA K d = d.val) (c : okA K d = true) : ∃ fd, FunD K d.name d.qual d.params d.body d.scope (d.dvs K) (d.kws K) (adK K d.at_) fd := by
  unfold okA at c
  unfold fnA at e
  rw [Bool.and_eq_true] at c
  obtain ⟨kp, c⟩ := c
  cases q : fdOf K (adK K d.at_) with
  | none => rw [q] at c; cases c
  | some fd =>
    obtain ⟨oc, od, osl, lk⟩ := fdOf_eq q
    rw [q] at c e
    obtain ⟨n1, n2, n3, n4, n5, n6, n7, n8, n9, n10, n11, n12, n13, n14, n15⟩ := fd
    unfold He.DefD.val at e
    simp only [Option.map_some, Option.some.injEq, Prod.mk.injEq] at e
    obtain ⟨rfl, rfl, rfl, rfl, rfl, rfl, rfl, rfl⟩ := e
    simp only [Bool.and_eq_true] at c
    exact ⟨_, ⟨oc, od, n8, n9, n10, n11, n12, n13, n14, osl, rfl, lk, c.1, He.dflB_ok c.2.1, He.kwdB_ok c.2.2⟩, kp⟩
/-- what is told of the written part: the defs, one more Bool, the defs' tables, the methods -/
structure SaysG (fa : List He.Fa) (fn fp : List He.DefD) (tf : List He.Defn) (ex : PySem.W.Frag → Bool) (h : Heap) (K : PySem.W.Frag) : Prop where
  d : He.SaysD fa fn K
  more : ex K = true
  mt : ∀ d ∈ fp, ∃ fd, FunD K d.name d.qual d.params d.body d.scope (d.dvs K) (d.kws K) (adK K d.at_) fd
  hd : ∀ p ∈ tf, PySem.W.codeHdIn K (He.cT K p).1 (He.cT K p).2 = true
  out : ∀ p ∈ tf, K.lookup (He.cT K p).2 = none
  empty : ∀ p ∈ tf, h.get? (He.cT K p).2 = some { cls := .none, data := .fields #[] }
/-- the part: what stands at these addresses -/
def frS (n : List Addr) (g : Addr → Option Obj) : PySem.W.Frag := He.frT g n
abbrev AlG : Type := He.AlD × Bool × Bool × List He.FnW
def valG (fn fp : List He.DefD) : AlG := (He.valD fn, true, true, fp.map He.DefD.val)
def obsS (n : List Addr) (fa : List He.Fa) (fn fp : List He.DefD) (tf : List He.Defn) (ex : PySem.W.Frag → Bool) (g : Addr → Option Obj) : AlG := (He.obsD fa fn (frS n g), ex (frS n g) && He.tabsB g tf (frS n g), fp.all (okA (frS n g)), fp.map (fnA (frS n g)))
theorem says_of {n : List Addr} {fa : List He.Fa} {fn fp : List He.DefD} {tf : List He.Defn} {ex : PySem.W.Frag → Bool} {h : Heap} (e : obsS n fa fn fp tf ex h.get? = valG fn fp) : SaysG fa fn fp tf ex h (frS n h.get?) := by
  obtain ⟨e1, e3⟩ := Prod.mk.inj e
  obtain ⟨e2, e4⟩ := Prod.mk.inj e3
  obtain ⟨e5, e6⟩ := Prod.mk.inj e4
  rw [Bool.and_eq_true] at e2
  have key : ∀ p ∈ tf, PySem.W.codeHdIn (frS n h.get?) (He.cT (frS n h.get?) p).1 (He.cT (frS n h.get?) p).2 = true ∧ ∃ o, h.get? (He.cT (frS n h.get?) p).2 = some o ∧ He.emptyTab o = true := fun p hp => by
    have z := List.all_eq_true.mp e2.2 p hp
    rw [Bool.and_eq_true] at z
    refine ⟨z.1, ?_⟩
    cases q : h.get? (He.cT (frS n h.get?) p).2 with
    | none => rw [q] at z; exact absurd z.2 Bool.false_ne_true
    | some o => rw [q] at z; exact ⟨o, rfl, z.2⟩
  exact ⟨e1, e2.1, fun d hd => funA (List.map_inj_left.mp e6 d hd) (List.all_eq_true.mp e5 d hd), fun p hp => (key p hp).1, fun p hp => by obtain ⟨_, o, q, z⟩ := key p hp; exact He.frT_none q z, fun p hp => by obtain ⟨_, o, q, z⟩ := key p hp; rw [q, He.emptyTab_eq z]⟩
def hookS (n : List Addr) (fa : List He.Fa) (fn fp : List He.DefD) (tf : List He.Defn) (ex : PySem.W.Frag → Bool) : PySem.W.Hook where
  α := AlG
  obs := fun s => obsS n fa fn fp tf ex s.heap.get?
  val := fun _ => valG fn fp
  says := fun _ h => ∃ K : PySem.W.Frag, K.In h ∧ SaysG fa fn fp tf ex h K
  of := fun _ _ e => ⟨_, He.frT_in, says_of e⟩
  keeps := fun _ _ _ ⟨K, hK, c⟩ k => ⟨K, PySem.W.Frag.In.keeps hK k, ⟨c.d, c.more, c.mt, c.hd, c.out, fun p hp => k _ _ (c.empty p hp)⟩⟩
theorem obsS_eq {n : List Addr} {fa : List He.Fa} {fn fp : List He.DefD} {tf : List He.Defn} {ex : PySem.W.Frag → Bool} {g : Addr → Option Obj} {s : Shared} (h : ∀ a, g a = s.heap.get? a) : obsS n fa fn fp tf ex g = (hookS n fa fn fp tf ex).obs s := by
  have e : g = s.heap.get? := funext h
  rw [e] <;> rfl
/-- the law's row, by a promise where no guard stands around -/
theorem walk_ofG {l : PySem.W.OpenLaw} {n k : Nat} {q : Program} {loose : List Str} {XP : (Str → Option Value) → Heap → Prop} {YP : World → Heap → Prop} {d : DefRec} (hn : l.most = some n) (hn2 : n ≤ sizeLine) (hdf : d.params.defaults = []) (hr : Room k callerA)
    (F : ∀ (w : World) (mg : Str → Option Value) (fa : Addr) (h : Heap), YP w h → h.Ns mainGlobals mg → mg d.name = some (.ref fa) → ∃ (K : PySem.W.Frag) (cs : List (Addr × Addr)) (sp : Sp), K.In h ∧ (∀ p ∈ cs, h.get? p.2 = some { cls := .none, data := .fields #[] }) ∧ (∀ p ∈ cs, K.lookup p.2 = none) ∧
      (∀ p ∈ cs, PySem.W.CodeHd h p.1 p.2) ∧ (∀ (H : Hp) (a : Addr) (ns : List Int), ns.length ≤ n → (∀ p ∈ cs, H p.2 = some (.tbl #[])) → StL K H a (ns.map V.int) → sp [.ref a] H (fun v _ => v = .bl true) fun _ _ _ => False) ∧
      ∀ base : Heap, K.In base → base.Ns mainGlobals mg → (∀ p ∈ cs, LamX.TabB base mg p.1 p.2) → (∃ mb, base.Ns builtinsNs mb ∧ ∀ x : Str, x ≠ "__name__" → mb x = bootBuiltins x) → base.NoLimit → FnG true l.prog w K mg base (L2.CX l.prog w) k fa sp) :
    PySem.W.WalkO q loose XP YP l.row.toRowW d [] (fun f vs => PySem.call f vs) := by
  refine Att.attach_callB hn hdf fun w s₀ s₁ mg mb fa o pm cd doc a vs ns G Y ho hd hcd hmg hobj hints hlen hbits hg => ?_
  obtain ⟨K, cs, sp, KX, hT, nT, C, hsp, hF⟩ := F w mg fa _ Y G.T.g hmg
  exact law_callG KX G.T.g G.T.b G.T.builtins G.T.nolimit hg hT nT C G.T.bmain hobj hints (Nat.le_trans hlen hn2) hr hF fun H hH hS => hsp H a ns hlen hH hS
end GS
-- GsAt
namespace GS
open PySem PySem.Spec PyProof.Rows L2
def sclsB (K : PySem.W.Frag) (C : Addr) : Bool := PySem.W.plainGet K C Str.empty && PySem.W.isClsIn K C && PySem.W.plainOver K C && decide (PySem.W.findIn K (.ref C) "__setattr__" = some (some (.builtin "object.__setattr__")))
def methFB (K : PySem.W.Frag) (C : Addr) (m : Str) (a : Addr) : Bool := decide (PySem.W.findIn K (.ref C) m = some (some (.ref a))) && PySem.W.isFn K (.ref a) && PySem.W.keepIn K (.ref a) && PySem.W.fnIn K a
theorem methFB_ok {K : PySem.W.Frag} {C : Addr} {m : Str} {a : Addr} (h : methFB K C m a = true) : MethF K C m a := by
  unfold methFB at h
  simp only [Bool.and_eq_true, decide_eq_true_eq] at h
  exact ⟨⟨h.1.1.1, h.1.1.2, h.1.2⟩, h.2⟩
theorem sclsB_ok {K : PySem.W.Frag} {C : Addr} (h : sclsB K C = true) : SlX.SCls K C := by
  unfold sclsB at h
  simp only [Bool.and_eq_true, decide_eq_true_eq] at h
  exact ⟨h.1.1.1, h.1.1.2, h.1.2, h.2⟩
def slotB (K : PySem.W.Frag) (C : Addr) (f : Str) (i : Nat) : Bool := match PySem.W.findIn K (.ref C) f with
  | some (some (.ref p)) => decide (PySem.W.specialIn K (.ref p) "__get__" = some (some (.builtin "member_descriptor.__get__"))) && decide (PySem.W.takesIn K (.ref p) = some true) && decide (PySem.W.typeIn K (.ref p) = some (.type "member_descriptor")) && decide (PySem.W.slotIn K p C = some i) && decide (i < 1000)
  | _ => false
theorem slotB_ok {K : PySem.W.Frag} {C : Addr} {f : Str} {i : Nat} (h : slotB K C f i = true) : ∃ p, SlX.Slot1 K C f p i := by
  unfold slotB at h
  split at h
  · rename_i p e
    simp only [Bool.and_eq_true, decide_eq_true_eq] at h
    exact ⟨p, e, h.1.1.1.1, h.1.1.1.2, h.1.1.2, h.1.2, h.2⟩
  · cases h
def propB (K : PySem.W.Frag) (C : Addr) (f : Str) (a : Addr) : Bool := match PySem.W.findIn K (.ref C) f with
  | some (some (.ref p)) => decide (PySem.W.specialIn K (.ref p) "__get__" = some (some (.builtin "property.__get__"))) && decide (PySem.W.takesIn K (.ref p) = some true) && (match PySem.W.recIn K p "property" with
    | some (.ref g :: _) => decide (g = a)
    | _ => false)
  | _ => false
theorem propB_ok {K : PySem.W.Frag} {C : Addr} {f : Str} {a : Addr} (h : propB K C f a = true) : ∃ p, PropA K C f p a := by
  unfold propB at h
  split at h
  · rename_i p e
    simp only [Bool.and_eq_true, decide_eq_true_eq] at h
    obtain ⟨⟨h1, h2⟩, h3⟩ := h
    split at h3
    · rename_i g r eg
      have := of_decide_eq_true h3
      subst this
      exact ⟨p, e, h1, h2, r, eg⟩
    · cases h3
  · cases h
def methB (K : PySem.W.Frag) (C : Addr) (m : Str) (a : Addr) : Bool := decide (PySem.W.findIn K (.ref C) m = some (some (.ref a))) && PySem.W.isFn K (.ref a) && PySem.W.keepIn K (.ref a)
theorem methB_ok {K : PySem.W.Frag} {C : Addr} {m : Str} {a : Addr} (h : methB K C m a = true) : Meth K C m a := by
  unfold methB at h
  simp only [Bool.and_eq_true, decide_eq_true_eq] at h
  exact ⟨h.1.1, h.1.2, h.2⟩
def mkB (K : PySem.W.Frag) (C a : Addr) : Bool := PySem.W.makesIn K C && decide (PySem.W.findIn K (.ref C) "__init__" = some (some (.ref a))) && PySem.W.isFn K (.ref a) && PySem.W.keepIn K (.ref C)
theorem mkB_ok {K : PySem.W.Frag} {C a : Addr} (h : mkB K C a = true) : Mk K C a := by
  unfold mkB at h
  simp only [Bool.and_eq_true, decide_eq_true_eq] at h
  exact ⟨h.1.1.1, h.1.1.2, h.1.2, h.2⟩
end GS
-- GsAll
namespace GS
open PySem PySem.Spec PyProof.Rows L2
section
variable {Pr : Program} {w : World} {K : PySem.W.Frag} {mg : Str → Option Value} {base : Heap} {P : Pg} {G : Gl0} {D : List (Str × Dc)} {ad : Nat → Addr}
/-- a run of a def -/
abbrev spF (P : Pg) (K : PySem.W.Frag) (G : Gl0) (Cl : GS.Cl) (F : FnI) : Sp := fun vs H Q E => ∃ m h ws, HR K G m h H ∧ RWs K m H ws vs ∧ (runF P Cl F ws h).post (OkP K G m H Q) (ExP K G E m H)
theorem rC_call {k f : Nat} {F : FnI} (h : P.fns f = some F) (ws : List W) (hs : Hs) : (rC P (k + 1)).call f ws hs = runF P (rC P k) F ws hs := by
  cases k with
  | zero => show (match P.fns f with | some F => runF P ⟨fun _ _ _ => .no, fun _ _ _ => .no⟩ F ws hs | none => P.ext 1 f ws hs) = _; rw [h]; rfl
  | succ k => show (match P.fns f with | some F => runF P (rC P (k + 1)) F ws hs | none => P.ext (k + 2) f ws hs) = _; rw [h]
theorem rC_ext {k f : Nat} (h : P.fns f = none) (ws : List W) (hs : Hs) : (rC P (k + 1)).call f ws hs = P.ext (k + 1) f ws hs := by
  cases k with
  | zero => show (match P.fns f with | some F => runF P ⟨fun _ _ _ => .no, fun _ _ _ => .no⟩ F ws hs | none => P.ext 1 f ws hs) = _; rw [h]
  | succ k => show (match P.fns f with | some F => runF P (rC P (k + 1)) F ws hs | none => P.ext (k + 2) f ws hs) = _; rw [h]
theorem all_fn (stepK : ∀ m c f k0 w0, D.lookup (atK m) = some (.mtk c f k0 w0) → ∃ F dv, P.fns f = some F ∧ (∀ m H, RW K m H w0 dv) ∧ ∀ k, (∀ i, i ≤ k → AllFn P Pr w K mg base G D ad (rC P i) (2 * i + 3)) → FnK Pr w K mg base (L2.CX Pr w) (2 * k + 5) (ad f) k0 dv (spF P K G (rC P k) F))
    (step : ∀ x f b, isD P D x f b → (∃ F, P.fns f = some F ∧ ∀ k, (∀ i, i ≤ k → AllFn P Pr w K mg base G D ad (rC P i) (2 * i + 3)) → FnG b Pr w K mg base (L2.CX Pr w) (2 * k + 5) (ad f) (spF P K G (rC P k) F)) ∨
      (P.fns f = none ∧ ∀ k, (∀ i, i ≤ k → AllFn P Pr w K mg base G D ad (rC P i) (2 * i + 3)) → FnG b Pr w K mg base (L2.CX Pr w) (2 * k + 5) (ad f) (fun vs H Q E => ∃ m h ws, HR K G m h H ∧ RWs K m H ws vs ∧ (P.ext (k + 1) f ws h).post (OkP K G m H Q) (ExP K G E m H)))) :
    ∀ k, AllFn P Pr w K mg base G D ad (rC P k) (2 * k + 3) := by
  intro k
  induction k using Nat.strongRecOn with
  | ind k ih =>
    cases k with
    | zero =>
      refine ⟨fun x f b hx A outer s H us vs Q E _ _ _ _ ⟨_, _, _, _, _, p⟩ => p.elim, fun m c f k0 w0 h => ?_⟩
      obtain ⟨F, dv, _, hd, _⟩ := stepK m c f k0 w0 h
      exact ⟨dv, hd, ⟨fun A outer s H u1 u2 v1 v2 Q E _ _ _ _ ⟨_, _, _, _, _, p⟩ => p.elim, fun A outer s H u1 v1 Q E _ _ _ ⟨_, _, _, _, _, p⟩ => p.elim⟩⟩
    | succ k =>
      refine ⟨fun x f b hx => ?_, fun m c f k0 w0 h => ?_⟩
      rotate_left
      · obtain ⟨F, dv, hF, hd, hs⟩ := stepK m c f k0 w0 h
        have q := hs k fun i hi => ih i (Nat.lt_succ_of_le hi)
        have key : ∀ vs H Q E, spC K G (rC P (k + 1)) f vs H Q E → spF P K G (rC P k) F vs H Q E := fun vs H Q E ⟨m, h, ws, h1, h2, p⟩ => ⟨m, h, ws, h1, h2, by rw [rC_call hF] at p; exact p⟩
        exact ⟨dv, hd, ⟨fun A outer s H u1 u2 v1 v2 Q E hr e0 r1 r2 hs => q.kw A outer s H u1 u2 v1 v2 Q E hr e0 r1 r2 (key _ _ _ _ hs), fun A outer s H u1 v1 Q E hr e0 r1 hs => q.no A outer s H u1 v1 Q E hr e0 r1 (key _ _ _ _ hs)⟩⟩
      rcases step x f b hx with ⟨F, hF, hs⟩ | ⟨hF, hs⟩
      · exact (hs k fun i hi => ih i (Nat.lt_succ_of_le hi)).imp fun vs H Q E ⟨m, h, ws, h1, h2, p⟩ => ⟨m, h, ws, h1, h2, by rw [rC_call hF] at p; exact p⟩
      · exact (hs k fun i hi => ih i (Nat.lt_succ_of_le hi)).imp fun vs H Q E ⟨m, h, ws, h1, h2, p⟩ => ⟨m, h, ws, h1, h2, by rw [rC_ext hF] at p; exact p⟩
end
end GS
-- GsExt
namespace GS
open PySem PySem.Spec PyProof.Rows L2
/-- n ints -/
def bagN : Nat → List W
  | 0 => []
  | n + 1 => .aint :: bagN n
def isBag (n : Nat) : O → Bool
  | .lst ws => Nat.beq ws.length n && ws.all isI
  | _ => false
/-- a def of a bag says yes -/
def extBag (n : Nat) (ws : List W) (h : Hs) : R W := match ws with
  | [.obj b] => (match h.get b with
    | some o => if isBag n o = true then .ok (.bl true) (h.set b (.lst (bagN n))) else .no
    | none => .no)
  | _ => .no
def hBag (n : Nat) : Hs := ⟨1, [.lst (bagN n)]⟩
def okBag (n : Nat) : R W → Bool
  | .ok (.bl true) h => (hBag n).keeps h
  | _ => false
section
variable {K : PySem.W.Frag} {G : Gl0} {m m' : Mp} {h h' : Hs} {H H' : Hp}
def m1 (a : Addr) : Mp := fun i => if i = 0 then some a else none
theorem m1_0 {a : Addr} : m1 a 0 = some a := rfl
theorem m1_inv {a b : Addr} {n : Nat} (e : m1 a n = some b) : n = 0 ∧ b = a := by
  unfold m1 at e
  split at e
  · cases e; exact ⟨by assumption, rfl⟩
  · cases e
theorem bag_in {n : Nat} {o : O} (hb : isBag n o = true) : ∃ ws, o = .lst ws ∧ ws.length = n ∧ ws.all isI = true := by
  unfold isBag at hb
  split at hb
  · rw [Bool.and_eq_true] at hb
    exact ⟨_, rfl, Nat.eq_of_beq_eq_true hb.1, hb.2⟩
  · cases hb
theorem bag_rel (m' : Mp) (H' : Hp) : ∀ {n : Nat} {ws : List W} {vs : List V}, RWs K m H ws vs → ws.length = n → ws.all isI = true → RWs K m' H' (bagN n) vs
  | 0, _, _, .nil, _, _ => .nil
  | 0, _, _, .cons _ _, h, _ => by cases h
  | n + 1, _, _, .nil, h, _ => by cases h
  | n + 1, _, _, .cons q r, h, hi => by
    rw [List.all_cons, Bool.and_eq_true] at hi
    obtain ⟨i, rfl⟩ := int_of q hi.1
    exact .cons (.aint i) (bag_rel m' H' r (by simpa using h) hi.2)
theorem bag_pure : ∀ n : Nat, W.pures (bagN n) = true
  | 0 => rfl
  | n + 1 => by rw [bagN, W.pures, bag_pure n]; rfl
theorem bag_start {N : Nat} (hr : HR K G m h H) {b : Nat} {a : Addr} {o : O} (e : m b = some a) (eo : h.get b = some o) (hb : isBag N o = true) : HR K G (m1 a) (hBag N) H where
  len := rfl
  dom := fun n hn => ⟨a, by
    have hn : n < 1 := hn
    have : n = 0 := by omega
    rw [this]; rfl⟩
  dom' := fun n b e => by
    obtain ⟨rfl, _⟩ := m1_inv e
    exact Nat.zero_lt_one
  inj := fun i j b e1 e2 => by
    obtain ⟨rfl, _⟩ := m1_inv e1
    obtain ⟨rfl, _⟩ := m1_inv e2
    rfl
  ob := fun n b' o' e1 e2 => by
    obtain ⟨rfl, rfl⟩ := m1_inv e1
    have e3 : (hBag N).get 0 = some (.lst (bagN N)) := rfl
    rw [e3] at e2
    cases e2
    obtain ⟨ws, rfl, hl, hi⟩ := bag_in hb
    obtain ⟨vs, e4, q⟩ := hr.lst e eo
    exact ⟨vs, e4, bag_rel _ _ q hl hi⟩
  tab := hr.tab
theorem bag_end {N : Nat} (hr : HR K G m h H) {b : Nat} {a : Addr} (e : m b = some a) (h1 : HR K G (m1 a) (hBag N) H) (s : Stp (m1 a) H m' H') (hr' : HR K G m' h' H') (hk : (hBag N).keeps h' = true) : Stp m H m H' ∧ HR K G m (h.set b (.lst (bagN N))) H' := by
  obtain ⟨_, hg⟩ := keeps_get h1.len hr'.len hk
  have hb : h'.get 0 = some (.lst (bagN N)) := by rw [hg 0 Nat.zero_lt_one]; rfl
  have ma : m' 0 = some a := s.le 0 a m1_0
  obtain ⟨vs, ea, q⟩ := hr'.lst ma hb
  have other : ∀ {n : Nat} {c : Addr}, m n = some c → c ≠ a → H' c = H c := fun {n c} ec hne => by
    obtain ⟨u, hu, mu⟩ := hr.mut ec
    rw [hu]
    exact s.kp c u hu (fun j z => hne (m1_inv z).2) (fun ps z => by subst z; exact mu) fun ps z => by subst z; exact mu
  refine ⟨⟨fun _ _ z => z, fun c o ec hn ht hw => s.kp c o ec (fun j z => hn b (by rw [(m1_inv z).2]; exact e)) ht hw, fun n c ec => .inl ec, s.al, fun c y ec hn => s.ko c y ec (fun j z => hn b (by rw [(m1_inv z).2]; exact e))⟩, ?_⟩
  exact {
    len := by simp [Hs.set, hr.len]
    dom := hr.dom
    dom' := hr.dom'
    inj := hr.inj
    ob := fun n c o ec eo => by
      rw [get_set hr.len (hr.dom' b a e) n (hr.dom' n c ec)] at eo
      split at eo
      · rename_i hn
        subst hn
        rw [e] at ec; cases ec; cases eo
        exact ⟨vs, ea, q.ofPure (fun _ _ _ z => z) (bag_pure N)⟩
      · rename_i hn
        have hne : c ≠ a := fun z => by subst z; exact hn (hr.inj n b c ec e)
        exact (hr.ob n c o ec eo).mapW (other ec hne) (fun x z => s.kp x _ z (fun j y => by obtain ⟨u, hu, mu⟩ := hr.mut e; rw [(m1_inv y).2, hu] at z; cases z; exact mu) (fun _ y => by cases y) (fun _ y => by cases y)) (fun x y z => s.ko x y z (fun j q => by obtain ⟨u, hu, mu⟩ := hr.mut e; rw [(m1_inv q).2, hu] at z; cases z; exact mu)) fun _ _ z => z.mono (fun _ _ z => z) fun k _ _ => h1.sq s k
    tab := hr'.tab }
theorem ext_bag {N : Nat} {E : XK} {Q : VK} {ws : List W} {vs : List V} {run : List W → Hs → R W} (ev : okBag N (run [.obj 0] (hBag N)) = true) (hr : HR K G m h H) (rs : RWs K m H ws vs) (p : (extBag N ws h).post (OkP K G m H Q) (ExP K G E m H)) :
    ∃ m1 h1 ws1, HR K G m1 h1 H ∧ RWs K m1 H ws1 vs ∧ (run ws1 h1).post (OkP K G m1 H Q) (ExP K G E m1 H) := by
  unfold extBag at p
  split at p
  · rename_i b
    split at p
    · rename_i o eo
      split at p
      · rename_i hb
        cases rs with
        | cons q rs =>
          cases rs
          cases q with
          | @obj _ a e =>
            have h1 := bag_start hr e eo hb
            refine ⟨m1 a, hBag N, [.obj 0], h1, .cons (.obj m1_0) .nil, ?_⟩
            unfold okBag at ev
            split at ev
            · rename_i k er
              rw [er]
              intro m' H' x s hr' q
              cases q
              obtain ⟨s2, hr2⟩ := bag_end hr e h1 s hr' ev
              exact p m H' _ s2 hr2 (.bl true)
            · cases ev
      · exact p.elim
    · exact p.elim
  · exact p.elim
/-- the def that says yes of a bag, at the level where it does -/
theorem fn_bag {Pr : Program} {w : World} {mg : Str → Option Value} {base : Heap} {P : Pg} {f : Nat} {F : FnI} {a : Addr} {b : Bool} {lv k N : Nat} (he : ∀ k ws h, P.ext k f ws h = match Nat.beq k lv with | true => extBag N ws h | false => .no)
    (ev : ∀ k, k + 1 = lv → okBag N (runF P (rC P k) F [.obj 0] (hBag N)) = true) (hf : FnG b Pr w K mg base (L2.CX Pr w) (2 * k + 5) a (spF P K G (rC P k) F)) :
    FnG b Pr w K mg base (L2.CX Pr w) (2 * k + 5) a (fun vs H Q E => ∃ m h ws, HR K G m h H ∧ RWs K m H ws vs ∧ (P.ext (k + 1) f ws h).post (OkP K G m H Q) (ExP K G E m H)) := by
  refine hf.imp fun vs H Q E ⟨m, h, ws, hr, rs, p⟩ => ?_
  rw [he] at p
  split at p
  · rename_i hk
    exact ext_bag (run := runF P (rC P k) F) (ev k (Nat.eq_of_beq_eq_true hk)) hr rs p
  · exact p.elim
end
end GS
-- GsLaw
namespace GS
open PySem PySem.Spec PyProof.Rows L2
section
variable {Pr : Program} {w : World} {K : PySem.W.Frag} {mg : Str → Option Value} {base : Heap} {P : Pg} {G : Gl0} {D : List (Str × Dc)} {ad : Nat → Addr}
/-- the law's catcher, as it stands -/
structure Ctch (Pr : Program) (w : World) (K : PySem.W.Frag) (mg : Str → Option Value) (base : Heap) (P : Pg) (G : Gl0) (x a : Str) where
  g : Addr
  pg : Arguments
  bg : List Stmt
  sg : Scope
  dV : Value
  kV : Value
  doc : Value
  pm : Value
  cdv : Value
  ct : Value
  oc : Value
  an : Option Addr
  od : Option Addr
  osl : Array (Option Value)
  Ng : List Str
  l : List Cls1
  tf : Hp → VK → Prop
  hm : mg x = some (.ref g)
  hk : PySem.W.keepIn K (.ref g) = true
  lk : K.lookup g = some ⟨oc, od, .func (PySem.W.fnOf x x pg bg sg dV kV doc pm an cdv ct), osl⟩
  hcg : PySem.W.codeIn K cdv x = true
  hb : L2.Binds K (PySem.W.fnOf x x pg bg sg dV kV doc pm an cdv ct) [a] []
  Sg : FnScope Ng [a] sg
  hNg : Ng[0]? = some a
  hva : Vis sg a
  ha1 : (a == ("__debug__" : Str)) = false
  ha2 : (a == ("__classdict__" : Str)) = false
  hx1 : (x == ("__debug__" : Str)) = false
  hG : ∀ X : Cx, X.prog = Pr → X.w = w → X.K = K → X.mg = mg → X.base = base → X.A.guards = some [] → X.A.units + 80 < cLine → LamX.GivesTo X Ng x sg g cdv bg a (X.env.qual ++ "<lambda>") (TTm K l tf)
  fine : ∀ (m : Mp) (h : Hs) (H : Hp) (Q : VK), HR K G m h H → OkP K G m H Q P.fine h → tf H Q
  caught : ∀ c w x, P.hnd c w = some x → ∀ (m : Mp) (h : Hs) (H : Hp) (Q : VK), HR K G m h H → OkP K G m H Q x h → ExE K G (wRet K Q l) c w m H
theorem met_of (L : Lw Pr w K mg base G D ad) {k : Nat} {N ps : List Str} {qual : Str} {scope : Scope} {f c Pt : Addr} {cd : Value} {A : Around} {outer : List PySem.Env} {s : Shared} {H : Hp} {E : XK} {x a : Str} (S : FnScope N ps scope) (T : Ctch Pr w K mg base P G x a)
    (hgd : A.guards = some []) (hr : Room (2 * k + 3 + 1) (A.deeper (envOfC qual scope s.heap.objs.size f cd))) (hf : ∀ i, i ≤ k → AllFn P Pr w K mg base G D ad (rC P i) (2 * i + 3)) (hgl : scope.names.lookup x = some .globalImplicit)
    (TB : LamX.TabB base mg c Pt) (hcode : cd = .ref c) (hmT : (Pt, (qual ++ ".<locals>.") ++ "<lambda>") ∈ G.T) (hu : ∀ p ∈ G.T, p.1 = Pt → p.2 = (qual ++ ".<locals>.") ++ "<lambda>") :
    MetAt P G (rC P k) ⟨N, scope, D, some x, fun _ => true, true⟩ E (cxOf (L2.CX Pr w) Pr w K mg base N qual scope f cd A outer s H E) := by
  have no : ∀ (r : Env → Hs → R W), (∀ v h, r v h = .no) → ∀ (e : Expr), PE (cxOf (L2.CX Pr w) Pr w K mg base N qual scope f cd A outer s H E) e (TR K G E r) := fun r hn e =>
    PE.no fun σ H Q ⟨_, _, _, _, _, p⟩ => by rw [hn] at p; exact p
  match k, hr, hf with
  | 0, _, _ => exact ⟨fun z _ body scope e p lpos pos _ _ => no _ (fun _ _ => rfl) _, fun z _ y an q0 p0 i0 j0 body scope own e p lpos pos _ _ _ => no _ (fun _ _ => rfl) _⟩
  | 1, _, _ => exact ⟨fun z _ body scope e p lpos pos _ _ => no _ (fun _ _ => rfl) _, fun z _ y an q0 p0 i0 j0 body scope own e p lpos pos _ _ _ => no _ (fun _ _ => rfl) _⟩
  | k + 2, hr, hf =>
    have ok : XOk P G (rC P (k + 2)) (2 * (k + 2) + 3) ⟨N, scope, D, none, fun _ => true, true⟩ E (cxOf (L2.CX Pr w) Pr w K mg base N qual scope f cd A outer s H E) :=
      (sok_cx (mt := none) L S (by omega) (fun _ => hgd) hr (hf (k + 2) (Nat.le_refl _)) ⟨(fun x z => by cases z), (fun x z => by cases z)⟩).toXOk
    have fns : FnsOk P G (rC P k) (2 * k + 3) ⟨N, scope, D, some x, fun _ => true, true⟩ (cxOf (L2.CX Pr w) Pr w K mg base N qual scope f cd A outer s H E) := {
      fns := fun x f h => ⟨ad f, (L.fad x f h).1, (L.fad x f h).2, (hf k (by omega)).fn x f _ (.inl ⟨h, rfl⟩)⟩
      prp := fun f c g h => by obtain ⟨Ca, p, h1, h2, h3⟩ := L.prp f c g h; exact ⟨Ca, p, _, h1, h2, h3, (hf k (by omega)).fn _ g _ (.inr ⟨c, .inl h, rfl⟩)⟩
      mth := fun f c g h => by obtain ⟨Ca, h1, h2, h3⟩ := L.mth f c g h; exact ⟨Ca, _, h1, h2, h3, (hf k (by omega)).fn _ g _ (.inr ⟨c, .inr (.inl h), rfl⟩)⟩
      mtk := fun f c g k' w0 h => by obtain ⟨Ca, h1, h2, h3⟩ := L.mtk f c g k' w0 h; obtain ⟨dv, h4, h5⟩ := (hf k (by omega)).kw _ _ _ _ _ h; exact ⟨Ca, _, dv, h1, h2, h3, h4, h5⟩
      icl := fun x c g h => by obtain ⟨Ca, h1, h2, h3⟩ := L.icl x c g h; exact ⟨Ca, _, h1, h2, h3, (hf k (by omega)).fn _ g _ (.inr ⟨c, .inr (.inr h), rfl⟩)⟩ }
    exact ⟨met_at (Cl := rC P (k + 2)) (Cl' := rC P k) (C := ⟨N, scope, D, some x, fun _ => true, true⟩) (X := cxOf (L2.CX Pr w) Pr w K mg base N qual scope f cd A outer s H E) rfl ok (by omega) fns (fun y hy => by cases hy; rfl) hgl T.hm T.hk T.lk T.hcg T.hb T.Sg T.hNg T.hva T.ha1 T.ha2 T.hx1
        (T.hG _ rfl rfl rfl rfl rfl hgd (by have := hr.un; show (A.deeper (envOfC qual scope s.heap.objs.size f cd)).units + 80 < cLine; omega)) TB hcode hmT hu T.fine T.caught _ rfl,
      met_atD (Cl := rC P (k + 2)) (Cl' := rC P k) (C := ⟨N, scope, D, some x, fun _ => true, true⟩) (X := cxOf (L2.CX Pr w) Pr w K mg base N qual scope f cd A outer s H E) rfl ok (by omega) fns (fun y hy => by cases hy; rfl) hgl T.hm T.hk T.lk T.hcg T.hb T.Sg T.hNg T.hva T.ha1 T.ha2 T.hx1
        (T.hG _ rfl rfl rfl rfl rfl hgd (by have := hr.un; show (A.deeper (envOfC qual scope s.heap.objs.size f cd)).units + 80 < cLine; omega)) TB hcode hmT hu T.fine T.caught _ rfl⟩
-- GsLaw
theorem wRet_hit {Q : VK} {cls : Value} {d : Option Addr} {H : Hp} {c : Value} {te : Addr → Value → Option Addr → Hp → VK → Prop} {r : List Cls1} (e : PySem.W.exmOne K cls c = some true) (q : ∀ a, H a = none → te a cls d H Q) : wRet K Q ((c, te) :: r) cls d H :=
  ⟨true, e, fun _ => q, fun z => by cases z⟩
theorem wRet_miss {Q : VK} {cls : Value} {d : Option Addr} {H : Hp} {c : Value} {te : Addr → Value → Option Addr → Hp → VK → Prop} {r : List Cls1} (e : PySem.W.exmOne K cls c = some false) (q : wRet K Q r cls d H) : wRet K Q ((c, te) :: r) cls d H :=
  ⟨false, e, (fun z => by cases z), fun _ => q⟩
/-- return (t,) -/
def tfT (xs : List V) : Hp → VK → Prop := fun H Q => ∀ p, H p = none → Q (.ref p) (upd H p (.tup xs))
/-- return ('word', error.f) -/
def teF (C : Addr) (t f : Str) : Addr → Value → Option Addr → Hp → VK → Prop := fun _ cls d H Q => cls = .ref C ∧ ∃ (dd : Addr) (fs : List (Str × V)) (v : V), d = some dd ∧ H dd = some (.xd fs) ∧ fs.lookup f = some v ∧ ∀ p, H p = none → Q (.ref p) (upd H p (.tup [.str t, v]))
/-- return ('word', error.f[0]) -/
def teF0 (K : PySem.W.Frag) (C : Addr) (t f : Str) : Addr → Value → Option Addr → Hp → VK → Prop := fun _ cls d H Q => cls = .ref C ∧ ∃ (dd : Addr) (fs : List (Str × V)) (a : Addr) (v : V) (vs : List V), d = some dd ∧ H dd = some (.xd fs) ∧ fs.lookup f = some (.ref a) ∧ SqT K H a (v :: vs) ∧ ∀ p, H p = none → Q (.ref p) (upd H p (.tup [.str t, v]))
/-- return ('word', repr(error.f)) -/
def teFR (K : PySem.W.Frag) (C : Addr) (t f : Str) : Addr → Value → Option Addr → Hp → VK → Prop := fun _ cls d H Q => cls = .ref C ∧ ∃ (dd : Addr) (fs : List (Str × V)) (v : V) (dt : PyData), d = some dd ∧ H dd = some (.xd fs) ∧ fs.lookup f = some v ∧ Dp K H v dt ∧ dt.showable = true ∧ dt.hasDict = false ∧ dt.depth ≤ 30 ∧ dt.shown.length ≤ sizeLine ∧
  ∀ p, H p = none → Q (.ref p) (upd H p (.tup [.str t, .str dt.shown]))
/-- return 'word' -/
def tfS (t : Str) : Hp → VK → Prop := fun H Q => Q (.str t) H
/-- return 'word' + repr(error.f) -/
def teSR (K : PySem.W.Frag) (C : Addr) (t f : Str) : Addr → Value → Option Addr → Hp → VK → Prop := fun _ cls d H Q => cls = .ref C ∧ ∃ (dd : Addr) (fs : List (Str × V)) (v : V) (dt : PyData), d = some dd ∧ H dd = some (.xd fs) ∧ fs.lookup f = some v ∧ Dp K H v dt ∧ dt.showable = true ∧ dt.hasDict = false ∧ dt.depth ≤ 30 ∧ dt.shown.length ≤ sizeLine ∧
  t.length + dt.shown.length ≤ sizeLine ∧ Q (.str (t ++ dt.shown)) H
def reprP (t : Str) (w : W) : Option W := match w.pure with
  | true => (match reprW .nil w with
    | some y => if t.length + y.length ≤ sizeLine then some (.str (t ++ y)) else none
    | none => none)
  | false => none
theorem atI0 {v : V} {vs : List V} : atI (v :: vs) 0 = some v := by
  unfold atI
  rw [← ixN_eq]
  unfold ixN
  rw [if_pos (by omega), if_pos (by simp <;> omega)]
  rfl
section
variable {X : Cx}
theorem pe_txt1 {t : Str} {k j : Nat} {p1 p2 : Pos} : PE X (.Tuple [.Constant (.str t) j p1] k p2) (fun _ H Q => tfT [.str t] H Q) :=
  PE.imp (pe_tup (pa_cons pe_str pa_nil rfl)) fun σ H Q q => ⟨by show 1 ≤ sizeLine; decide, q⟩
theorem pe_txtF {a C : Addr} {oe : Obj} {cls : Value} {d : Option Addr} {pn : List (Addr × Obj)} {t f n : Str} {i k j : Nat} {p1 p2 p3 p4 : Pos} (T : XfC X.K C) (hno : PySem.W.findIn X.K (.ref C) f = some none) (hz : Zc cls d oe) (hf : ∃ vs, oe.data = .fields vs)
    (hi : X.N[i]? = some n) (hv : Vis X.env.scope n) (hd : (n == ("__debug__" : Str)) = false) (hc : (n == ("__classdict__" : Str)) = false) :
    PE (X.suite a ((a, oe) :: pn)) (.Tuple [.Constant (.str t) j p1, .Attribute (.Name n p3) f p4] k p2) (fun σ H Q => σ[i]? = some (some (.ref a)) ∧ teF C t f a cls d H Q) := by
  refine PE.imp (pe_tup (pa_cons pe_str (pa_cons (pe_xf (pos := p4) T hno hz hf (pe_var (X := X.suite a ((a, oe) :: pn)) hi hv hd hc) rfl) pa_nil rfl) rfl)) fun σ H Q ⟨e, ec, dd, fs, v, ed, eh, el, q⟩ => ?_
  exact ⟨.ref a, e, rfl, ec, dd, fs, v, ed, eh, el, by show 2 ≤ sizeLine; decide, q⟩
theorem pe_txtFR {a C : Addr} {oe : Obj} {cls : Value} {d : Option Addr} {pn : List (Addr × Obj)} {t f n : Str} {i k j : Nat} {p1 p2 p3 p4 p5 p6 : Pos} (hgd : X.A.guards = some []) (hun : X.A.units + 64 < cLine) (gr : Gl X "repr") (mr : X.mg "repr" = none) (T : XfC X.K C) (hno : PySem.W.findIn X.K (.ref C) f = some none) (hz : Zc cls d oe) (hf : ∃ vs, oe.data = .fields vs)
    (hi : X.N[i]? = some n) (hv : Vis X.env.scope n) (hd : (n == ("__debug__" : Str)) = false) (hc : (n == ("__classdict__" : Str)) = false) :
    PE (X.suite a ((a, oe) :: pn)) (.Tuple [.Constant (.str t) j p1, .Call (.Name "repr" p5) [.Attribute (.Name n p3) f p4] [] p6] k p2) (fun σ H Q => σ[i]? = some (some (.ref a)) ∧ teFR X.K C t f a cls d H Q) := by
  have he := pe_callB (X := X.suite a ((a, oe) :: pn)) (x := "repr") (p := p5) (pos := p6) (call_rep hgd hun) gr mr boot_repr2 (pa_cons (pe_xf (pos := p4) T hno hz hf (pe_var (X := X.suite a ((a, oe) :: pn)) (pos := p3) hi hv hd hc) rfl) pa_nil rfl) (by decide) (by decide) rfl rfl
  refine PE.imp (pe_tup (pa_cons pe_str (pa_cons he pa_nil rfl) rfl)) fun σ H Q ⟨e, ec, dd, fs, v, dt, ed, eh, el, h1, h2, h3, h4, h5, q⟩ => ?_
  exact ⟨.ref a, e, rfl, ec, dd, fs, v, ed, eh, el, v, dt, rfl, h1, h2, h3, h4, h5, by show 2 ≤ sizeLine; decide, q⟩
theorem pe_txtS1 {t : Str} {j : Nat} {p1 : Pos} : PE X (.Constant (.str t) j p1) (fun _ H Q => tfS t H Q) := PE.imp pe_str fun σ H Q q => q
theorem pe_txtSR {a C : Addr} {oe : Obj} {cls : Value} {d : Option Addr} {pn : List (Addr × Obj)} {t f n : Str} {i j : Nat} {p1 p2 p3 p4 p5 p6 : Pos} (hgd : X.A.guards = some []) (hun : X.A.units + 64 < cLine) (gr : Gl X "repr") (mr : X.mg "repr" = none) (T : XfC X.K C) (hno : PySem.W.findIn X.K (.ref C) f = some none) (hz : Zc cls d oe) (hf : ∃ vs, oe.data = .fields vs)
    (hi : X.N[i]? = some n) (hv : Vis X.env.scope n) (hd : (n == ("__debug__" : Str)) = false) (hc : (n == ("__classdict__" : Str)) = false) :
    PE (X.suite a ((a, oe) :: pn)) (.BinOp (.Constant (.str t) j p1) .Add (.Call (.Name "repr" p5) [.Attribute (.Name n p3) f p4] [] p6) p2) (fun σ H Q => σ[i]? = some (some (.ref a)) ∧ teSR X.K C t f a cls d H Q) := by
  have he := pe_callB (X := X.suite a ((a, oe) :: pn)) (x := "repr") (p := p5) (pos := p6) (call_rep hgd hun) gr mr boot_repr2 (pa_cons (pe_xf (pos := p4) T hno hz hf (pe_var (X := X.suite a ((a, oe) :: pn)) (pos := p3) hi hv hd hc) rfl) pa_nil rfl) (by decide) (by decide) rfl rfl
  refine PE.imp (pe_op op_add_str pe_str he) fun σ H Q ⟨e, ec, dd, fs, v, dt, ed, eh, el, h1, h2, h3, h4, h5, h6, q⟩ => ?_
  exact ⟨.ref a, e, rfl, ec, dd, fs, v, ed, eh, el, v, dt, rfl, h1, h2, h3, h4, h5, t, dt.shown, rfl, rfl, h6, q⟩
theorem pe_txtF0 {a C : Addr} {oe : Obj} {cls : Value} {d : Option Addr} {pn : List (Addr × Obj)} {t f n : Str} {i k j j2 : Nat} {p1 p2 p3 p4 p5 p6 : Pos} (T : XfC X.K C) (hno : PySem.W.findIn X.K (.ref C) f = some none) (hz : Zc cls d oe) (hf : ∃ vs, oe.data = .fields vs)
    (hi : X.N[i]? = some n) (hv : Vis X.env.scope n) (hd : (n == ("__debug__" : Str)) = false) (hc : (n == ("__classdict__" : Str)) = false) :
    PE (X.suite a ((a, oe) :: pn)) (.Tuple [.Constant (.str t) j p1, .Subscript (.Attribute (.Name n p3) f p4) (.Constant (.int 0) j2 p5) p6] k p2) (fun σ H Q => σ[i]? = some (some (.ref a)) ∧ teF0 X.K C t f a cls d H Q) := by
  refine PE.imp (pe_tup (pa_cons pe_str (pa_cons (pe_ix ix_tup (pe_xf (pos := p4) T hno hz hf (pe_var (X := X.suite a ((a, oe) :: pn)) hi hv hd hc) rfl) pe_int (fun _ _ => rfl)) pa_nil rfl) rfl)) fun σ H Q ⟨e, ec, dd, fs, b, v, vs, ed, eh, el, st, q⟩ => ?_
  refine ⟨.ref a, e, rfl, ec, dd, fs, .ref b, ed, eh, el, b, v :: vs, 0, v, rfl, rfl, st, atI0, by show 2 ≤ sizeLine; decide, q⟩
end
-- GsLaw
section
variable {m : Mp} {h : Hs} {H : Hp} {Q : VK}
theorem ok_tfT {t : Str} (hr : HR K G m h H) (p : OkP K G m H Q (.tup [.str t]) h) : tfT [.str t] H Q := ok_tup hr (.cons (.str t) .nil) p
theorem ok_teF {C : Addr} {t f : Str} {x : W} {d a : Addr} {v : V} (hr : HR K G m h H) (hd : H d = none) (q : RW K m H x v) (p : OkP K G m H Q (.tup [.str t, x]) h) : teF C t f a (.ref C) (some d) (upd H d (.xd [(f, v)])) Q := by
  have s1 : Stp m H m (upd H d (.xd [(f, v)])) := .tup hd
  refine ⟨rfl, d, _, v, rfl, upd_same, ?_, ?_⟩
  · simp [List.lookup]
  · exact ok_tup (hr.fresh hd) (.cons (.str t) (.cons (hr.rw s1 q) .nil)) (OkP.later s1 p)
theorem ok_teFR {C : Addr} {t f y : Str} {x : W} {d a : Addr} {v : V} (hr : HR K G m h H) (hd : H d = none) (q : RW K m H x v) (hp : x.pure = true) (hx : reprW .nil x = some y) (p : OkP K G m H Q (.tup [.str t, .str y]) h) : teFR K C t f a (.ref C) (some d) (upd H d (.xd [(f, v)])) Q := by
  have s1 : Stp m H m (upd H d (.xd [(f, v)])) := .tup hd
  have hr1 := hr.fresh (o := .xd [(f, v)]) hd
  unfold reprW at hx
  split at hx
  · rename_i dt hdt
    split at hx
    · rename_i hc
      cases hx
      simp only [Bool.and_eq_true, Bool.not_eq_true', decide_eq_true_eq] at hc
      obtain ⟨⟨⟨c1, c2⟩, c4⟩, c5⟩ := hc
      have q1 := (hr.rw s1 q).ofPure (m' := m0) (fun _ _ _ z => z) hp
      exact ⟨rfl, d, _, v, dt, rfl, upd_same, by simp [List.lookup], toD_dp (hr0 hr1) _ q1 hdt, c1, c2, c4, c5, ok_tup hr1 (.cons (.str t) (.cons (.str _) .nil)) (OkP.later s1 p)⟩
    · cases hx
  · cases hx
theorem ok_tfS {t : Str} (hr : HR K G m h H) (p : OkP K G m H Q (.str t) h) : tfS t H Q := ok_val hr (.str t) p
theorem ok_teSR {C : Addr} {t f : Str} {x z : W} {d a : Addr} {v : V} (hr : HR K G m h H) (hd : H d = none) (q : RW K m H x v) (hx : reprP t x = some z) (p : OkP K G m H Q z h) : teSR K C t f a (.ref C) (some d) (upd H d (.xd [(f, v)])) Q := by
  have s1 : Stp m H m (upd H d (.xd [(f, v)])) := .tup hd
  have hr1 := hr.fresh (o := .xd [(f, v)]) hd
  unfold reprP at hx
  split at hx
  · rename_i hp
    split at hx
    · rename_i y hy
      split at hx
      · rename_i hl
        cases hx
        unfold reprW at hy
        split at hy
        · rename_i dt hdt
          split at hy
          · rename_i hc
            cases hy
            simp only [Bool.and_eq_true, Bool.not_eq_true', decide_eq_true_eq] at hc
            obtain ⟨⟨⟨c1, c2⟩, c4⟩, c5⟩ := hc
            have q1 := (hr.rw s1 q).ofPure (m' := m0) (fun _ _ _ z => z) hp
            exact ⟨rfl, d, _, v, dt, rfl, upd_same, by simp [List.lookup], toD_dp (hr0 hr1) _ q1 hdt, c1, c2, c4, c5, hl, ok_val hr1 (.str _) (OkP.later s1 p)⟩
          · cases hy
        · cases hy
      · cases hx
    · cases hx
  · cases hx
theorem ok_teF0 {C : Addr} {t f : Str} {x : W} {xs : List W} {d a : Addr} {v : V} (hr : HR K G m h H) (hd : H d = none) (q : RW K m H (.tup (x :: xs)) v) (p : OkP K G m H Q (.tup [.str t, x]) h) : teF0 K C t f a (.ref C) (some d) (upd H d (.xd [(f, v)])) Q := by
  have s1 : Stp m H m (upd H d (.xd [(f, v)])) := .tup hd
  cases q with
  | tup st rs =>
    cases rs with
    | cons q rs =>
      refine ⟨rfl, d, _, _, _, _, rfl, upd_same, ?_, hr.sqt s1 st, ?_⟩
      · simp [List.lookup]
      · exact ok_tup (hr.fresh hd) (.cons (.str t) (.cons (hr.rw s1 q) .nil)) (OkP.later s1 p)
end
end
end GS
-- GsLw
namespace GS
open PySem PySem.Spec PyProof.Rows L2
/-- the module's names: defs, ints, texts, classes with a field, classes of texts, built-ins -/
def mkD (fnL : List (Str × Nat)) (intL : List (Str × Int)) (strL : List (Str × Str)) (supL txtL : List (Str × Nat)) (bltL : List Str) (atL : List (Str × Dc)) : List (Str × Dc) :=
  fnL.map (fun p => (p.1, Dc.fn p.2)) ++ (intL.map (fun p => (p.1, Dc.cst (.int p.2))) ++ (strL.map (fun p => (p.1, Dc.cst (.str p.2))) ++ (supL.map (fun p => (p.1, Dc.cls p.2)) ++ (txtL.map (fun p => (p.1, Dc.clsT p.2)) ++ (bltL.map (fun x => (x, Dc.blt)) ++ atL)))))
/-- the facts -/
def mkFa (fnL : List (Str × Nat)) (intL : List (Str × Int)) (strL : List (Str × Str)) (supL txtL : List (Str × Nat)) (bltL : List Str) (more : List He.Fa) : List He.Fa :=
  fnL.map (fun p => .glo p.1) ++ (intL.map (fun p => .int p.1 p.2) ++ (strL.map (fun p => .str p.1 p.2) ++ (supL.map (fun p => .glo p.1) ++ (txtL.map (fun p => .glo p.1) ++ (txtL.map (fun p => .exc p.1) ++ (bltL.map (fun x => .free x) ++ more))))))
theorem lk_mem {α : Type} {x : Str} {d : α} : ∀ {l : List (Str × α)}, l.lookup x = some d → (x, d) ∈ l
  | [], h => by cases h
  | (y, e) :: r, h => by
    unfold List.lookup at h
    split at h
    · rename_i q
      cases h
      rw [beq_iff_eq.mp q]
      exact List.mem_cons_self ..
    · exact List.mem_cons_of_mem _ (lk_mem h)
section
variable {fnL : List (Str × Nat)} {intL : List (Str × Int)} {strL : List (Str × Str)} {supL txtL : List (Str × Nat)} {bltL : List Str} {more : List He.Fa} {atL : List (Str × Dc)}
theorem mkD_inv {x : Str} {d : Dc} (h : (mkD fnL intL strL supL txtL bltL atL).lookup x = some d) : (∃ f, d = .fn f ∧ (x, f) ∈ fnL) ∨ (∃ i, d = .cst (.int i) ∧ (x, i) ∈ intL) ∨ (∃ t, d = .cst (.str t) ∧ (x, t) ∈ strL) ∨ (∃ c, d = .cls c ∧ (x, c) ∈ supL) ∨ (∃ c, d = .clsT c ∧ (x, c) ∈ txtL) ∨ (d = .blt ∧ x ∈ bltL) ∨ (x, d) ∈ atL := by
  have m := lk_mem h
  unfold mkD at m
  rw [List.mem_append, List.mem_append, List.mem_append, List.mem_append, List.mem_append, List.mem_append] at m
  rcases m with m | m | m | m | m | m | m
  rotate_left 6
  · exact .inr (.inr (.inr (.inr (.inr (.inr m)))))
  all_goals
    obtain ⟨p, hp, e⟩ := List.mem_map.mp m
    cases e
  · exact .inl ⟨_, rfl, hp⟩
  · exact .inr (.inl ⟨_, rfl, hp⟩)
  · exact .inr (.inr (.inl ⟨_, rfl, hp⟩))
  · exact .inr (.inr (.inr (.inl ⟨_, rfl, hp⟩)))
  · exact .inr (.inr (.inr (.inr (.inl ⟨_, rfl, hp⟩))))
  · exact .inr (.inr (.inr (.inr (.inr (.inl ⟨rfl, hp⟩)))))
/-- what is known of an attribute's name, of a class with slots -/
def AtOk (K : PySem.W.Frag) (mg : Str → Option Value) (G : Gl0) (ad : Nat → Addr) (x : Str) : Dc → Prop
  | .slt c i => ∀ f, x = atK f → ∃ Ca p, G.icls c = some Ca ∧ SlX.SCls K Ca ∧ SlX.Slot1 K Ca f p i
  | .prp c g => ∀ f, x = atK f → ∃ Ca p, G.icls c = some Ca ∧ SlX.SCls K Ca ∧ PropA K Ca f p (ad g)
  | .mth c g => ∀ f, x = atK f → ∃ Ca, G.icls c = some Ca ∧ SlX.SCls K Ca ∧ MethF K Ca f (ad g)
  | .cst w => ∃ v u, mg x = some u ∧ RelV v u ∧ ∀ m H, RW K m H w v
  | .mtk c g k w => ∀ f, x = atK f → ∃ Ca, G.icls c = some Ca ∧ SlX.SCls K Ca ∧ Meth K Ca f (ad g)
  | .icl c g => ∃ Ca, G.icls c = some Ca ∧ mg x = some (.ref Ca) ∧ Mk K Ca (ad g)
  | _ => False
theorem fa_fn {p : Str × Nat} (h : p ∈ fnL) : He.Fa.glo p.1 ∈ mkFa fnL intL strL supL txtL bltL more := by
  unfold mkFa; exact List.mem_append_left _ (List.mem_map.mpr ⟨p, h, rfl⟩)
theorem fa_int {p : Str × Int} (h : p ∈ intL) : He.Fa.int p.1 p.2 ∈ mkFa fnL intL strL supL txtL bltL more := by
  unfold mkFa; exact List.mem_append_right _ (List.mem_append_left _ (List.mem_map.mpr ⟨p, h, rfl⟩))
theorem fa_str {p : Str × Str} (h : p ∈ strL) : He.Fa.str p.1 p.2 ∈ mkFa fnL intL strL supL txtL bltL more := by
  unfold mkFa; exact List.mem_append_right _ (List.mem_append_right _ (List.mem_append_left _ (List.mem_map.mpr ⟨p, h, rfl⟩)))
theorem fa_sup {p : Str × Nat} (h : p ∈ supL) : He.Fa.glo p.1 ∈ mkFa fnL intL strL supL txtL bltL more := by
  unfold mkFa; exact List.mem_append_right _ (List.mem_append_right _ (List.mem_append_right _ (List.mem_append_left _ (List.mem_map.mpr ⟨p, h, rfl⟩))))
theorem fa_txt {p : Str × Nat} (h : p ∈ txtL) : He.Fa.glo p.1 ∈ mkFa fnL intL strL supL txtL bltL more := by
  unfold mkFa; exact List.mem_append_right _ (List.mem_append_right _ (List.mem_append_right _ (List.mem_append_right _ (List.mem_append_left _ (List.mem_map.mpr ⟨p, h, rfl⟩)))))
theorem fa_exc {p : Str × Nat} (h : p ∈ txtL) : He.Fa.exc p.1 ∈ mkFa fnL intL strL supL txtL bltL more := by
  unfold mkFa; exact List.mem_append_right _ (List.mem_append_right _ (List.mem_append_right _ (List.mem_append_right _ (List.mem_append_right _ (List.mem_append_left _ (List.mem_map.mpr ⟨p, h, rfl⟩))))))
theorem fa_blt {x : Str} (h : x ∈ bltL) : He.Fa.free x ∈ mkFa fnL intL strL supL txtL bltL more := by
  unfold mkFa; exact List.mem_append_right _ (List.mem_append_right _ (List.mem_append_right _ (List.mem_append_right _ (List.mem_append_right _ (List.mem_append_right _ (List.mem_append_left _ (List.mem_map.mpr ⟨x, h, rfl⟩)))))))
theorem fa_more {f : He.Fa} (h : f ∈ more) : f ∈ mkFa fnL intL strL supL txtL bltL more := by
  unfold mkFa; exact List.mem_append_right _ (List.mem_append_right _ (List.mem_append_right _ (List.mem_append_right _ (List.mem_append_right _ (List.mem_append_right _ (List.mem_append_right _ h))))))
theorem fa_cls {y : Str} (h : ((supL ++ txtL).any fun p => decide (p.1 = y)) = true) : He.Fa.glo y ∈ mkFa fnL intL strL supL txtL bltL more := by
  obtain ⟨p, hp, e⟩ := List.any_eq_true.mp h
  have e : p.1 = y := of_decide_eq_true e
  rw [← e]
  rcases List.mem_append.mp hp with z | z
  · exact fa_sup z
  · exact fa_txt z
theorem em_of {K : PySem.W.Frag} {fs : List He.Fa} {fn : List He.DefD} (c : He.SaysD fs fn K) {l : List (Str × Str × Bool)} (hl : ∀ f ∈ l.map (fun t => He.Fa.exm t.1 t.2.1 t.2.2), f ∈ fs) {a b : Str} {t : Bool} (h : (a, b, t) ∈ l) : PySem.W.exmOne K (.ref (He.ga K a)) (.ref (He.ga K b)) = some t := He.exm_ok (c.facts (hl _ (List.mem_map.mpr ⟨_, h, rfl⟩)))
/-- raising C(e), for the class x -/
def SupOk (Pr : Program) (w : World) (K : PySem.W.Frag) (mg : Str → Option Value) (base : Heap) (G : Gl0) (x : Str) (c : Nat) : Prop := ∀ (X : Cx) (E : XK), X.prog = Pr → X.w = w → X.K = K → X.mg = mg → X.base = base → X.calm = true → Takes X (fun cls d _ H => E cls d H) → Gl X x → okNm x = true → Room 3 X.A →
    ∀ e te p pos rpos, noStar e = true → PE X e te → PS X (.Raise (some (.Call (.Name x p) [e] [] pos)) none rpos) (tRse K G E c te)
/-- a def of the module's top -/
def dOf (body : List Stmt) (p : Str × Nat) : He.DefD := ⟨(p.1, none), p.1, p.1, defArgs (body.getD p.2 (.Pass ⟨0, 0, 0, 0⟩)), defBody (body.getD p.2 (.Pass ⟨0, 0, 0, 0⟩)), defScope (body.getD p.2 (.Pass ⟨0, 0, 0, 0⟩)), [], []⟩
theorem lw_of {Pr : Program} {w : World} {K : PySem.W.Frag} {mg : Str → Option Value} {h base : Heap} {G : Gl0} {D : List (Str × Dc)} {df : Nat → He.Defn} {fnT : List (Str × Nat)} {body : List Stmt} (hD : D = mkD fnL intL strL supL txtL bltL atL) (X : K.In h) (Gn : h.Ns mainGlobals mg) (c : He.SaysD (mkFa fnL intL strL supL txtL bltL more) (fnT.map (dOf body)) K)
    (hnm : fnL.all (fun p => decide (df p.2 = (p.1, none))) = true) (hat : ∀ p ∈ atL, AtOk K mg G (fun f => adK K (df f)) p.1 p.2) (hfn : fnL.all (fun p => fnT.any fun q => decide (q.1 = p.1)) = true) (hsup : ∀ p ∈ supL, SupOk Pr w K mg base G p.1 p.2) (htxt : ∀ p ∈ txtL, G.cls p.2 = some (He.ga K p.1, none)) :
    Lw Pr w K mg base G D (fun f => adK K (df f)) where
  cst := fun x w e => by
    subst hD
    rcases mkD_inv e with ⟨_, e, _⟩ | ⟨i, e, m⟩ | ⟨t, e, m⟩ | ⟨_, e, _⟩ | ⟨_, e, _⟩ | ⟨e, _⟩ | e
    rotate_left 6
    · exact hat _ e
    all_goals cases e
    · obtain ⟨t, q⟩ := He.int_ok X Gn (c.facts (fa_int m))
      exact ⟨.int i, _, q, ⟨t, rfl⟩, fun _ _ => .int i⟩
    · obtain ⟨u, q⟩ := He.str_ok X Gn (c.facts (fa_str m))
      exact ⟨.str t, _, q, ⟨u, rfl⟩, fun _ _ => .str t⟩
  fad := fun x f e => by
    subst hD
    rcases mkD_inv e with ⟨_, e, m⟩ | ⟨_, e, _⟩ | ⟨_, e, _⟩ | ⟨_, e, _⟩ | ⟨_, e, _⟩ | ⟨e, _⟩ | e
    rotate_left 6
    · exact (show False from hat _ e).elim
    all_goals cases e
    have n := of_decide_eq_true (List.all_eq_true.mp hnm _ m)
    have n : df f = (x, none) := n
    show mg x = some (.ref (adK K (df f))) ∧ PySem.W.keepIn K (.ref (adK K (df f))) = true
    rw [n]
    show mg x = some (.ref (He.ga K x)) ∧ PySem.W.keepIn K (.ref (He.ga K x)) = true
    refine ⟨He.glo_ok X Gn (c.facts (fa_fn m)), ?_⟩
    obtain ⟨q, hq, e⟩ := List.any_eq_true.mp (List.all_eq_true.mp hfn _ m)
    obtain ⟨fd, F⟩ := c.defs (List.mem_map.mpr ⟨q, hq, rfl⟩)
    have e : q.1 = x := of_decide_eq_true e
    have k := F.kp
    have e2 : He.fAd K (dOf body q).at_ = He.ga K x := by rw [← e]; rfl
    rw [e2] at k
    exact k
  slt := fun f c i e => by
    subst hD
    rcases mkD_inv e with ⟨_, e, _⟩ | ⟨_, e, _⟩ | ⟨_, e, _⟩ | ⟨_, e, _⟩ | ⟨_, e, _⟩ | ⟨e, _⟩ | e
    rotate_left 6
    · exact hat _ e f rfl
    all_goals cases e
  prp := fun f c g e => by
    subst hD
    rcases mkD_inv e with ⟨_, e, _⟩ | ⟨_, e, _⟩ | ⟨_, e, _⟩ | ⟨_, e, _⟩ | ⟨_, e, _⟩ | ⟨e, _⟩ | e
    rotate_left 6
    · exact hat _ e f rfl
    all_goals cases e
  mth := fun f c g e => by
    subst hD
    rcases mkD_inv e with ⟨_, e, _⟩ | ⟨_, e, _⟩ | ⟨_, e, _⟩ | ⟨_, e, _⟩ | ⟨_, e, _⟩ | ⟨e, _⟩ | e
    rotate_left 6
    · exact hat _ e f rfl
    all_goals cases e
  mtk := fun f c g k w e => by
    subst hD
    rcases mkD_inv e with ⟨_, e, _⟩ | ⟨_, e, _⟩ | ⟨_, e, _⟩ | ⟨_, e, _⟩ | ⟨_, e, _⟩ | ⟨e, _⟩ | e
    rotate_left 6
    · exact hat _ e f rfl
    all_goals cases e
  icl := fun x c g e => by
    subst hD
    rcases mkD_inv e with ⟨_, e, _⟩ | ⟨_, e, _⟩ | ⟨_, e, _⟩ | ⟨_, e, _⟩ | ⟨_, e, _⟩ | ⟨e, _⟩ | e
    rotate_left 6
    · exact hat _ e
    all_goals cases e
  blt := fun x e => by
    subst hD
    rcases mkD_inv e with ⟨_, e, m⟩ | ⟨_, e, _⟩ | ⟨_, e, _⟩ | ⟨_, e, _⟩ | ⟨_, e, _⟩ | ⟨_, m⟩ | e
    rotate_left 6
    · exact (show False from hat _ e).elim
    all_goals first
      | (cases e; done)
      | exact He.free_ok X Gn (c.facts (fa_blt m))
  cls := fun x n e => by
    subst hD
    rcases mkD_inv e with ⟨_, e, m⟩ | ⟨_, e, _⟩ | ⟨_, e, _⟩ | ⟨_, e, m⟩ | ⟨_, e, _⟩ | ⟨e, _⟩ | e
    rotate_left 6
    · exact (show False from hat _ e).elim
    all_goals cases e
    exact hsup _ m
  clsT := fun x n e => by
    subst hD
    rcases mkD_inv e with ⟨_, e, m⟩ | ⟨_, e, _⟩ | ⟨_, e, _⟩ | ⟨_, e, _⟩ | ⟨_, e, m⟩ | ⟨e, _⟩ | e
    rotate_left 6
    · exact (show False from hat _ e).elim
    all_goals cases e
    intro Y E e1 e2 e3 e4 e5 hc tk hg hn hr m' k p p2 pos rpos
    obtain ⟨x1, x2, x3, x4⟩ := He.exc_ok (c.facts (fa_exc m))
    subst e3
    subst e4
    exact rse_txt PySem.F.excBase_ValueError x1 x2 (raises_own x3 x4) (htxt _ m) hc tk hg hn (He.glo_ok X Gn (c.facts (fa_txt m)))
end
end GS
-- GsTop
namespace GS
open PySem PySem.Spec PyProof.Rows L2
theorem sup_of {Pr : Program} {w : World} {K : PySem.W.Frag} {mg : Str → Option Value} {h base : Heap} {G : Gl0} {x f a : Str} {c : Nat} {B newId initId : String} {bmB : List Value} (X : K.In h) (Gn : h.Ns mainGlobals mg) (FB : ExcBaseFacts B newId initId bmB) (KF : PySem.W.KxsFacts B initId) (SF : StoreFacts B bmB "object.__setattr__" "object")
    (b : supB K Pr.main.file x f a B newId initId bmB = true) (sa : a ≠ "self") (na : okNm a = true)
    (bind : ∀ (name qual : Str) (an1 an2 : Option Expr) (q1 q2 : Pos) (body : List Stmt) (scope : Scope) (kV doc pm : Value) (an : Option Addr) (cdv ct : Value) (cc : Addr) (u1 u2 : Value),
      bindArgs (PySem.W.ksFn name qual ⟨[], [⟨"self", an1, q1⟩, ⟨a, an2, q2⟩], none, [], [], none, []⟩ body scope .none kV doc pm an cdv ct cc) ⟨[u1, u2], []⟩ = pure [((("self" : Str)), u1), (a, u2)])
    (top : (Pr.main.scope.names.lookup ("super" : Str)).isSome = false) (hG : G.cls c = some (He.ga K x, some f)) (hsup : mg "super" = none) : SupOk Pr w K mg base G x c := by
  obtain ⟨b1, b2⟩ := supB_ok b sa na bind top
  intro Y E e1 e2 e3 e4 e5 hc tk hg hn hr e te p pos rpos hns he
  subst e1 e3 e4
  exact rse_sup FB KF SF b2 hG hc tk hg hn (PySem.W.mg_of X Gn b1) hsup hr hns he
section
variable {P : Pg} {D : List (Str × Dc)} {body : List Stmt}
abbrev tp (body : List Stmt) (i : Nat) : Stmt := body.getD i (.Pass ⟨0, 0, 0, 0⟩)
/-- a def with the parameters ps alone -/
structure DefP (P : Pg) (D : List (Str × Dc)) (body : List Stmt) (mt : Option Str) (gb : Bool) (x : Str) (ti : Nat) (F : FnI) : Prop where
  ex : ∃ N ps : List Str, FnScope N ps (defScope (tp body ti)) ∧ F.star = false ∧ F.np = ps.length ∧ F.ns = N.length ∧ CSs P ⟨N, defScope (tp body ti), D, mt, fun _ => true, gb⟩ (defBody (tp body ti)) F.body ∧
    ∀ (kV doc pm : Value) (an : Option Addr) (cdv ct : Value) (us : List Value), us.length = ps.length → bindArgs (PySem.W.fnOf x x (defArgs (tp body ti)) (defBody (tp body ti)) (defScope (tp body ti)) .none kV doc pm an cdv ct) ⟨us, []⟩ = pure (ps.zip us)
/-- a def whose last parameter takes the rest -/
structure DefS (P : Pg) (D : List (Str × Dc)) (body : List Stmt) (x : Str) (ti : Nat) (F : FnI) : Prop where
  ex : ∃ (N ps : List Str) (pv : Str), FnScope N (ps ++ [pv]) (defScope (tp body ti)) ∧ F.star = true ∧ F.np = ps.length ∧ F.ns = N.length ∧ CSs P ⟨N, defScope (tp body ti), D, none, fun _ => true, false⟩ (defBody (tp body ti)) F.body ∧
    ∀ (dV kV doc pm : Value) (an : Option Addr) (cdv ct : Value), dV = .none → ∀ us rest : List Value, us.length = ps.length → bindArgs (PySem.W.fnOf x x (defArgs (tp body ti)) (defBody (tp body ti)) (defScope (tp body ti)) dV kV doc pm an cdv ct) ⟨us ++ rest, []⟩ = (newTuple rest >>= fun t => pure (ps.zip us ++ [(pv, t)]))
theorem FnG.up {b : Bool} {Pr : Program} {w : World} {K : PySem.W.Frag} {mg : Str → Option Value} {base : Heap} {CX : CXT} {k : Nat} {f : Addr} {sp : Sp} (F : FnG false Pr w K mg base CX k f sp) : FnG b Pr w K mg base CX k f sp := fun A outer s H us vs Q E _ => F A outer s H us vs Q E fun z => by cases z
/-- how the def x, of index f, is told -/
inductive Def1 (P : Pg) (D : List (Str × Dc)) (body : List Stmt) (fnT : List (Str × Nat)) (tf : List He.Defn) (met : Str) (x : Str) (f : Nat) : Prop
  | plain (ti : Nat) (F : FnI) : (x, ti) ∈ fnT → P.fns f = some F → DefP P D body none false x ti F → Def1 P D body fnT tf met x f
  | star (ti : Nat) (F : FnI) : (x, ti) ∈ fnT → P.fns f = some F → DefS P D body x ti F → Def1 P D body fnT tf met x f
  | hot (ti : Nat) (F : FnI) : (x, ti) ∈ fnT → P.fns f = some F → P.hot f = true → (x, none) ∈ tf → (defScope (tp body ti)).names.lookup met = some .globalImplicit → DefP P D body (some met) true x ti F → Def1 P D body fnT tf met x f
  | bag (ti : Nat) (F : FnI) (lv N : Nat) : (x, ti) ∈ fnT → P.fns f = none → P.hot f = true → (x, none) ∈ tf → (defScope (tp body ti)).names.lookup met = some .globalImplicit → DefP P D body (some met) true x ti F →
      (∀ k ws h, P.ext k f ws h = match Nat.beq k lv with | true => extBag N ws h | false => .no) → (∀ k, k + 1 = lv → okBag N (runF P (rC P k) F [.obj 0] (hBag N)) = true) → Def1 P D body fnT tf met x f
/-- a method, a property's def -/
structure DefM (P : Pg) (D : List (Str × Dc)) (d : He.DefD) (F : FnI) : Prop where
  ex : ∃ N ps : List Str, FnScope N ps d.scope ∧ F.star = false ∧ F.np = ps.length ∧ F.ns = N.length ∧ CSs P ⟨N, d.scope, D, none, fun _ => true, false⟩ d.body F.body ∧
    ∀ (kV doc pm : Value) (an : Option Addr) (cdv ct : Value) (us : List Value), us.length = ps.length → bindArgs (PySem.W.fnOf d.name d.qual d.params d.body d.scope .none kV doc pm an cdv ct) ⟨us, []⟩ = pure (ps.zip us)
/-- one with a parameter by keyword only -/
structure DefKw (P : Pg) (D : List (Str × Dc)) (d : He.DefD) (kn : Str) (F : FnI) : Prop where
  ex : ∃ (N : List Str) (p0 : Str), FnScope N [p0, kn] d.scope ∧ F.star = false ∧ F.np = 2 ∧ F.ns = N.length ∧ CSs P ⟨N, d.scope, D, none, fun _ => true, false⟩ d.body F.body ∧
    (∀ (kV doc pm : Value) (an : Option Addr) (cdv ct u1 u2 : Value), bindArgs (PySem.W.fnOf d.name d.qual d.params d.body d.scope .none kV doc pm an cdv ct) ⟨[u1], [(kn, u2)]⟩ = pure [(p0, u1), (kn, u2)]) ∧
    ∀ (Da : Addr) (doc pm : Value) (an : Option Addr) (cdv ct u1 u2 : Value), KwChain Da [(kn, u2)] (bindArgs (PySem.W.fnOf d.name d.qual d.params d.body d.scope .none (.ref Da) doc pm an cdv ct) ⟨[u1], []⟩) [(p0, u1), (kn, u2)]
/-- the body of a class -/
def clsBody (s : Stmt) : List Stmt := match s with
  | .ClassDef _ _ _ b _ _ _ _ _ _ _ => b
  | _ => []
/-- a method, by its place in body -/
def mOf (body : List Stmt) (c m : Str) (ti : Nat) (kwd : List (Str × He.Dv)) : He.DefD := ⟨(c, some m), m, (c ++ ".") ++ m, defArgs (tp body ti), defBody (tp body ti), defScope (tp body ti), [], kwd⟩
/-- how the method of index f is told -/
structure MDef (P : Pg) (D : List (Str × Dc)) (fp : List He.DefD) (df : Nat → He.Defn) (f : Nat) : Prop where
  ex : ∃ d F, d ∈ fp ∧ df f = d.at_ ∧ P.fns f = some F ∧ d.dfl = [] ∧ d.kwd = [] ∧ DefM P D d F
structure MKw (P : Pg) (D : List (Str × Dc)) (fp : List He.DefD) (df : Nat → He.Defn) (f : Nat) (kn : Str) (w0 : W) : Prop where
  ex : ∃ d F i, d ∈ fp ∧ df f = d.at_ ∧ P.fns f = some F ∧ d.dfl = [] ∧ d.kwd = [(kn, .int i)] ∧ w0 = .int i ∧ DefKw P D d kn F
end
/-- the tables of the defs that make lambdas -/
def tabsT (K : PySem.W.Frag) (tf : List He.Defn) : List (Addr × Str) := tf.map fun p => ((He.cT K p).2, (p.1 ++ ".<locals>.") ++ "<lambda>")
def injB (K : PySem.W.Frag) (tf : List He.Defn) : Bool := tf.all fun p => tf.all fun q => !decide ((He.cT K p).2 = (He.cT K q).2) || decide (p.1 = q.1)
section
variable {Pr : Program} {w : World} {K : PySem.W.Frag} {mg : Str → Option Value} {base : Heap} {P : Pg} {G : Gl0} {D : List (Str × Dc)} {ad : Nat → Addr} {body : List Stmt} {fnT : List (Str × Nat)} {tf : List He.Defn} {met a : Str} {fa : List He.Fa}
theorem hot_fn (L : Lw Pr w K mg base G D ad) (T : Ctch Pr w K mg base P G met a) (hT : G.T = tabsT K tf) (hi : injB K tf = true) (tabs : ∀ p ∈ tf.map (He.cT K), LamX.TabB base mg p.1 p.2) (c : He.SaysD fa (fnT.map (dOf body)) K) {x : Str} {ti k : Nat} {F : FnI} (m : (x, ti) ∈ fnT) (mt : (x, none) ∈ tf)
    (hgl : (defScope (tp body ti)).names.lookup met = some .globalImplicit) (d : DefP P D body (some met) true x ti F) (hf : ∀ i, i ≤ k → AllFn P Pr w K mg base G D ad (rC P i) (2 * i + 3)) : FnG true Pr w K mg base (L2.CX Pr w) (2 * k + 5) (He.ga K x) (spF P K G (rC P k) F) := by
  obtain ⟨N, ps, S, hst, hnp, hns, cs, hb⟩ := d.ex
  obtain ⟨fd, Fd⟩ := c.defs (List.mem_map.mpr ⟨_, m, rfl⟩)
  have Fd : FunD K x x (defArgs (tp body ti)) (defBody (tp body ti)) (defScope (tp body ti)) [] [] (He.ga K x) fd := Fd
  have lkx : ∃ oc od osl, K.lookup (He.fAd K (x, none)) = some ⟨oc, od, .func fd, osl⟩ := by
    obtain ⟨oc, od, dV, kV, doc, pm, an, cdv, ct, osl, e, lk, _⟩ := Fd.ex
    exact ⟨oc, od, osl, lk⟩
  have hcd : ∃ cc, fd.code = .ref cc := by
    obtain ⟨oc, od, dV, kV, doc, pm, an, cdv, ct, osl, e, lk, hcd, _⟩ := Fd.ex
    obtain ⟨cc, e2⟩ := He.codeIn_ref hcd
    exact ⟨cc, by rw [e]; exact e2⟩
  obtain ⟨cc, hcd⟩ := hcd
  obtain ⟨oc, od, osl, lkx⟩ := lkx
  have ecc : He.codeOf K (x, none) = cc := He.codeOf_eq lkx hcd
  have TB := tabs _ (List.mem_map.mpr ⟨_, mt, rfl⟩)
  refine def_fnR (mt := some met) (gb := true) L Fd S (Fd.bindsN hb) hst hnp hns cs (by omega) (hf k (Nat.le_refl _)) fun _ _ _ _ A outer s H E hgd hr => ?_
  refine met_of (c := cc) (Pt := (He.cT K (x, none)).2) L S T (hgd rfl) hr hf hgl ?_ hcd ?_ ?_
  · rw [← ecc]; exact TB
  · rw [hT]; exact List.mem_map.mpr ⟨_, mt, rfl⟩
  · intro p hp e
    rw [hT] at hp
    obtain ⟨q, hq, rfl⟩ := List.mem_map.mp hp
    have z := List.all_eq_true.mp (List.all_eq_true.mp hi q hq) _ mt
    have e : (He.cT K q).2 = (He.cT K (x, none)).2 := e
    rw [e] at z
    simp at z
    show (q.1 ++ ".<locals>.") ++ "<lambda>" = _
    rw [z]
theorem law_step (L : Lw Pr w K mg base G D ad) (T : Ctch Pr w K mg base P G met a) (hT : G.T = tabsT K tf) (hi : injB K tf = true) (tabs : ∀ p ∈ tf.map (He.cT K), LamX.TabB base mg p.1 p.2) (c : He.SaysD fa (fnT.map (dOf body)) K) {fnL : List (Str × Nat)} {fp : List He.DefD} {df : Nat → He.Defn} (hD : ∀ x f, D.lookup x = some (.fn f) → (x, f) ∈ fnL)
    (hmt : ∀ d ∈ fp, ∃ fd, FunD K d.name d.qual d.params d.body d.scope (d.dvs K) (d.kws K) (adK K d.at_) fd) (hdf : ∀ f, ad f = adK K (df f)) (hM : ∀ x c f, (D.lookup x = some (.prp c f) ∨ D.lookup x = some (.mth c f) ∨ D.lookup x = some (.icl c f)) → MDef P D fp df f)
    (hKw : ∀ m c f k w0, D.lookup (atK m) = some (.mtk c f k w0) → MKw P D fp df f k w0)
    (had : ∀ p ∈ fnL, ad p.2 = He.ga K p.1) (all1 : ∀ p ∈ fnL, Def1 P D body fnT tf met p.1 p.2) : ∀ k, AllFn P Pr w K mg base G D ad (rC P k) (2 * k + 3) := by
  refine all_fn (fun m c f k w0 h => ?_) fun x f b hx => ?_
  · obtain ⟨d, F, i, hd, hdd, hF, e1, e2, rfl, q⟩ := (hKw m c f k w0 h).ex
    obtain ⟨fd, Fd⟩ := hmt d hd
    have ea : ad f = adK K d.at_ := by rw [hdf, hdd]
    have v1 : d.dvs K = [] := by unfold He.DefD.dvs; rw [e1]; rfl
    have v2 : d.kws K = [(k, .int i)] := by unfold He.DefD.kws; rw [e2]; rfl
    rw [v1, v2] at Fd
    obtain ⟨N, p0, S, hst, hnp, hns, cs, hb1, hb2⟩ := q.ex
    refine ⟨F, .int i, hF, fun _ _ => .int i, fun k hf => ?_⟩
    rw [ea]
    exact def_fnK L Fd S hst hnp hns hb1 hb2 cs (by omega) (hf k (Nat.le_refl _))
  rcases hx with ⟨hx, rfl⟩ | ⟨c', hx, rfl⟩
  rotate_left
  · obtain ⟨d, F, hd, hdd, hF, e1, e2, q⟩ := (hM x c' f hx).ex
    obtain ⟨fd, Fd⟩ := hmt d hd
    have ea : ad f = adK K d.at_ := by rw [hdf, hdd]
    have v1 : d.dvs K = [] := by unfold He.DefD.dvs; rw [e1]; rfl
    have v2 : d.kws K = [] := by unfold He.DefD.kws; rw [e2]; rfl
    rw [v1, v2] at Fd
    obtain ⟨N, ps, S, hst, hnp, hns, cs, hb⟩ := q.ex
    refine .inl ⟨F, hF, fun k hf => ?_⟩
    rw [ea]
    exact def_fnR (mt := none) (gb := false) L Fd S (Fd.bindsN hb) hst hnp hns cs (by omega) (hf k (Nat.le_refl _)) fun _ _ _ _ A outer s H E hgd hr => ⟨(fun x z => by cases z), (fun x z => by cases z)⟩
  have m := hD x f hx
  have ea : ad f = He.ga K x := had _ m
  rw [ea]
  cases all1 _ m with
  | plain ti F mT hF d =>
    refine .inl ⟨F, hF, fun k hf => ?_⟩
    obtain ⟨N, ps, S, hst, hnp, hns, cs, hb⟩ := d.ex
    obtain ⟨fd, Fd⟩ := c.defs (List.mem_map.mpr ⟨_, mT, rfl⟩)
    have Fd : FunD K x x (defArgs (tp body ti)) (defBody (tp body ti)) (defScope (tp body ti)) [] [] (He.ga K x) fd := Fd
    exact FnG.up (def_fnR (mt := none) (gb := false) L Fd S (Fd.bindsN hb) hst hnp hns cs (by omega) (hf k (Nat.le_refl _)) fun _ _ _ _ A outer s H E hgd hr => ⟨(fun x z => by cases z), (fun x z => by cases z)⟩)
  | star ti F mT hF d =>
    refine .inl ⟨F, hF, fun k hf => ?_⟩
    obtain ⟨N, ps, pv, S, hst, hnp, hns, cs, hb⟩ := d.ex
    obtain ⟨fd, Fd⟩ := c.defs (List.mem_map.mpr ⟨_, mT, rfl⟩)
    have Fd : FunD K x x (defArgs (tp body ti)) (defBody (tp body ti)) (defScope (tp body ti)) [] [] (He.ga K x) fd := Fd
    exact .of (def_fnS L Fd S hb hst hnp hns cs (by omega) (hf k (Nat.le_refl _)))
  | hot ti F mT hF hh mt hgl d =>
    refine .inl ⟨F, hF, fun k hf => ?_⟩
    rw [hh]
    exact hot_fn L T hT hi tabs c mT mt hgl d hf
  | bag ti F lv N mT hF hh mt hgl d he ev =>
    refine .inr ⟨hF, fun k hf => ?_⟩
    refine fn_bag he ev ?_
    rw [hh]
    exact hot_fn L T hT hi tabs c mT mt hgl d hf
end
/-- the script, of any length that may be -/
def scW : W := .ch ((List.range 64).map W.sl)
def okT : R W → Bool
  | .ok (.bl true) _ => true
  | _ => false
/-- the end: the law's def says yes -/
theorem law_sp {K : PySem.W.Frag} {P : Pg} {G : Gl0} {Cl : GS.Cl} {F : FnI} {H : Hp} {a : Addr} {ns : List Int} (ht : LamX.Tabs G.T H) (hS : StL K H a (ns.map V.int)) (hl : ns.length ≤ 63) (ev : okT (runF P Cl F [scW] .nil) = true) :
    spF P K G Cl F [.ref a] H (fun v _ => v = .bl true) fun _ _ _ => False := by
  refine ⟨m0, .nil, [scW], ⟨rfl, fun n hn => absurd hn (Nat.not_lt_zero n), fun n a e => (nomatch (show none = some a from e)), fun i j a e => (nomatch (show none = some a from e)), fun n a o e => (nomatch (show none = some a from e)), ht⟩, .cons (.ch (List.mem_map.mpr ⟨ns.length, List.mem_range.mpr (by omega), rfl⟩) (W.doms.ofPure (by decide)) (.sl hS rfl)) .nil, ?_⟩
  unfold okT at ev
  split at ev
  · rename_i k er
    rw [er]
    intro m' H' x s hr q
    cases q
    rfl
  · cases ev
/-- of the attributes -/
def AtM (P : Pg) (D : List (Str × Dc)) (fp : List He.DefD) (df : Nat → He.Defn) : Dc → Prop
  | .prp _ f => MDef P D fp df f
  | .mth _ f => MDef P D fp df f
  | .icl _ f => MDef P D fp df f
  | .mtk _ f k w => MKw P D fp df f k w
  | _ => True
theorem atM_of {P : Pg} {D : List (Str × Dc)} {fp : List He.DefD} {df : Nat → He.Defn} {fnL : List (Str × Nat)} {intL : List (Str × Int)} {strL : List (Str × Str)} {supL txtL : List (Str × Nat)} {bltL : List Str} {atL : List (Str × Dc)} (hD : D = mkD fnL intL strL supL txtL bltL atL) (h : ∀ p ∈ atL, AtM P D fp df p.2) :
    (∀ x c f, (D.lookup x = some (.prp c f) ∨ D.lookup x = some (.mth c f) ∨ D.lookup x = some (.icl c f)) → MDef P D fp df f) ∧ ∀ m c f k w0, D.lookup (atK m) = some (.mtk c f k w0) → MKw P D fp df f k w0 := by
  have key : ∀ x d, D.lookup x = some d → (∀ f, d ≠ .fn f) → (∀ w, d ≠ .cst w) → (∀ c, d ≠ .cls c) → (∀ c, d ≠ .clsT c) → d ≠ .blt → AtM P D fp df d := fun x d e n1 n2 n3 n4 n5 => by
    rw [hD] at e
    rcases mkD_inv e with ⟨_, e, _⟩ | ⟨_, e, _⟩ | ⟨_, e, _⟩ | ⟨_, e, _⟩ | ⟨_, e, _⟩ | ⟨e, _⟩ | e
    · exact absurd e (n1 _)
    · exact absurd e (n2 _)
    · exact absurd e (n2 _)
    · exact absurd e (n3 _)
    · exact absurd e (n4 _)
    · exact absurd e n5
    · exact h _ e
  refine ⟨fun x c f e => ?_, fun m c f k w0 e => key _ _ e (fun _ z => by cases z) (fun _ z => by cases z) (fun _ z => by cases z) (fun _ z => by cases z) (fun z => by cases z)⟩
  rcases e with e | e | e
  · exact key _ _ e (fun _ z => by cases z) (fun _ z => by cases z) (fun _ z => by cases z) (fun _ z => by cases z) (fun z => by cases z)
  · exact key _ _ e (fun _ z => by cases z) (fun _ z => by cases z) (fun _ z => by cases z) (fun _ z => by cases z) (fun z => by cases z)
  · exact key _ _ e (fun _ z => by cases z) (fun _ z => by cases z) (fun _ z => by cases z) (fun _ z => by cases z) (fun z => by cases z)
def isFn : Dc → Bool
  | .fn _ => true
  | _ => false
theorem at_nofn {atL : List (Str × Dc)} {x : Str} {f : Nat} (h : ∀ p ∈ atL, isFn p.2 = false) (e : (x, Dc.fn f) ∈ atL) : False := by
  have := h _ e
  cases this
theorem atK_inj {f g : Str} (h : atK f = atK g) : f = g := by
  unfold atK at h
  have h : (("." : Str).cps ++ f.cps) = (("." : Str).cps ++ g.cps) := congrArg Str.cps h
  have h2 : f.cps = g.cps := Array.append_right_inj _ |>.mp h
  cases f; cases g
  exact congrArg Str.mk h2
section
variable {K : PySem.W.Frag} {mg : Str → Option Value} {G : Gl0} {ad : Nat → Addr} {x f0 : Str} {c i g : Nat} {Ca : Addr}
theorem at_slt (hx : x = atK f0) (hc : G.icls c = some Ca) (h1 : sclsB K Ca = true) (h2 : slotB K Ca f0 i = true) : AtOk K mg G ad x (.slt c i) := fun f e => by
  cases atK_inj (hx.symm.trans e)
  obtain ⟨p, q⟩ := slotB_ok h2
  exact ⟨Ca, p, hc, sclsB_ok h1, q⟩
theorem at_prp (hx : x = atK f0) (hc : G.icls c = some Ca) (h1 : sclsB K Ca = true) (h2 : propB K Ca f0 (ad g) = true) : AtOk K mg G ad x (.prp c g) := fun f e => by
  cases atK_inj (hx.symm.trans e)
  obtain ⟨p, q⟩ := propB_ok h2
  exact ⟨Ca, p, hc, sclsB_ok h1, q⟩
theorem at_mth (hx : x = atK f0) (hc : G.icls c = some Ca) (h1 : sclsB K Ca = true) (h2 : methFB K Ca f0 (ad g) = true) : AtOk K mg G ad x (.mth c g) := fun f e => by
  cases atK_inj (hx.symm.trans e)
  exact ⟨Ca, hc, sclsB_ok h1, methFB_ok h2⟩
theorem at_mtk {k : Str} {w : W} (hx : x = atK f0) (hc : G.icls c = some Ca) (h1 : sclsB K Ca = true) (h2 : methB K Ca f0 (ad g) = true) : AtOk K mg G ad x (.mtk c g k w) := fun f e => by
  cases atK_inj (hx.symm.trans e)
  exact ⟨Ca, hc, sclsB_ok h1, methB_ok h2⟩
theorem at_tup {ys : List Str} (hm : mg x = some (.ref (He.ga K x))) (h : He.tupB K x (ys.map He.Dv.str) = true) : AtOk K mg G ad x (.cst (.tup (ys.map W.str))) := by
  refine ⟨.ref (He.ga K x), _, hm, rfl, fun m H => .tup (He.tupB_ok h H) ?_⟩
  rw [List.map_map]
  exact rws_strs ys
theorem at_icl (hc : G.icls c = some Ca) (hm : mg x = some (.ref Ca)) (h : mkB K Ca (ad g) = true) : AtOk K mg G ad x (.icl c g) := ⟨Ca, hc, hm, mkB_ok h⟩
end
theorem ctch_of {Pr : Program} {w : World} {K : PySem.W.Frag} {mg : Str → Option Value} {base : Heap} {P : Pg} {G : Gl0} {x a : Str} {fd : FuncData} {pg : Arguments} {bg : List Stmt} {sg : Scope} {Ng : List Str} {l : List Cls1} {tf : Hp → VK → Prop} (Fd : FunD K x x pg bg sg [] [] (He.ga K x) fd) (hm : mg x = some (.ref (He.ga K x)))
    (hb : ∀ (kV doc pm : Value) (an : Option Addr) (cdv ct : Value) (us : List Value), us.length = 1 → bindArgs (PySem.W.fnOf x x pg bg sg .none kV doc pm an cdv ct) ⟨us, []⟩ = pure ([a].zip us)) (Sg : FnScope Ng [a] sg) (hNg : Ng[0]? = some a) (hva : Vis sg a) (ha1 : (a == ("__debug__" : Str)) = false)
    (ha2 : (a == ("__classdict__" : Str)) = false) (hx1 : (x == ("__debug__" : Str)) = false)
    (hG : ∀ (cdv : Value) (X : Cx), X.prog = Pr → X.w = w → X.K = K → X.mg = mg → X.base = base → X.A.guards = some [] → X.A.units + 80 < cLine → LamX.GivesTo X Ng x sg (He.ga K x) cdv bg a (X.env.qual ++ "<lambda>") (TTm K l tf))
    (fine : ∀ (m : Mp) (h : Hs) (H : Hp) (Q : VK), HR K G m h H → OkP K G m H Q P.fine h → tf H Q)
    (caught : ∀ c w x, P.hnd c w = some x → ∀ (m : Mp) (h : Hs) (H : Hp) (Q : VK), HR K G m h H → OkP K G m H Q x h → ExE K G (wRet K Q l) c w m H) : Nonempty (Ctch Pr w K mg base P G x a) := by
  have B : L2.Binds K fd [a] [] := Fd.bindsN hb
  have kp := Fd.kp
  obtain ⟨oc, od, dV, kV, doc, pm, an, cdv, ct, osl, rfl, lk, hcd, _, _⟩ := Fd.ex
  exact ⟨⟨_, pg, bg, sg, dV, kV, doc, pm, cdv, ct, oc, an, od, osl, Ng, l, tf, hm, kp, lk, hcd, B, Sg, hNg, hva, ha1, ha2, hx1, hG cdv, fine, caught⟩⟩
end GS
-- GsRun
namespace GS
open PySem PySem.Spec PyProof.Rows L2
/-- the addresses that are looked at -/
def as0 : List Addr := List.range 800
abbrev frT7 (s : PySem.W.SharedT) : PySem.W.Frag := frS as0 (HandSHeadRun.getT s)
theorem run_mk {o : Option PySem.W.SharedT} {A : PySem.W.SharedT → Bool} {β : Type} {B : PySem.W.SharedT → β} {b : β} {fa : List He.Fa} {fn fp : List He.DefD} {tf : List He.Defn} {ex : PySem.W.Frag → Bool} (h1 : o.map A = some true) (h2 : o.map B = some b) (h3 : o.map (fun s => fa.all fun f => f.ok (frT7 s)) = some true)
    (h4 : o.map (fun s => fn.all fun d => d.ok (frT7 s)) = some true) (h5 : o.map (fun s => fn.map fun d => He.fnW (frT7 s) d.at_) = some (fn.map He.DefD.val)) (h6 : o.map (fun s => ex (frT7 s) && He.tabsB (HandSHeadRun.getT s) tf (frT7 s)) = some true)
    (h7 : o.map (fun s => fp.all (okA (frT7 s))) = some true) (h8 : o.map (fun s => fp.map (fnA (frT7 s))) = some (fp.map He.DefD.val)) :
    o.map (fun s => (A s, B s, obsS as0 fa fn fp tf ex (HandSHeadRun.getT s))) = some (true, b, valG fn fp) := by
  cases o with
  | none => cases h1
  | some s =>
    simp only [Option.map_some, Option.some.injEq] at *
    unfold obsS He.obsD valG He.valD
    simp only [Prod.mk.injEq]
    exact ⟨h1, h2, ⟨by rw [Bool.and_eq_true]; exact ⟨h3, h4⟩, h5⟩, h6, h7, h8⟩
end GS
set_option maxHeartbeats 0
namespace G88
open PySem PySem.Spec PyProof.Rows L2 GS
/-- 0 is_int ['value'] -/
def f0 : FnI := ⟨1, false, 1, (.cons (.ret (.and (.isa (.var 0) .int) (.nt (.isa (.var 0) .bool)))) .nil)⟩
/-- 1 is_whole ['value'] -/
def f1 : FnI := ⟨1, false, 1, (.cons (.ret (.and (.call 0 (.cons (.var 0) .nil)) (.cmp2 .lt .lt (.neg (.cst (.int 1000000000000000000000000000000000000000000000000000000000000))) (.var 0) (.cst (.int 1000000000000000000000000000000000000000000000000000000000000))))) .nil)⟩
/-- 2 is_within ['value', 'low', 'high'] -/
def f2 : FnI := ⟨3, false, 3, (.cons (.ret (.and (.call 1 (.cons (.var 0) .nil)) (.cmp2 .le .le (.var 1) (.var 0) (.var 2)))) .nil)⟩
/-- 3 common_of ['one', 'other', 'first', 'second'] -/
def f3 : FnI := ⟨2, false, 4, (.cons (.par [2, 3] (.cons (.bi .abs (.cons (.var 0) .nil)) (.cons (.bi .abs (.cons (.var 1) .nil)) .nil))) (.cons (.whl (.cmp .ne (.var 3) (.cst (.int 0))) (.cons (.par [2, 3] (.cons (.var 3) (.cons (.bin .mod (.var 2) (.var 3)) .nil))) .nil)) (.cons (.ret (.var 2)) .nil)))⟩
/-- 4 lowest ['above', 'below', 'great', 'sign'] -/
def f4 : FnI := ⟨2, false, 4, (.cons (.set 2 (.call 3 (.cons (.var 0) (.cons (.var 1) .nil)))) (.cons (.set 3 (.ite (.cmp .gt (.var 1) (.cst (.int 0))) (.cst (.int 1)) (.neg (.cst (.int 1))))) (.cons (.ret (.tup (.cons (.bin .fdiv (.bin .mul (.var 3) (.var 0)) (.var 2)) (.cons (.bin .fdiv (.bin .mul (.var 3) (.var 1)) (.var 2)) .nil)))) .nil)))⟩
/-- 5 add ['one', 'other'] -/
def f5 : FnI := ⟨2, false, 2, (.cons (.ret (.call 4 (.cons (.bin .add (.bin .mul (.ix (.var 0) (.cst (.int 0))) (.ix (.var 1) (.cst (.int 1)))) (.bin .mul (.ix (.var 1) (.cst (.int 0))) (.ix (.var 0) (.cst (.int 1))))) (.cons (.bin .mul (.ix (.var 0) (.cst (.int 1))) (.ix (.var 1) (.cst (.int 1)))) .nil)))) .nil)⟩
/-- 6 less ['one', 'other'] -/
def f6 : FnI := ⟨2, false, 2, (.cons (.ret (.cmp .lt (.bin .mul (.ix (.var 0) (.cst (.int 0))) (.ix (.var 1) (.cst (.int 1)))) (.bin .mul (.ix (.var 1) (.cst (.int 0))) (.ix (.var 0) (.cst (.int 1)))))) .nil)⟩
/-- 7 sum_all ['fractions', 'found', 'one'] -/
def f7 : FnI := ⟨1, false, 3, (.cons (.set 1 (.tup (.cons (.cst (.int 0)) (.cons (.cst (.int 1)) .nil)))) (.cons (.for (.one 2) (.seq (.var 0)) (.cons (.set 1 (.call 5 (.cons (.var 1) (.cons (.var 2) .nil)))) .nil)) (.cons (.ret (.var 1)) .nil)))⟩
/-- 8 is_fraction ['value', 'one'] -/
def f8 : FnI := ⟨1, false, 2, (.cons (.ifS (.or (.nt (.isa (.var 0) .tuple)) (.or (.cmp .ne (.bi .len (.cons (.var 0) .nil)) (.cst (.int 2))) (.nt (.bi .all (.cons (.lc (.call 0 (.cons (.var 1) .nil)) (.one 1) (.seq (.var 0)) .nil [1]) .nil))))) (.cons (.ret (.cst (.bl false))) .nil) .nil) (.cons (.ret (.and (.cmp .gt (.ix (.var 0) (.cst (.int 1))) (.cst (.int 0))) (.cmp .eq (.call 3 (.cons (.ix (.var 0) (.cst (.int 0))) (.cons (.ix (.var 0) (.cst (.int 1))) .nil))) (.cst (.int 1))))) .nil))⟩
/-- 9 is_game_of ['value', 'one'] -/
def f9 : FnI := ⟨1, false, 2, (.cons (.ifS (.or (.nt (.isa (.var 0) .tuple)) (.cmp .notIn (.bi .len (.cons (.var 0) .nil)) (.tup (.cons (.cst (.int 2)) (.cons (.cst (.int 4)) (.cons (.cst (.int 8)) (.cons (.cst (.int 16)) (.cons (.cst (.int 32)) .nil)))))))) (.cons (.ret (.cst (.bl false))) .nil) .nil) (.cons (.ret (.and (.bi .all (.cons (.lc (.call 2 (.cons (.var 1) (.cons (.neg (.cst (.int 999))) (.cons (.cst (.int 999)) .nil)))) (.one 1) (.seq (.var 0)) .nil [1]) .nil)) (.cmp .eq (.ix (.var 0) (.cst (.int 0))) (.cst (.int 0))))) .nil))⟩
/-- 10 size_of ['game'] -/
def f10 : FnI := ⟨1, false, 1, (.cons (.ret (.bin .add (.tix (.cons (.cst (.int 2)) (.cons (.cst (.int 4)) (.cons (.cst (.int 8)) (.cons (.cst (.int 16)) (.cons (.cst (.int 32)) .nil))))) (.bi .len (.cons (.var 0) .nil))) (.cst (.int 1)))) .nil)⟩
/-- 11 is_group_of ['size', 'value', 'player', 'one', 'other'] -/
def f11 : FnI := ⟨2, false, 5, (.cons (.ifS (.or (.nt (.isa (.var 1) .tuple)) (.nt (.bi .all (.cons (.lc (.call 2 (.cons (.var 2) (.cons (.cst (.int 0)) (.cons (.bin .sub (.var 0) (.cst (.int 1))) .nil)))) (.one 2) (.seq (.var 1)) .nil [2]) .nil)))) (.cons (.ret (.cst (.bl false))) .nil) .nil) (.cons (.ret (.bi .all (.cons (.lc (.cmp .lt (.var 3) (.var 4)) (.many [3, 4]) (.zip (.var 1) (.sl (.var 1) (.cons (.cst (.int 1)) .nil) .nil)) .nil [3, 4]) .nil))) .nil))⟩
/-- 12 groups_of ['size', 'found', 'player', 'group'] -/
def f12 : FnI := ⟨1, false, 4, (.cons (.set 1 (.lst (.cons (.tup .nil) .nil))) (.cons (.for (.one 2) (.rng (.cons (.var 0) .nil)) (.cons (.drop (.me .extend (.var 1) (.cons (.lc (.tup (.star (.var 3) (.cons (.var 2) .nil))) (.one 3) (.seq (.bi .list (.cons (.var 1) .nil))) .nil [3]) .nil))) .nil)) (.cons (.ret (.var 1)) .nil)))⟩
/-- 13 index_of ['group', 'player'] -/
def f13 : FnI := ⟨1, false, 2, (.cons (.ret (.bi .sum (.cons (.lc (.ix (.tup (.cons (.cst (.int 1)) (.cons (.cst (.int 2)) (.cons (.cst (.int 4)) (.cons (.cst (.int 8)) (.cons (.cst (.int 16)) .nil)))))) (.var 1)) (.one 1) (.seq (.var 0)) .nil [1]) .nil))) .nil)⟩
/-- 14 worth_of ['game', 'group'] -/
def f14 : FnI := ⟨2, false, 2, (.cons (.ret (.ix (.var 0) (.call 13 (.cons (.var 1) .nil)))) .nil)⟩
/-- 15 total_of ['share', 'group', 'player'] -/
def f15 : FnI := ⟨2, false, 3, (.cons (.ret (.call 7 (.cons (.lc (.ix (.var 0) (.var 2)) (.one 2) (.seq (.var 1)) .nil [2]) .nil))) .nil)⟩
/-- 16 require_size ['size'] -/
def f16 : FnI := ⟨1, false, 1, (.cons (.ifS (.nt (.call 2 (.cons (.var 0) (.cons (.cst (.int 1)) (.cons (.cst (.int 5)) .nil))))) (.cons (.rse 8 (.var 0)) .nil) .nil) .nil)⟩
/-- 17 require_game ['game', 'others', 'other'] -/
def f17 : FnI := ⟨1, true, 3, (.cons (.ifS (.or (.nt (.call 9 (.cons (.var 0) .nil))) (.nt (.bi .all (.cons (.lc (.call 9 (.cons (.var 2) .nil)) (.one 2) (.seq (.var 1)) .nil [2]) .nil)))) (.cons (.rse 1 (.cst (.str "a game of one to five players is expected"))) .nil) .nil) (.cons (.ifS (.bi .any (.cons (.lc (.cmp .ne (.bi .len (.cons (.var 2) .nil)) (.bi .len (.cons (.var 0) .nil))) (.one 2) (.seq (.var 1)) .nil [2]) .nil)) (.cons (.rse 6 (.cst (.str "games of as many players are expected"))) .nil) .nil) .nil))⟩
/-- 18 require_player ['size', 'players_told', 'player'] -/
def f18 : FnI := ⟨1, true, 3, (.cons (.for (.one 2) (.seq (.var 1)) (.cons (.ifS (.nt (.call 2 (.cons (.var 2) (.cons (.cst (.int 0)) (.cons (.bin .sub (.var 0) (.cst (.int 1))) .nil))))) (.cons (.rse 8 (.var 2)) .nil) .nil) .nil)) .nil)⟩
/-- 19 require_group ['size', 'some', 'group'] -/
def f19 : FnI := ⟨1, true, 3, (.cons (.ifS (.nt (.bi .all (.cons (.lc (.and (.call 11 (.cons (.var 0) (.cons (.var 2) .nil))) (.cmp .ne (.var 2) (.tup .nil))) (.one 2) (.seq (.var 1)) .nil [2]) .nil))) (.cons (.rse 2 (.cst (.str "an ascending tuple of players, not empty, is expected"))) .nil) .nil) .nil)⟩
/-- 20 is_small ['value'] -/
def f20 : FnI := ⟨1, false, 1, (.cons (.ret (.and (.call 8 (.cons (.var 0) .nil)) (.and (.cmp .le (.bi .abs (.cons (.ix (.var 0) (.cst (.int 0))) .nil)) (.cst (.int 1000000000000))) (.cmp .le (.ix (.var 0) (.cst (.int 1))) (.cst (.int 1000000000)))))) .nil)⟩
/-- 21 is_share_of ['size', 'value', 'one'] -/
def f21 : FnI := ⟨2, false, 3, (.cons (.ret (.and (.isa (.var 1) .tuple) (.and (.cmp .eq (.bi .len (.cons (.var 1) .nil)) (.var 0)) (.bi .all (.cons (.lc (.call 20 (.cons (.var 2) .nil)) (.one 2) (.seq (.var 1)) .nil [2]) .nil))))) .nil)⟩
/-- 22 require_share ['size', 'shares', 'share'] -/
def f22 : FnI := ⟨1, true, 3, (.cons (.ifS (.nt (.bi .all (.cons (.lc (.call 21 (.cons (.var 0) (.cons (.var 2) .nil))) (.one 2) (.seq (.var 1)) .nil [2]) .nil))) (.cons (.rse 3 (.cst (.str "a fraction for each player is expected"))) .nil) .nil) .nil)⟩
/-- 23 number_of ['part', 'sign'] -/
def f23 : FnI := ⟨1, false, 2, (.cons (.ifS (.or (.nt (.cmp2 .le .le (.cst (.int 1)) (.bi .len (.cons (.var 0) .nil)) (.cst (.int 15)))) (.nt (.bi .all (.cons (.lc (.cmp .isIn (.var 1) (.cst (.str "0123456789"))) (.one 1) (.seq (.var 0)) .nil [1]) .nil)))) (.cons (.ret (.cst .non)) .nil) .nil) (.cons (.ret (.ite (.and (.cmp .eq (.ix (.var 0) (.cst (.int 0))) (.cst (.str "0"))) (.cmp .gt (.bi .len (.cons (.var 0) .nil)) (.cst (.int 1)))) (.cst .non) (.bi .int (.cons (.var 0) .nil)))) .nil))⟩
/-- 24 signed_of ['part', 'found'] -/
def f24 : FnI := ⟨1, false, 2, (.cons (.ifS (.cmp .ne (.sl (.var 0) .nil (.cons (.cst (.int 1)) .nil)) (.cst (.str "-"))) (.cons (.ret (.call 23 (.cons (.var 0) .nil))) .nil) .nil) (.cons (.set 1 (.call 23 (.cons (.sl (.var 0) (.cons (.cst (.int 1)) .nil) .nil) .nil))) (.cons (.ret (.ite (.and (.cmp .isNot (.var 1) (.cst .non)) (.cmp .gt (.var 1) (.cst (.int 0)))) (.neg (.var 1)) (.cst .non))) .nil)))⟩
/-- 25 group_of ['part', 'found', 'one'] -/
def f25 : FnI := ⟨1, false, 3, (.cons (.set 1 (.bi .tuple (.cons (.lc (.call 23 (.cons (.var 2) .nil)) (.one 2) (.seq (.sm .split (.var 0) (.cons (.cst (.str "+")) .nil))) .nil [2]) .nil))) (.cons (.ret (.ite (.cmp .isIn (.cst .non) (.var 1)) (.cst .non) (.var 1))) .nil))⟩
/-- 26 fraction_of ['part', 'above', 'sign', 'below', 'found'] -/
def f26 : FnI := ⟨1, false, 5, (.cons (.setT [1, 2, 3] (.sm .partition (.var 0) (.cons (.cst (.str "/")) .nil))) (.cons (.set 4 (.tup (.cons (.call 24 (.cons (.var 1) .nil)) (.cons (.ite (.cmp .eq (.var 2) (.cst (.str "/"))) (.call 23 (.cons (.var 3) .nil)) (.cst (.int 1))) .nil)))) (.cons (.ret (.ite (.or (.cmp .isIn (.cst .non) (.var 4)) (.and (.cmp .eq (.var 2) (.cst (.str "/"))) (.cmp .eq (.ix (.var 4) (.cst (.int 1))) (.cst (.int 1))))) (.cst .non) (.var 4))) .nil)))⟩
/-- 27 share_of ['parts', 'found', 'part'] -/
def f27 : FnI := ⟨1, false, 3, (.cons (.set 1 (.bi .tuple (.cons (.lc (.call 26 (.cons (.var 2) .nil)) (.one 2) (.seq (.var 0)) .nil [2]) .nil))) (.cons (.ret (.ite (.cmp .isIn (.cst .non) (.var 1)) (.cst .non) (.var 1))) .nil))⟩
/-- 28 group_text ['group', 'player'] -/
def f28 : FnI := ⟨1, false, 2, (.cons (.ret (.sm .join (.cst (.str "+")) (.cons (.lc (.bi .str (.cons (.var 1) .nil)) (.one 1) (.seq (.var 0)) .nil [1]) .nil))) .nil)⟩
/-- 29 fraction_text ['one'] -/
def f29 : FnI := ⟨1, false, 1, (.cons (.ret (.ite (.cmp .eq (.ix (.var 0) (.cst (.int 1))) (.cst (.int 1))) (.bi .str (.cons (.ix (.var 0) (.cst (.int 0))) .nil)) (.fst (.cons (.fmtE (.ix (.var 0) (.cst (.int 0)))) (.cons (.cst (.str "/")) (.cons (.fmtE (.ix (.var 0) (.cst (.int 1)))) .nil)))))) .nil)⟩
/-- 30 lines_text ['lines', 'line'] -/
def f30 : FnI := ⟨1, false, 2, (.cons (.ret (.sm .join (.cst (.str "")) (.cons (.lc (.fst (.cons (.fmtE (.var 1)) (.cons (.cst (.str "\n")) .nil))) (.one 1) (.seq (.var 0)) .nil [1]) .nil))) .nil)⟩
/-- 31 whole_lines ['text', 'lines'] -/
def f31 : FnI := ⟨1, false, 2, (.cons (.set 1 (.sm .split (.var 0) (.cons (.cst (.str "\n")) .nil))) (.cons (.ret (.tup (.cons (.sl (.var 1) .nil (.cons (.neg (.cst (.int 1))) .nil)) (.cons (.ix (.var 1) (.neg (.cst (.int 1)))) .nil)))) .nil))⟩
/-- 32 size_by ['word', 'lines', 'parts', 'size'] -/
def f32 : FnI := ⟨2, false, 4, (.cons (.set 2 (.ite (.cmp .ne (.var 1) (.lst .nil)) (.sm .split (.ix (.var 1) (.cst (.int 0))) (.cons (.cst (.str " ")) .nil)) (.lst .nil))) (.cons (.set 3 (.ite (.and (.cmp .eq (.bi .len (.cons (.var 2) .nil)) (.cst (.int 2))) (.cmp .eq (.ix (.var 2) (.cst (.int 0))) (.var 0))) (.call 23 (.cons (.ix (.var 2) (.cst (.int 1))) .nil)) (.cst .non))) (.cons (.ret (.ite (.and (.cmp .isNot (.var 3) (.cst .non)) (.call 2 (.cons (.var 3) (.cons (.cst (.int 1)) (.cons (.cst (.int 5)) .nil))))) (.var 3) (.cst .non))) .nil)))⟩
/-- 33 worth_from ['group', 'line', 'parts', 'worth'] -/
def f33 : FnI := ⟨2, false, 4, (.cons (.set 2 (.sm .split (.var 1) (.cons (.cst (.str " ")) .nil))) (.cons (.ifS (.or (.cmp .ne (.bi .len (.cons (.var 2) .nil)) (.cst (.int 2))) (.cmp .ne (.ix (.var 2) (.cst (.int 0))) (.call 28 (.cons (.var 0) .nil)))) (.cons (.ret (.cst .non)) .nil) .nil) (.cons (.set 3 (.call 24 (.cons (.ix (.var 2) (.cst (.int 1))) .nil))) (.cons (.ret (.ite (.and (.cmp .isNot (.var 3) (.cst .non)) (.call 9 (.cons (.tup (.cons (.cst (.int 0)) (.cons (.var 3) .nil))) .nil))) (.var 3) (.cst .non))) .nil))))⟩
/-- 34 share_from ['size', 'line', 'share'] -/
def f34 : FnI := ⟨2, false, 3, (.cons (.set 2 (.call 27 (.cons (.sm .split (.var 1) (.cons (.cst (.str " ")) .nil)) .nil))) (.cons (.ret (.ite (.and (.cmp .isNot (.var 2) (.cst .non)) (.call 21 (.cons (.var 0) (.cons (.var 2) .nil)))) (.var 2) (.cst .non))) .nil))⟩
/-- 35 are_shares ['size', 'value', 'share'] -/
def f35 : FnI := ⟨2, false, 3, (.cons (.ifS (.or (.nt (.isa (.var 1) .tuple)) (.nt (.cmp2 .le .le (.cst (.int 1)) (.bi .len (.cons (.var 1) .nil)) (.cst (.int 9))))) (.cons (.ret (.cst (.bl false))) .nil) .nil) (.cons (.ret (.bi .all (.cons (.lc (.call 21 (.cons (.var 0) (.cons (.var 2) .nil))) (.one 2) (.seq (.var 1)) .nil [2]) .nil))) .nil))⟩
/-- 36 require_text ['text'] -/
def f36 : FnI := ⟨1, false, 1, (.cons (.ifS (.or (.nt (.isa (.var 0) .str)) (.cmp .gt (.bi .len (.cons (.var 0) .nil)) (.cst (.int 20000)))) (.cons (.rse 5 (.cst (.str "a string of at most 20000 signs is expected"))) .nil) .nil) .nil)⟩
/-- 37 write_game ['game', 'size', 'worths', 'group', 'worth'] -/
def f37 : FnI := ⟨1, false, 5, (.cons (.drop (.call 17 (.cons (.var 0) .nil))) (.cons (.set 1 (.call 10 (.cons (.var 0) .nil))) (.cons (.set 2 (.lc (.fst (.cons (.fmtE (.call 28 (.cons (.var 3) .nil))) (.cons (.cst (.str " ")) (.cons (.fmtE (.var 4)) .nil)))) (.many [3, 4]) (.zip (.sl (.call 12 (.cons (.var 1) .nil)) (.cons (.cst (.int 1)) .nil) .nil) (.sl (.var 0) (.cons (.cst (.int 1)) .nil) .nil)) .nil [3, 4])) (.cons (.ret (.call 30 (.cons (.lst (.cons (.fst (.cons (.fmtE (.cst (.str "game"))) (.cons (.cst (.str " ")) (.cons (.fmtE (.var 1)) .nil)))) (.star (.var 2) .nil))) .nil))) .nil))))⟩
/-- 38 read_game ['text', 'lines', 'rest', 'size', 'found', 'some', 'number', 'line', 'worth'] -/
def f38 : FnI := ⟨1, false, 9, (.cons (.drop (.call 36 (.cons (.var 0) .nil))) (.cons (.setT [1, 2] (.call 31 (.cons (.var 0) .nil))) (.cons (.set 3 (.call 32 (.cons (.cst (.str "game")) (.cons (.var 1) .nil)))) (.cons (.ifS (.cmp .is (.var 3) (.cst .non)) (.cons (.rse 7 (.cst (.int 0))) .nil) .nil) (.cons (.par [4, 5] (.cons (.lst (.cons (.cst (.int 0)) .nil)) (.cons (.call 12 (.cons (.var 3) .nil)) .nil))) (.cons (.for (.many [6, 7]) (.enm (.sl (.var 1) (.cons (.cst (.int 1)) .nil) .nil)) (.cons (.set 8 (.ite (.cmp .lt (.bin .add (.var 6) (.cst (.int 1))) (.bi .len (.cons (.var 5) .nil))) (.call 33 (.cons (.ix (.var 5) (.bin .add (.var 6) (.cst (.int 1)))) (.cons (.var 7) .nil))) (.cst .non))) (.cons (.ifS (.cmp .is (.var 8) (.cst .non)) (.cons (.rse 7 (.bin .add (.var 6) (.cst (.int 1)))) .nil) .nil) (.cons (.drop (.me .append (.var 4) (.cons (.var 8) .nil))) .nil)))) (.cons (.ifS (.or (.cmp .ne (.var 2) (.cst (.str ""))) (.cmp .lt (.bi .len (.cons (.var 4) .nil)) (.bi .len (.cons (.var 5) .nil)))) (.cons (.rse 7 (.bi .len (.cons (.var 1) .nil))) .nil) .nil) (.cons (.ret (.bi .tuple (.cons (.var 4) .nil))) .nil))))))))⟩
/-- 39 write_shares ['size', 'shares', 'rows', 'one', 'share'] -/
def f39 : FnI := ⟨2, false, 5, (.cons (.drop (.call 16 (.cons (.var 0) .nil))) (.cons (.ifS (.nt (.call 35 (.cons (.var 0) (.cons (.var 1) .nil)))) (.cons (.rse 4 (.cst (.str "one to nine shares are expected"))) .nil) .nil) (.cons (.set 2 (.lc (.sm .join (.cst (.str " ")) (.cons (.lc (.call 29 (.cons (.var 3) .nil)) (.one 3) (.seq (.var 4)) .nil [3]) .nil)) (.one 4) (.seq (.var 1)) .nil [4])) (.cons (.ret (.call 30 (.cons (.lst (.cons (.fst (.cons (.fmtE (.cst (.str "shares"))) (.cons (.cst (.str " ")) (.cons (.fmtE (.var 0)) .nil)))) (.star (.var 2) .nil))) .nil))) .nil))))⟩
/-- 40 read_shares ['text', 'lines', 'rest', 'size', 'found', 'number', 'line', 'share'] -/
def f40 : FnI := ⟨1, false, 8, (.cons (.drop (.call 36 (.cons (.var 0) .nil))) (.cons (.setT [1, 2] (.call 31 (.cons (.var 0) .nil))) (.cons (.set 3 (.call 32 (.cons (.cst (.str "shares")) (.cons (.var 1) .nil)))) (.cons (.ifS (.cmp .is (.var 3) (.cst .non)) (.cons (.rse 7 (.cst (.int 0))) .nil) .nil) (.cons (.set 4 (.lst .nil)) (.cons (.for (.many [5, 6]) (.enm (.sl (.var 1) (.cons (.cst (.int 1)) .nil) .nil)) (.cons (.set 7 (.ite (.cmp .lt (.bi .len (.cons (.var 4) .nil)) (.cst (.int 9))) (.call 34 (.cons (.var 3) (.cons (.var 6) .nil))) (.cst .non))) (.cons (.ifS (.cmp .is (.var 7) (.cst .non)) (.cons (.rse 7 (.bin .add (.var 5) (.cst (.int 1)))) .nil) .nil) (.cons (.drop (.me .append (.var 4) (.cons (.var 7) .nil))) .nil)))) (.cons (.ifS (.or (.cmp .ne (.var 2) (.cst (.str ""))) (.cmp .eq (.var 4) (.lst .nil))) (.cons (.rse 7 (.bi .len (.cons (.var 1) .nil))) .nil) .nil) (.cons (.ret (.tup (.cons (.var 3) (.cons (.bi .tuple (.cons (.var 4) .nil)) .nil)))) .nil))))))))⟩
/-- 41 better_in ['game', 'share', 'some', 'group'] -/
def f41 : FnI := ⟨2, false, 4, (.cons (.set 2 (.sl (.call 12 (.cons (.call 10 (.cons (.var 0) .nil)) .nil)) (.cons (.cst (.int 1)) .nil) (.cons (.neg (.cst (.int 1))) .nil))) (.cons (.ret (.bi .sorted (.cons (.lc (.var 3) (.one 3) (.seq (.var 2)) (.cons (.call 6 (.cons (.call 15 (.cons (.var 1) (.cons (.var 3) .nil))) (.cons (.tup (.cons (.call 14 (.cons (.var 0) (.cons (.var 3) .nil))) (.cons (.cst (.int 1)) .nil))) .nil))) .nil) [3]) .nil))) .nil))⟩
/-- 42 word_in ['game', 'share', 'given', 'whole'] -/
def f42 : FnI := ⟨2, false, 4, (.cons (.par [2, 3] (.cons (.call 7 (.cons (.var 1) .nil)) (.cons (.tup (.cons (.ix (.var 0) (.neg (.cst (.int 1)))) (.cons (.cst (.int 1)) .nil))) .nil))) (.cons (.ifS (.cmp .ne (.var 2) (.var 3)) (.cons (.ret (.ite (.call 6 (.cons (.var 2) (.cons (.var 3) .nil))) (.cst (.str "short")) (.cst (.str "over")))) .nil) .nil) (.cons (.ret (.ite (.cmp .ne (.call 41 (.cons (.var 0) (.cons (.var 1) .nil))) (.lst .nil)) (.cst (.str "bettered")) (.cst (.str "steady")))) .nil)))⟩
/-- 43 with_worth ['game', 'group', 'number', 'index'] -/
def f43 : FnI := ⟨3, false, 4, (.cons (.set 3 (.call 13 (.cons (.var 1) .nil))) (.cons (.ret (.tup (.star (.sl (.var 0) .nil (.cons (.var 3) .nil)) (.cons (.var 2) (.star (.sl (.var 0) (.cons (.bin .add (.var 3) (.cst (.int 1))) .nil) .nil) .nil))))) .nil))⟩
/-- 44 lifted ['game', 'player', 'number', 'some', 'one', 'group'] -/
def f44 : FnI := ⟨3, false, 6, (.cons (.set 3 (.call 12 (.cons (.call 10 (.cons (.var 0) .nil)) .nil))) (.cons (.ret (.bi .tuple (.cons (.lc (.bin .add (.var 4) (.bin .mul (.var 2) (.bi .int (.cons (.cmp .isIn (.var 1) (.var 5)) .nil)))) (.many [4, 5]) (.zip (.var 0) (.var 3)) .nil [4, 5]) .nil))) .nil))⟩
/-- 45 values_of ['word', 'parts', 'found', 'part'] -/
def f45 : FnI := ⟨2, false, 4, (.cons (.ifS (.cmp .isIn (.var 0) (.cst (.tup [(.str "words"), (.str "all")]))) (.cons (.ret (.ite (.cmp .eq (.var 1) (.lst .nil)) (.lst .nil) (.cst .non))) .nil) .nil) (.cons (.ifS (.cmp .isIn (.var 0) (.cst (.tup [(.str "watch"), (.str "calm"), (.str "word"), (.str "since"), (.str "bettering")]))) (.cons (.set 2 (.ite (.cmp .eq (.bi .len (.cons (.var 1) .nil)) (.cst (.int 1))) (.lst (.cons (.call 27 (.cons (.sm .split (.ix (.var 1) (.cst (.int 0))) (.cons (.cst (.str ",")) .nil)) .nil)) .nil)) (.lst (.cons (.cst .non) .nil)))) .nil) (.cons (.ifS (.cmp .eq (.var 0) (.cst (.str "worth"))) (.cons (.set 2 (.ite (.cmp .eq (.bi .len (.cons (.var 1) .nil)) (.cst (.int 1))) (.lst (.cons (.call 25 (.cons (.ix (.var 1) (.cst (.int 0))) .nil)) .nil)) (.lst (.cons (.cst .non) .nil)))) .nil) (.cons (.ifS (.cmp .eq (.var 0) (.cst (.str "put"))) (.cons (.set 2 (.ite (.cmp .eq (.bi .len (.cons (.var 1) .nil)) (.cst (.int 2))) (.lst (.cons (.call 25 (.cons (.ix (.var 1) (.cst (.int 0))) .nil)) (.cons (.call 24 (.cons (.ix (.var 1) (.cst (.int 1))) .nil)) .nil))) (.lst (.cons (.cst .non) .nil)))) .nil) (.cons (.ifS (.cmp .eq (.var 0) (.cst (.str "lift"))) (.cons (.set 2 (.ite (.cmp .eq (.bi .len (.cons (.var 1) .nil)) (.cst (.int 2))) (.lc (.call 24 (.cons (.var 3) .nil)) (.one 3) (.seq (.var 1)) .nil [3]) (.lst (.cons (.cst .non) .nil)))) .nil) (.cons (.set 2 (.ite (.and (.cmp .isIn (.var 0) (.cst (.tup [(.str "undo"), (.str "redo")]))) (.cmp .eq (.bi .len (.cons (.var 1) .nil)) (.cst (.int 1)))) (.lc (.call 24 (.cons (.var 3) .nil)) (.one 3) (.seq (.var 1)) .nil [3]) (.lst (.cons (.cst .non) .nil)))) .nil)) .nil)) .nil)) .nil)) (.cons (.ret (.ite (.cmp .isIn (.cst .non) (.var 2)) (.cst .non) (.var 2))) .nil)))⟩
/-- 46 _law_bag ['script', 'spot', 'cell', 'great', 'blend'] -/
def f46 : FnI := ⟨2, false, 5, (.cons (.set 2 (.ite (.cmp .lt (.var 1) (.bi .len (.cons (.var 0) .nil))) (.bi .int (.cons (.ix (.var 0) (.var 1)) .nil)) (.bin .add (.bin .mul (.cst (.int 89)) (.var 1)) (.cst (.int 41))))) (.cons (.set 3 (.bin .mod (.bi .max2 (.cons (.cst (.int 0)) (.cons (.bin .sub (.bi .abs (.cons (.var 2) .nil)) (.bin .pow (.cst (.int 10)) (.cst (.int 18)))) .nil))) (.bin .mul (.bin .pow (.cst (.int 10)) (.cst (.int 60))) (.bin .pow (.cst (.int 10)) (.cst (.int 60)))))) (.cons (.set 4 (.bin .add (.bin .add (.bin .add (.bin .mul (.bin .mod (.bi .int (.cons (.bi .abs (.cons (.var 2) .nil)) .nil)) (.bin .add (.bin .pow (.cst (.int 10)) (.cst (.int 12))) (.cst (.int 39)))) (.cst (.int 10007))) (.bin .mul (.cst (.int 509)) (.var 1))) (.bin .mul (.cst (.int 17)) (.bi .int (.cons (.cmp .lt (.var 2) (.cst (.int 0))) .nil)))) (.cst (.int 1)))) (.cons (.ret (.lst (.cons (.var 3) (.cons (.bin .mod (.bi .int (.cons (.var 4) .nil)) (.bin .sub (.bin .pow (.cst (.int 2)) (.cst (.int 61))) (.cst (.int 1)))) .nil)))) .nil))))⟩
/-- 47 _law_draw ['bag', 'many', 'found'] -/
def f47 : FnI := ⟨2, false, 3, (.cons (.ifS (.cmp .gt (.ix (.var 0) (.cst (.int 0))) (.cst (.int 0))) (.cons (.set 2 (.bin .mod (.bi .int (.cons (.ix (.var 0) (.cst (.int 0))) .nil)) (.var 1))) (.cons (.setIx (.var 0) (.cst (.int 0)) (.bin .fdiv (.ix (.var 0) (.cst (.int 0))) (.var 1))) (.cons (.ret (.var 2)) .nil))) .nil) (.cons (.setIx (.var 0) (.cst (.int 1)) (.bin .mod (.bi .int (.cons (.bin .add (.bin .mul (.ix (.var 0) (.cst (.int 1))) (.cst (.int 6364136223))) (.cst (.int 1442695041))) .nil)) (.bin .sub (.bin .pow (.cst (.int 2)) (.cst (.int 61))) (.cst (.int 1))))) (.cons (.ret (.bin .mod (.bi .int (.cons (.bin .fdiv (.ix (.var 0) (.cst (.int 1))) (.cst (.int 65537))) .nil)) (.var 1))) .nil)))⟩
/-- 48 _law_one_of ['bag', 'items'] -/
def f48 : FnI := ⟨2, false, 2, (.cons (.ret (.ix (.var 1) (.join (.call 47 (.cons (.var 0) (.cons (.bi .len (.cons (.var 1) .nil)) .nil)))))) .nil)⟩
/-- 49 _law_right ['bag', 'game', 'size', 'one', 'some', 'shares', 'text', 'shell', 'high', 'told'] -/
def f49 : FnI := ⟨1, false, 10, (.cons (.set 1 (.call 48 (.cons (.var 0) (.cons (.lst (.cons (.cst .non) (.cons (.cst (.int 0)) (.cons (.tup .nil) (.cons (.tup (.cons (.cst (.int 0)) .nil)) (.cons (.tup (.cons (.cst (.int 0)) (.cons (.cst (.int 1)) (.cons (.cst (.int 2)) .nil)))) (.cons (.lst (.cons (.cst (.int 0)) (.cons (.cst (.int 1)) .nil))) (.cons (.tup (.cons (.cst (.int 1)) (.cons (.cst (.int 2)) .nil))) (.cons (.tup (.cons (.cst (.int 0)) (.cons (.cst (.int 1000)) .nil))) (.cons (.tup (.cons (.cst (.int 0)) (.cons (.cst (.bl true)) .nil))) (.cons (.tup (.cons (.cst (.int 0)) (.cons (.cst (.str "1")) .nil))) (.cons (.tup (.cons (.cst (.int 0)) (.cons (.cst .non) .nil))) (.cons (.bin .mul (.tup (.cons (.cst (.int 0)) .nil)) (.cst (.int 64))) (.cons .dnew .nil)))))))))))))) .nil)))) (.cons (.setT [2, 3] (.tup (.cons (.call 48 (.cons (.var 0) (.cons (.lst (.cons (.cst (.int 0)) (.cons (.cst (.int 6)) (.cons (.neg (.cst (.int 1))) (.cons (.cst .non) (.cons (.cst (.bl true)) (.cons (.cst (.str "2")) (.cons (.tup (.cons (.cst (.int 2)) .nil)) (.cons (.bin .pow (.cst (.int 10)) (.cst (.int 60))) .nil))))))))) .nil))) (.cons (.tup (.cons (.cst (.int 1)) (.cons (.cst (.int 1)) .nil))) .nil)))) (.cons (.set 4 (.lst (.cons (.cst .non) (.cons (.tup .nil) (.cons (.lst (.cons (.tup (.cons (.var 3) (.cons (.var 3) .nil))) .nil)) (.cons (.tup (.cons (.tup (.cons (.var 3) .nil)) .nil)) (.cons (.tup (.cons (.var 3) (.cons (.var 3) .nil))) (.cons (.bin .mul (.tup (.cons (.tup (.cons (.var 3) (.cons (.var 3) .nil))) .nil)) (.cst (.int 10))) (.cons (.tup (.cons (.tup (.cons (.var 3) (.cons (.tup (.cons (.cst (.int 2)) (.cons (.cst (.int 4)) .nil))) .nil))) .nil)) (.cons (.tup (.cons (.tup (.cons (.var 3) (.cons (.tup (.cons (.cst (.int 1)) (.cons (.cst (.int 0)) .nil))) .nil))) .nil)) .nil)))))))))) (.cons (.set 5 (.call 48 (.cons (.var 0) (.cons (.bin .add (.var 4) (.lst (.cons (.tup (.cons (.tup (.cons (.var 3) (.cons (.cst .non) .nil))) .nil)) (.cons (.tup (.cons (.tup (.cons (.var 3) (.cons (.tup (.cons (.cst (.bl true)) (.cons (.cst (.int 1)) .nil))) .nil))) .nil)) (.cons (.tup (.cons (.tup (.cons (.var 3) (.cons (.tup (.cons (.bin .add (.bin .pow (.cst (.int 10)) (.cst (.int 12))) (.cst (.int 1))) (.cons (.cst (.int 1)) .nil))) .nil))) .nil)) (.cons (.cst (.int 0)) .nil)))))) .nil)))) (.cons (.setT [6, 7] (.tup (.cons (.call 48 (.cons (.var 0) (.cons (.lst (.cons (.cst .non) (.cons (.cst (.int 7)) (.cons (.tup (.cons (.cst (.str "game 1\n")) .nil)) (.cons (.lst (.cons (.cst (.str "x")) .nil)) (.cons (.cst (.bl true)) (.cons (.bin .mul (.cst (.str "0")) (.cst (.int 20001))) (.cons .dnew .nil)))))))) .nil))) (.cons (.mk 1 68 (.cons (.cst (.int 2)) .nil)) .nil)))) (.fork [2] [8, 9] (.cons (.set 8 (.bin .add (.cst (.str "number ")) (.rp (.var 2)))) (.cons (.set 9 (.lst (.cons (.fork [1] (.met (.call 37 (.cons (.var 1) .nil)))) .nil))) (.cons (.drop (.me .append (.var 9) (.cons (.met (.call 39 (.cons (.var 2) (.cons (.var 5) .nil)))) .nil))) (.cons (.drop (.me .append (.var 9) (.cons (.fork [5] (.met (.call 39 (.cons (.cst (.int 2)) (.cons (.var 5) .nil))))) .nil))) (.cons (.drop (.me .append (.var 9) (.cons (.fork [6] (.met (.call 38 (.cons (.var 6) .nil)))) .nil))) (.cons (.drop (.me .append (.var 9) (.cons (.fork [6] (.met (.call 40 (.cons (.var 6) .nil)))) .nil))) (.cons (.drop (.me .append (.var 9) (.cons (.fork [6] (.met (.icall 1 69 (.var 7) (.cons (.var 6) .nil)))) .nil))) (.cons (.drop (.me .append (.var 9) (.cons (.met (.mk 1 68 (.cons (.var 2) .nil))) .nil))) (.cons (.ret (.and (.cmp .eq (.var 9) (.lst (.cons (.cst (.str "game")) (.cons (.var 8) (.cons (.cst (.str "report")) (.cons (.cst (.str "text")) (.cons (.cst (.str "text")) (.cons (.cst (.str "text")) (.cons (.var 8) .nil))))))))) (.cmp .eq (.icall 1 69 (.var 7) (.cons (.cst (.str "all")) .nil)) (.cst (.str "0"))))) .nil))))))))) .nil))))))⟩
/-- 50 law ['script', 'spot', 'bag', 'turn', 'told'] -/
def f50 : FnI := ⟨1, false, 5, (.fork [0] [1, 2, 3] (.cons (.for (.one 1) (.rng (.cons (.bi .max2 (.cons (.cst (.int 1)) (.cons (.bi .min2 (.cons (.cst (.int 4)) (.cons (.bi .len (.cons (.var 0) .nil)) .nil))) .nil))) .nil)) (.cons (.set 2 (.join (.call 46 (.cons (.var 0) (.cons (.var 1) .nil))))) (.cons (.ifS (.cmp .ne (.lc (.cst (.int 1)) (.one 3) (.rng (.cons (.cst (.int 4)) .nil)) (.cons (.nt (.call 49 (.cons (.var 2) .nil))) .nil) [3]) (.lst .nil)) (.cons (.ret (.cst (.bl false))) .nil) .nil) .nil))) .nil) (.cons (.set 4 (.lst (.cons (.met (.call 38 (.cons (.bin .mul (.cst (.str "0")) (.cst (.int 20000))) .nil))) (.cons (.metD [] (.call 40 (.cons (.bin .mul (.cst (.str "0")) (.cst (.int 20000))) .nil))) (.cons (.icall 1 69 (.mk 1 68 (.cons (.cst (.int 2)) .nil)) (.cons (.bin .mul (.cst (.str "0")) (.cst (.int 20000))) .nil)) (.cons (.cst (.int 20000)) .nil)))))) (.cons (.ret (.and (.cmp .eq (.var 4) (.lst (.cons (.cst (.str "spot 0")) (.cons (.cst (.str "spot 0")) (.cons (.cst (.str "what")) (.cons (.cst (.int 20000)) .nil)))))) (.cmp .eq (.met (.call 39 (.cons (.cst (.int 1)) (.cons (.bin .mul (.tup (.cons (.tup (.cons (.tup (.cons (.cst (.int 1)) (.cons (.cst (.int 1)) .nil))) .nil)) .nil)) (.cst (.int 9))) .nil)))) (.cst (.str "fine"))))) .nil)))⟩
/-- 51 Board.__init__ ['self', 'size'] -/
def f51 : FnI := ⟨2, false, 2, (.cons (.drop (.call 16 (.cons (.var 1) .nil))) (.cons (.setA 0 3 (.var 0) (.var 1)) (.cons (.setA 0 2 (.var 0) (.lst (.cons (.tup (.cons (.bin .mul (.tup (.cons (.cst (.int 0)) .nil)) (.ix (.tup (.cons (.cst (.int 2)) (.cons (.cst (.int 4)) (.cons (.cst (.int 8)) (.cons (.cst (.int 16)) (.cons (.cst (.int 32)) .nil)))))) (.bin .sub (.var 1) (.cst (.int 1))))) (.cons (.tup .nil) .nil))) .nil))) (.cons (.setA 0 1 (.var 0) (.lst .nil)) (.cons (.setA 0 0 (.var 0) (.lst .nil)) .nil)))))⟩
/-- 52 Board.size ['self'] -/
def f52 : FnI := ⟨1, false, 1, (.cons (.ret (.att 0 3 (.var 0))) .nil)⟩
/-- 53 Board.game ['self'] -/
def f53 : FnI := ⟨1, false, 1, (.cons (.ret (.ix (.ix (.att 0 2 (.var 0)) (.neg (.cst (.int 1)))) (.cst (.int 0)))) .nil)⟩
/-- 54 Board.version ['self'] -/
def f54 : FnI := ⟨1, false, 1, (.cons (.ret (.bi .len (.cons (.att 0 1 (.var 0)) .nil))) .nil)⟩
/-- 55 Board.watched ['self'] -/
def f55 : FnI := ⟨1, false, 1, (.cons (.ret (.ix (.ix (.att 0 2 (.var 0)) (.neg (.cst (.int 1)))) (.cst (.int 1)))) .nil)⟩
/-- 56 Board.stand ['self', 'deed', 'game', 'watched'] -/
def f56 : FnI := ⟨4, false, 4, (.cons (.drop (.me .append (.att 0 1 (.var 0)) (.cons (.var 1) .nil))) (.cons (.drop (.me .append (.att 0 2 (.var 0)) (.cons (.tup (.cons (.var 2) (.cons (.var 3) .nil))) .nil))) (.cons (.setA 0 0 (.var 0) (.lst .nil)) (.cons (.ret (.prp 0 54 (.var 0))) .nil))))⟩
/-- 57 Board.put ['self', 'group', 'number'] -/
def f57 : FnI := ⟨3, false, 3, (.cons (.drop (.call 19 (.cons (.att 0 3 (.var 0)) (.cons (.var 1) .nil)))) (.cons (.ifS (.nt (.call 2 (.cons (.var 2) (.cons (.neg (.cst (.int 999))) (.cons (.cst (.int 999)) .nil))))) (.cons (.rse 8 (.var 2)) .nil) .nil) (.cons (.ifS (.cmp .eq (.call 14 (.cons (.prp 0 53 (.var 0)) (.cons (.var 1) .nil))) (.var 2)) (.cons (.rse 6 (.cst (.str "another worth is expected"))) .nil) .nil) (.cons (.ret (.mth 0 56 (.var 0) (.cons (.tup (.cons (.cst (.str "put")) (.cons (.var 1) (.cons (.var 2) .nil)))) (.cons (.call 43 (.cons (.prp 0 53 (.var 0)) (.cons (.var 1) (.cons (.var 2) .nil)))) (.cons (.prp 0 55 (.var 0)) .nil))))) .nil))))⟩
/-- 58 Board.lift ['self', 'player', 'number', 'game', 'one'] -/
def f58 : FnI := ⟨3, false, 5, (.cons (.drop (.call 18 (.cons (.att 0 3 (.var 0)) (.cons (.var 1) .nil)))) (.cons (.ifS (.or (.nt (.call 2 (.cons (.var 2) (.cons (.neg (.cst (.int 999))) (.cons (.cst (.int 999)) .nil))))) (.cmp .eq (.var 2) (.cst (.int 0)))) (.cons (.rse 8 (.var 2)) .nil) .nil) (.cons (.set 3 (.call 44 (.cons (.prp 0 53 (.var 0)) (.cons (.var 1) (.cons (.var 2) .nil))))) (.cons (.ifS (.nt (.bi .all (.cons (.lc (.call 2 (.cons (.var 4) (.cons (.neg (.cst (.int 999))) (.cons (.cst (.int 999)) .nil)))) (.one 4) (.seq (.var 3)) .nil [4]) .nil))) (.cons (.rse 6 (.cst (.str "a worth would be beyond what is let"))) .nil) .nil) (.cons (.ret (.mth 0 56 (.var 0) (.cons (.tup (.cons (.cst (.str "lift")) (.cons (.var 1) (.cons (.var 2) .nil)))) (.cons (.var 3) (.cons (.prp 0 55 (.var 0)) .nil))))) .nil)))))⟩
/-- 59 Board.watch ['self', 'share'] -/
def f59 : FnI := ⟨2, false, 2, (.cons (.drop (.call 22 (.cons (.att 0 3 (.var 0)) (.cons (.var 1) .nil)))) (.cons (.ifS (.cmp .isIn (.var 1) (.prp 0 55 (.var 0))) (.cons (.rse 6 (.cst (.str "a share that is not watched is expected"))) .nil) .nil) (.cons (.ifS (.cmp .eq (.bi .len (.cons (.prp 0 55 (.var 0)) .nil)) (.cst (.int 8))) (.cons (.rse 10 (.cst (.int 8))) .nil) .nil) (.cons (.ret (.mth 0 56 (.var 0) (.cons (.tup (.cons (.cst (.str "watch")) (.cons (.var 1) .nil))) (.cons (.prp 0 53 (.var 0)) (.cons (.bi .tuple (.cons (.bi .sorted (.cons (.lst (.star (.prp 0 55 (.var 0)) (.cons (.var 1) .nil))) .nil)) .nil)) .nil))))) .nil))))⟩
/-- 60 Board.calm ['self', 'share', 'one'] -/
def f60 : FnI := ⟨2, false, 3, (.cons (.drop (.call 22 (.cons (.att 0 3 (.var 0)) (.cons (.var 1) .nil)))) (.cons (.ifS (.cmp .notIn (.var 1) (.prp 0 55 (.var 0))) (.cons (.rse 6 (.cst (.str "a watched share is expected"))) .nil) .nil) (.cons (.ret (.mth 0 56 (.var 0) (.cons (.tup (.cons (.cst (.str "calm")) (.cons (.var 1) .nil))) (.cons (.prp 0 53 (.var 0)) (.cons (.bi .tuple (.cons (.lc (.var 2) (.one 2) (.seq (.prp 0 55 (.var 0))) (.cons (.cmp .ne (.var 2) (.var 1)) .nil) [2]) .nil)) .nil))))) .nil)))⟩
/-- 61 Board.word ['self', 'share'] -/
def f61 : FnI := ⟨2, false, 2, (.cons (.drop (.call 22 (.cons (.att 0 3 (.var 0)) (.cons (.var 1) .nil)))) (.cons (.ret (.call 42 (.cons (.prp 0 53 (.var 0)) (.cons (.var 1) .nil)))) .nil))⟩
/-- 62 Board.words ['self', 'share'] -/
def f62 : FnI := ⟨1, false, 2, (.cons (.ret (.bi .tuple (.cons (.lc (.call 42 (.cons (.prp 0 53 (.var 0)) (.cons (.var 1) .nil))) (.one 1) (.seq (.prp 0 55 (.var 0))) .nil [1]) .nil))) .nil)⟩
/-- 63 Board.since ['self', 'share', 'word', 'found'] -/
def f63 : FnI := ⟨2, false, 4, (.cons (.par [2, 3] (.cons (.mth 0 61 (.var 0) (.cons (.var 1) .nil)) (.cons (.prp 0 54 (.var 0)) .nil))) (.cons (.whl (.and (.cmp .gt (.var 3) (.cst (.int 0))) (.cmp .eq (.call 42 (.cons (.ix (.ix (.att 0 2 (.var 0)) (.bin .sub (.var 3) (.cst (.int 1)))) (.cst (.int 0))) (.cons (.var 1) .nil))) (.var 2))) (.cons (.aug .sub 3 (.cst (.int 1))) .nil)) (.cons (.ret (.var 3)) .nil)))⟩
/-- 64 Board.bettering ['self', 'share'] -/
def f64 : FnI := ⟨2, false, 2, (.cons (.drop (.call 22 (.cons (.att 0 3 (.var 0)) (.cons (.var 1) .nil)))) (.cons (.ret (.bi .tuple (.cons (.call 41 (.cons (.prp 0 53 (.var 0)) (.cons (.var 1) .nil))) .nil))) .nil))⟩
/-- 65 Board.all_worth ['self'] -/
def f65 : FnI := ⟨1, false, 1, (.cons (.ret (.ix (.prp 0 53 (.var 0)) (.neg (.cst (.int 1))))) .nil)⟩
/-- 66 Board.undo ['self', 'many', 'turn'] -/
def f66 : FnI := ⟨2, false, 3, (.cons (.ifS (.or (.nt (.call 1 (.cons (.var 1) .nil))) (.cmp .lt (.var 1) (.cst (.int 0)))) (.cons (.rse 8 (.var 1)) .nil) .nil) (.cons (.ifS (.cmp .gt (.var 1) (.prp 0 54 (.var 0))) (.cons (.rse 9 (.var 1)) .nil) .nil) (.cons (.for (.one 2) (.rng (.cons (.var 1) .nil)) (.cons (.drop (.me .append (.att 0 0 (.var 0)) (.cons (.tup (.cons (.me .pop (.att 0 1 (.var 0)) .nil) (.cons (.me .pop (.att 0 2 (.var 0)) .nil) .nil))) .nil))) .nil)) (.cons (.ret (.prp 0 54 (.var 0))) .nil))))⟩
/-- 67 Board.redo ['self', 'many', 'turn', 'deed', 'moment'] -/
def f67 : FnI := ⟨2, false, 5, (.cons (.ifS (.or (.nt (.call 1 (.cons (.var 1) .nil))) (.cmp .lt (.var 1) (.cst (.int 0)))) (.cons (.rse 8 (.var 1)) .nil) .nil) (.cons (.ifS (.cmp .gt (.var 1) (.bi .len (.cons (.att 0 0 (.var 0)) .nil))) (.cons (.rse 9 (.var 1)) .nil) .nil) (.cons (.for (.one 2) (.rng (.cons (.var 1) .nil)) (.cons (.setT [3, 4] (.me .pop (.att 0 0 (.var 0)) .nil)) (.cons (.drop (.me .append (.att 0 1 (.var 0)) (.cons (.var 3) .nil))) (.cons (.drop (.me .append (.att 0 2 (.var 0)) (.cons (.var 4) .nil))) .nil)))) (.cons (.ret (.prp 0 54 (.var 0))) .nil))))⟩
/-- 68 Shell.__init__ ['self', 'size'] -/
def f68 : FnI := ⟨2, false, 2, (.cons (.setA 1 0 (.var 0) (.mk 0 51 (.cons (.var 1) .nil))) .nil)⟩
/-- 69 Shell.__call__ ['self', 'line', 'parts', 'values'] -/
def f69 : FnI := ⟨2, false, 4, (.cons (.drop (.call 36 (.cons (.var 1) .nil))) (.cons (.set 2 (.sm .split (.var 1) (.cons (.cst (.str " ")) .nil))) (.cons (.set 3 (.call 45 (.cons (.ix (.var 2) (.cst (.int 0))) (.cons (.sl (.var 2) (.cons (.cst (.int 1)) .nil) .nil) .nil)))) (.cons (.ifS (.cmp .is (.var 3) (.cst .non)) (.cons (.ret (.cst (.str "what"))) .nil) .nil) (.cons (.tryN (.cons (.ret (.bi .str (.cons (.mth 1 70 (.var 0) (.cons (.ix (.var 2) (.cst (.int 0))) (.cons (.var 3) .nil))) .nil))) .nil)) .nil)))))⟩
/-- 70 Shell.answered ['self', 'word', 'values'] -/
def f70 : FnI := ⟨3, false, 3, (.cons (.ifS (.cmp .isIn (.var 1) (.cst (.tup [(.str "undo"), (.str "redo")]))) (.cons (.ret (.ite (.cmp .eq (.var 1) (.cst (.str "undo"))) (.mth 0 66 (.att 1 0 (.var 0)) (.cons (.ix (.var 2) (.cst (.int 0))) .nil)) (.mth 0 67 (.att 1 0 (.var 0)) (.cons (.ix (.var 2) (.cst (.int 0))) .nil)))) .nil) .nil) (.cons (.ifS (.cmp .eq (.var 1) (.cst (.str "put"))) (.cons (.ret (.mth 0 57 (.att 1 0 (.var 0)) (.cons (.ix (.var 2) (.cst (.int 0))) (.cons (.ix (.var 2) (.cst (.int 1))) .nil)))) .nil) .nil) (.cons (.ifS (.cmp .eq (.var 1) (.cst (.str "lift"))) (.cons (.ret (.mth 0 58 (.att 1 0 (.var 0)) (.cons (.ix (.var 2) (.cst (.int 0))) (.cons (.ix (.var 2) (.cst (.int 1))) .nil)))) .nil) .nil) (.cons (.ifS (.cmp .eq (.var 1) (.cst (.str "worth"))) (.cons (.ret (.mth 1 72 (.var 0) (.cons (.ix (.var 2) (.cst (.int 0))) .nil))) .nil) .nil) (.cons (.ret (.ite (.cmp .isIn (.var 1) (.cst (.tup [(.str "watch"), (.str "calm"), (.str "word"), (.str "since"), (.str "bettering")]))) (.mth 1 71 (.var 0) (.cons (.var 1) (.cons (.ix (.var 2) (.cst (.int 0))) .nil))) (.mth 1 73 (.var 0) (.cons (.var 1) .nil)))) .nil)))))⟩
/-- 71 Shell.shared ['self', 'word', 'share', 'groups', 'group'] -/
def f71 : FnI := ⟨3, false, 5, (.cons (.ifS (.cmp .isIn (.var 1) (.tup (.cons (.cst (.str "watch")) (.cons (.cst (.str "calm")) .nil)))) (.cons (.ret (.ite (.cmp .eq (.var 1) (.cst (.str "watch"))) (.mth 0 59 (.att 1 0 (.var 0)) (.cons (.var 2) .nil)) (.mth 0 60 (.att 1 0 (.var 0)) (.cons (.var 2) .nil)))) .nil) .nil) (.cons (.ifS (.cmp .eq (.var 1) (.cst (.str "bettering"))) (.cons (.set 3 (.mth 0 64 (.att 1 0 (.var 0)) (.cons (.var 2) .nil))) (.cons (.ret (.ite (.cmp .ne (.var 3) (.tup .nil)) (.sm .join (.cst (.str " ")) (.cons (.lc (.call 28 (.cons (.var 4) .nil)) (.one 4) (.seq (.var 3)) .nil [4]) .nil)) (.cst (.str "none")))) .nil)) .nil) (.cons (.ret (.ite (.cmp .eq (.var 1) (.cst (.str "word"))) (.mth 0 61 (.att 1 0 (.var 0)) (.cons (.var 2) .nil)) (.mth 0 63 (.att 1 0 (.var 0)) (.cons (.var 2) .nil)))) .nil)))⟩
/-- 72 Shell.worth_now ['self', 'group'] -/
def f72 : FnI := ⟨2, false, 2, (.cons (.drop (.call 19 (.cons (.prp 0 52 (.att 1 0 (.var 0))) (.cons (.var 1) .nil)))) (.cons (.ret (.call 14 (.cons (.prp 0 53 (.att 1 0 (.var 0))) (.cons (.var 1) .nil)))) .nil))⟩
/-- 73 Shell.shown ['self', 'word', 'words'] -/
def f73 : FnI := ⟨2, false, 3, (.cons (.ifS (.cmp .eq (.var 1) (.cst (.str "all"))) (.cons (.ret (.mth 0 65 (.att 1 0 (.var 0)) .nil)) .nil) .nil) (.cons (.set 2 (.mth 0 62 (.att 1 0 (.var 0)) .nil)) (.cons (.ret (.ite (.cmp .ne (.var 2) (.tup .nil)) (.sm .join (.cst (.str " ")) (.cons (.var 2) .nil)) (.cst (.str "none")))) .nil)))⟩
def irs : List FnI := ([f0, f1, f2, f3, f4, f5, f6, f7, f8, f9, f10, f11, f12, f13, f14, f15, f16, f17, f18, f19, f20, f21, f22, f23, f24, f25, f26, f27, f28, f29] : List FnI) ++ ([f30, f31, f32, f33, f34, f35, f36, f37, f38, f39, f40, f41, f42, f43, f44, f45, f46, f47, f48, f49, f50, f51, f52, f53, f54, f55, f56, f57, f58, f59] : List FnI) ++ ([f60, f61, f62, f63, f64, f65, f66, f67, f68, f69, f70, f71, f72, f73] : List FnI)
def hnd : Nat → W → Option W
  | 1, _ => some (.str "game")
  | 4, _ => some (.str "report")
  | 5, _ => some (.str "text")
  | 7, w => reprP "spot " w
  | 8, w => reprP "number " w
  | _, _ => none
def hot (f : Nat) : Bool := [49, 50].contains f
def ext (k f : Nat) (ws : List W) (h : Hs) : R W := match Nat.beq f 49 with
  | true => (match Nat.beq k 20 with
    | true => extBag 2 ws h
    | false => .no)
  | false => .no
def pg : Pg := ⟨fun f => if Nat.beq f 49 = true then none else irs[f]?, ext, hnd, .str "fine", 3000, hot⟩
def fnL : List (Str × Nat) := ([("is_int", 0), ("is_whole", 1), ("is_within", 2), ("common_of", 3), ("lowest", 4), ("add", 5), ("less", 6), ("sum_all", 7), ("is_fraction", 8), ("is_game_of", 9), ("size_of", 10), ("is_group_of", 11), ("groups_of", 12), ("index_of", 13), ("worth_of", 14), ("total_of", 15), ("require_size", 16), ("require_game", 17), ("require_player", 18), ("require_group", 19), ("is_small", 20), ("is_share_of", 21), ("require_share", 22), ("number_of", 23), ("signed_of", 24), ("group_of", 25), ("fraction_of", 26), ("share_of", 27), ("group_text", 28), ("fraction_text", 29)] : List (Str × Nat)) ++ ([("lines_text", 30), ("whole_lines", 31), ("size_by", 32), ("worth_from", 33), ("share_from", 34), ("are_shares", 35), ("require_text", 36), ("write_game", 37), ("read_game", 38), ("write_shares", 39), ("read_shares", 40), ("better_in", 41), ("word_in", 42), ("with_worth", 43), ("lifted", 44), ("values_of", 45), ("_law_bag", 46), ("_law_draw", 47), ("_law_one_of", 48), ("_law_right", 49), ("law", 50)] : List (Str × Nat))
def intL : List (Str × Int) := ([("MOST_PLAYERS", 5), ("MOST_WORTH", 999), ("GREAT", 1000000000000000000000000000000000000000000000000000000000000), ("MOST_ABOVE", 1000000000000), ("MOST_BELOW", 1000000000), ("MAX_SIGNS", 20000), ("MOST_DIGITS", 15), ("MOST_SHARES", 9), ("MAX_WATCHED", 8)] : List (Str × Int))
def strL : List (Str × Str) := ([("DIGITS", "0123456789"), ("GAME", "game"), ("SHARES", "shares"), ("SHORT", "short"), ("OVER", "over"), ("BETTERED", "bettered"), ("STEADY", "steady"), ("WHAT", "what"), ("WRONG", "wrong"), ("GROUP", "group"), ("SHARE", "share"), ("NONE", "none")] : List (Str × Str))
def supL : List (Str × Nat) := ([("ParseError", 7), ("InvalidNumber", 8), ("NothingToUndo", 9), ("TooMany", 10)] : List (Str × Nat))
def txtL : List (Str × Nat) := ([("InvalidGame", 1), ("InvalidGroup", 2), ("InvalidShare", 3), ("InvalidReport", 4), ("InvalidText", 5), ("InvalidOperation", 6)] : List (Str × Nat))
def bltL : List Str := (["len", "abs", "all", "any", "sum", "sorted", "max", "min", "tuple", "list", "int", "isinstance", "bool", "str", "range", "enumerate", "zip", "repr"] : List Str)
def atL : List (Str × Dc) := ([("Board", .icl 0 51), ("Shell", .icl 1 68), (".own_behind", .slt 0 0), (".own_log", .slt 0 1), (".own_moments", .slt 0 2), (".own_size", .slt 0 3), (".own_board", .slt 1 0), (".size", .prp 0 52), (".game", .prp 0 53), (".version", .prp 0 54), (".watched", .prp 0 55), (".stand", .mth 0 56), (".put", .mth 0 57), (".lift", .mth 0 58), (".watch", .mth 0 59), (".calm", .mth 0 60), (".word", .mth 0 61), (".words", .mth 0 62), (".since", .mth 0 63), (".bettering", .mth 0 64), (".all_worth", .mth 0 65), (".undo", .mtk 0 66 "many" (.int 1)), (".redo", .mtk 0 67 "many" (.int 1)), (".__call__", .mth 1 69), (".answered", .mth 1 70), (".shared", .mth 1 71), (".worth_now", .mth 1 72), (".shown", .mth 1 73), ("ALONE", .cst (.tup [.str "words", .str "all"])), ("COUNTED", .cst (.tup [.str "undo", .str "redo"]))] : List (Str × Dc)) ++ ([("SHARED", .cst (.tup [.str "watch", .str "calm", .str "word", .str "since", .str "bettering"]))] : List (Str × Dc))
def dcl : List (Str × Dc) := ([("is_int", .fn 0), ("is_whole", .fn 1), ("is_within", .fn 2), ("common_of", .fn 3), ("lowest", .fn 4), ("add", .fn 5), ("less", .fn 6), ("sum_all", .fn 7), ("is_fraction", .fn 8), ("is_game_of", .fn 9), ("size_of", .fn 10), ("is_group_of", .fn 11), ("groups_of", .fn 12), ("index_of", .fn 13), ("worth_of", .fn 14), ("total_of", .fn 15), ("require_size", .fn 16), ("require_game", .fn 17), ("require_player", .fn 18), ("require_group", .fn 19), ("is_small", .fn 20), ("is_share_of", .fn 21), ("require_share", .fn 22), ("number_of", .fn 23), ("signed_of", .fn 24), ("group_of", .fn 25), ("fraction_of", .fn 26), ("share_of", .fn 27), ("group_text", .fn 28), ("fraction_text", .fn 29)] : List (Str × Dc)) ++ ([("lines_text", .fn 30), ("whole_lines", .fn 31), ("size_by", .fn 32), ("worth_from", .fn 33), ("share_from", .fn 34), ("are_shares", .fn 35), ("require_text", .fn 36), ("write_game", .fn 37), ("read_game", .fn 38), ("write_shares", .fn 39), ("read_shares", .fn 40), ("better_in", .fn 41), ("word_in", .fn 42), ("with_worth", .fn 43), ("lifted", .fn 44), ("values_of", .fn 45), ("_law_bag", .fn 46), ("_law_draw", .fn 47), ("_law_one_of", .fn 48), ("_law_right", .fn 49), ("law", .fn 50), ("MOST_PLAYERS", .cst (.int 5)), ("MOST_WORTH", .cst (.int 999)), ("GREAT", .cst (.int 1000000000000000000000000000000000000000000000000000000000000)), ("MOST_ABOVE", .cst (.int 1000000000000)), ("MOST_BELOW", .cst (.int 1000000000)), ("MAX_SIGNS", .cst (.int 20000)), ("MOST_DIGITS", .cst (.int 15)), ("MOST_SHARES", .cst (.int 9)), ("MAX_WATCHED", .cst (.int 8))] : List (Str × Dc)) ++ ([("DIGITS", .cst (.str "0123456789")), ("GAME", .cst (.str "game")), ("SHARES", .cst (.str "shares")), ("SHORT", .cst (.str "short")), ("OVER", .cst (.str "over")), ("BETTERED", .cst (.str "bettered")), ("STEADY", .cst (.str "steady")), ("WHAT", .cst (.str "what")), ("WRONG", .cst (.str "wrong")), ("GROUP", .cst (.str "group")), ("SHARE", .cst (.str "share")), ("NONE", .cst (.str "none")), ("ParseError", .cls 7), ("InvalidNumber", .cls 8), ("NothingToUndo", .cls 9), ("TooMany", .cls 10), ("InvalidGame", .clsT 1), ("InvalidGroup", .clsT 2), ("InvalidShare", .clsT 3), ("InvalidReport", .clsT 4), ("InvalidText", .clsT 5), ("InvalidOperation", .clsT 6), ("len", .blt), ("abs", .blt), ("all", .blt), ("any", .blt), ("sum", .blt), ("sorted", .blt), ("max", .blt), ("min", .blt)] : List (Str × Dc)) ++ ([("tuple", .blt), ("list", .blt), ("int", .blt), ("isinstance", .blt), ("bool", .blt), ("str", .blt), ("range", .blt), ("enumerate", .blt), ("zip", .blt), ("repr", .blt), ("Board", .icl 0 51), ("Shell", .icl 1 68), (".own_behind", .slt 0 0), (".own_log", .slt 0 1), (".own_moments", .slt 0 2), (".own_size", .slt 0 3), (".own_board", .slt 1 0), (".size", .prp 0 52), (".game", .prp 0 53), (".version", .prp 0 54), (".watched", .prp 0 55), (".stand", .mth 0 56), (".put", .mth 0 57), (".lift", .mth 0 58), (".watch", .mth 0 59), (".calm", .mth 0 60), (".word", .mth 0 61), (".words", .mth 0 62), (".since", .mth 0 63), (".bettering", .mth 0 64)] : List (Str × Dc)) ++ ([(".all_worth", .mth 0 65), (".undo", .mtk 0 66 "many" (.int 1)), (".redo", .mtk 0 67 "many" (.int 1)), (".__call__", .mth 1 69), (".answered", .mth 1 70), (".shared", .mth 1 71), (".worth_now", .mth 1 72), (".shown", .mth 1 73), ("ALONE", .cst (.tup [.str "words", .str "all"])), ("COUNTED", .cst (.tup [.str "undo", .str "redo"])), ("SHARED", .cst (.tup [.str "watch", .str "calm", .str "word", .str "since", .str "bettering"]))] : List (Str × Dc))
theorem dcl_eq : dcl = mkD fnL intL strL supL txtL bltL atL := by kernel_rfl
abbrev body : List Stmt := PySem.Challenge.pw_gainshares_k88_errors_of_texts_of_games.main.body ++ clsBody (tp PySem.Challenge.pw_gainshares_k88_errors_of_texts_of_games.main.body 77) ++ clsBody (tp PySem.Challenge.pw_gainshares_k88_errors_of_texts_of_games.main.body 89)
def fp : List He.DefD := ([mOf body "Board" "__init__" 98 [], mOf body "Board" "size" 99 [], mOf body "Board" "game" 100 [], mOf body "Board" "version" 101 [], mOf body "Board" "watched" 102 [], mOf body "Board" "stand" 105 [], mOf body "Board" "put" 106 [], mOf body "Board" "lift" 107 [], mOf body "Board" "watch" 108 [], mOf body "Board" "calm" 109 []] : List He.DefD) ++ ([mOf body "Board" "word" 110 [], mOf body "Board" "words" 111 [], mOf body "Board" "since" 112 [], mOf body "Board" "bettering" 113 [], mOf body "Board" "all_worth" 114 [], mOf body "Board" "undo" 115 [("many", .int 1)], mOf body "Board" "redo" 116 [("many", .int 1)], mOf body "Shell" "__init__" 121 [], mOf body "Shell" "__call__" 122 [], mOf body "Shell" "answered" 123 []] : List He.DefD) ++ ([mOf body "Shell" "shared" 124 [], mOf body "Shell" "worth_now" 125 [], mOf body "Shell" "shown" 126 []] : List He.DefD)
def fnT : List (Str × Nat) := ([("is_int", 19), ("is_whole", 20), ("is_within", 21), ("common_of", 22), ("lowest", 23), ("add", 24), ("less", 25), ("sum_all", 26), ("is_fraction", 27), ("is_game_of", 28), ("size_of", 29), ("is_group_of", 30), ("groups_of", 31), ("index_of", 32), ("worth_of", 33), ("total_of", 34), ("require_size", 35), ("require_game", 36), ("require_player", 37), ("require_group", 38), ("is_small", 39), ("is_share_of", 40), ("require_share", 41), ("number_of", 49), ("signed_of", 50), ("group_of", 51), ("fraction_of", 52), ("share_of", 53), ("group_text", 54), ("fraction_text", 55)] : List (Str × Nat)) ++ ([("lines_text", 56), ("whole_lines", 57), ("size_by", 58), ("worth_from", 59), ("share_from", 60), ("are_shares", 61), ("require_text", 62), ("write_game", 63), ("read_game", 64), ("write_shares", 65), ("read_shares", 66), ("better_in", 73), ("word_in", 74), ("with_worth", 75), ("lifted", 76), ("values_of", 87), ("_law_bag", 91), ("_law_draw", 92), ("_law_one_of", 93), ("_law_right", 95), ("law", 96), ("_law_met", 94)] : List (Str × Nat))
def dfs : List He.Defn := ([("is_int", none), ("is_whole", none), ("is_within", none), ("common_of", none), ("lowest", none), ("add", none), ("less", none), ("sum_all", none), ("is_fraction", none), ("is_game_of", none), ("size_of", none), ("is_group_of", none), ("groups_of", none), ("index_of", none), ("worth_of", none), ("total_of", none), ("require_size", none), ("require_game", none), ("require_player", none), ("require_group", none), ("is_small", none), ("is_share_of", none), ("require_share", none), ("number_of", none), ("signed_of", none), ("group_of", none), ("fraction_of", none), ("share_of", none), ("group_text", none), ("fraction_text", none)] : List He.Defn) ++ ([("lines_text", none), ("whole_lines", none), ("size_by", none), ("worth_from", none), ("share_from", none), ("are_shares", none), ("require_text", none), ("write_game", none), ("read_game", none), ("write_shares", none), ("read_shares", none), ("better_in", none), ("word_in", none), ("with_worth", none), ("lifted", none), ("values_of", none), ("_law_bag", none), ("_law_draw", none), ("_law_one_of", none), ("_law_right", none), ("law", none), ("Board", some "__init__"), ("Board", some "size"), ("Board", some "game"), ("Board", some "version"), ("Board", some "watched"), ("Board", some "stand"), ("Board", some "put"), ("Board", some "lift"), ("Board", some "watch")] : List He.Defn) ++ ([("Board", some "calm"), ("Board", some "word"), ("Board", some "words"), ("Board", some "since"), ("Board", some "bettering"), ("Board", some "all_worth"), ("Board", some "undo"), ("Board", some "redo"), ("Shell", some "__init__"), ("Shell", some "__call__"), ("Shell", some "answered"), ("Shell", some "shared"), ("Shell", some "worth_now"), ("Shell", some "shown")] : List He.Defn)
def df (f : Nat) : He.Defn := dfs.getD f ("", none)
def tf : List He.Defn := [("_law_right", none), ("law", none)]
theorem d0 : DefP pg dcl body none false "is_int" 19 f0 := ⟨["value"], ["value"], ⟨rfl, rfl, rfl, by decide +kernel, rfl, by decide +kernel, by decide +kernel⟩, rfl, rfl, rfl, cSs_un (n := 60) (by kernel_rfl) (by kernel_rfl),
  fun _ _ _ _ _ _ us hl => match us, hl with | [_], _ => rfl⟩
theorem d1 : DefP pg dcl body none false "is_whole" 20 f1 := ⟨["value"], ["value"], ⟨rfl, rfl, rfl, by decide +kernel, rfl, by decide +kernel, by decide +kernel⟩, rfl, rfl, rfl, cSs_un (n := 60) (by kernel_rfl) (by kernel_rfl),
  fun _ _ _ _ _ _ us hl => match us, hl with | [_], _ => rfl⟩
theorem d2 : DefP pg dcl body none false "is_within" 21 f2 := ⟨["value", "low", "high"], ["value", "low", "high"], ⟨rfl, rfl, rfl, by decide +kernel, rfl, by decide +kernel, by decide +kernel⟩, rfl, rfl, rfl, cSs_un (n := 60) (by kernel_rfl) (by kernel_rfl),
  fun _ _ _ _ _ _ us hl => match us, hl with | [_, _, _], _ => rfl⟩
theorem d3 : DefP pg dcl body none false "common_of" 22 f3 := ⟨["one", "other", "first", "second"], ["one", "other"], ⟨rfl, rfl, rfl, by decide +kernel, rfl, by decide +kernel, by decide +kernel⟩, rfl, rfl, rfl, cSs_un (n := 60) (by kernel_rfl) (by kernel_rfl),
  fun _ _ _ _ _ _ us hl => match us, hl with | [_, _], _ => rfl⟩
theorem d4 : DefP pg dcl body none false "lowest" 23 f4 := ⟨["above", "below", "great", "sign"], ["above", "below"], ⟨rfl, rfl, rfl, by decide +kernel, rfl, by decide +kernel, by decide +kernel⟩, rfl, rfl, rfl, cSs_un (n := 60) (by kernel_rfl) (by kernel_rfl),
  fun _ _ _ _ _ _ us hl => match us, hl with | [_, _], _ => rfl⟩
theorem d5 : DefP pg dcl body none false "add" 24 f5 := ⟨["one", "other"], ["one", "other"], ⟨rfl, rfl, rfl, by decide +kernel, rfl, by decide +kernel, by decide +kernel⟩, rfl, rfl, rfl, cSs_un (n := 60) (by kernel_rfl) (by kernel_rfl),
  fun _ _ _ _ _ _ us hl => match us, hl with | [_, _], _ => rfl⟩
theorem d6 : DefP pg dcl body none false "less" 25 f6 := ⟨["one", "other"], ["one", "other"], ⟨rfl, rfl, rfl, by decide +kernel, rfl, by decide +kernel, by decide +kernel⟩, rfl, rfl, rfl, cSs_un (n := 60) (by kernel_rfl) (by kernel_rfl),
  fun _ _ _ _ _ _ us hl => match us, hl with | [_, _], _ => rfl⟩
theorem d7 : DefP pg dcl body none false "sum_all" 26 f7 := ⟨["fractions", "found", "one"], ["fractions"], ⟨rfl, rfl, rfl, by decide +kernel, rfl, by decide +kernel, by decide +kernel⟩, rfl, rfl, rfl, cSs_un (n := 60) (by kernel_rfl) (by kernel_rfl),
  fun _ _ _ _ _ _ us hl => match us, hl with | [_], _ => rfl⟩
theorem d8 : DefP pg dcl body none false "is_fraction" 27 f8 := ⟨["value", "one"], ["value"], ⟨rfl, rfl, rfl, by decide +kernel, rfl, by decide +kernel, by decide +kernel⟩, rfl, rfl, rfl, cSs_un (n := 60) (by kernel_rfl) (by kernel_rfl),
  fun _ _ _ _ _ _ us hl => match us, hl with | [_], _ => rfl⟩
theorem d9 : DefP pg dcl body none false "is_game_of" 28 f9 := ⟨["value", "one"], ["value"], ⟨rfl, rfl, rfl, by decide +kernel, rfl, by decide +kernel, by decide +kernel⟩, rfl, rfl, rfl, cSs_un (n := 60) (by kernel_rfl) (by kernel_rfl),
  fun _ _ _ _ _ _ us hl => match us, hl with | [_], _ => rfl⟩
theorem d10 : DefP pg dcl body none false "size_of" 29 f10 := ⟨["game"], ["game"], ⟨rfl, rfl, rfl, by decide +kernel, rfl, by decide +kernel, by decide +kernel⟩, rfl, rfl, rfl, cSs_un (n := 60) (by kernel_rfl) (by kernel_rfl),
  fun _ _ _ _ _ _ us hl => match us, hl with | [_], _ => rfl⟩
theorem d11 : DefP pg dcl body none false "is_group_of" 30 f11 := ⟨["size", "value", "player", "one", "other"], ["size", "value"], ⟨rfl, rfl, rfl, by decide +kernel, rfl, by decide +kernel, by decide +kernel⟩, rfl, rfl, rfl, cSs_un (n := 60) (by kernel_rfl) (by kernel_rfl),
  fun _ _ _ _ _ _ us hl => match us, hl with | [_, _], _ => rfl⟩
theorem d12 : DefP pg dcl body none false "groups_of" 31 f12 := ⟨["size", "found", "player", "group"], ["size"], ⟨rfl, rfl, rfl, by decide +kernel, rfl, by decide +kernel, by decide +kernel⟩, rfl, rfl, rfl, cSs_un (n := 60) (by kernel_rfl) (by kernel_rfl),
  fun _ _ _ _ _ _ us hl => match us, hl with | [_], _ => rfl⟩
theorem d13 : DefP pg dcl body none false "index_of" 32 f13 := ⟨["group", "player"], ["group"], ⟨rfl, rfl, rfl, by decide +kernel, rfl, by decide +kernel, by decide +kernel⟩, rfl, rfl, rfl, cSs_un (n := 60) (by kernel_rfl) (by kernel_rfl),
  fun _ _ _ _ _ _ us hl => match us, hl with | [_], _ => rfl⟩
theorem d14 : DefP pg dcl body none false "worth_of" 33 f14 := ⟨["game", "group"], ["game", "group"], ⟨rfl, rfl, rfl, by decide +kernel, rfl, by decide +kernel, by decide +kernel⟩, rfl, rfl, rfl, cSs_un (n := 60) (by kernel_rfl) (by kernel_rfl),
  fun _ _ _ _ _ _ us hl => match us, hl with | [_, _], _ => rfl⟩
theorem d15 : DefP pg dcl body none false "total_of" 34 f15 := ⟨["share", "group", "player"], ["share", "group"], ⟨rfl, rfl, rfl, by decide +kernel, rfl, by decide +kernel, by decide +kernel⟩, rfl, rfl, rfl, cSs_un (n := 60) (by kernel_rfl) (by kernel_rfl),
  fun _ _ _ _ _ _ us hl => match us, hl with | [_, _], _ => rfl⟩
theorem d16 : DefP pg dcl body none false "require_size" 35 f16 := ⟨["size"], ["size"], ⟨rfl, rfl, rfl, by decide +kernel, rfl, by decide +kernel, by decide +kernel⟩, rfl, rfl, rfl, cSs_un (n := 60) (by kernel_rfl) (by kernel_rfl),
  fun _ _ _ _ _ _ us hl => match us, hl with | [_], _ => rfl⟩
theorem d17 : DefS pg dcl body "require_game" 36 f17 := ⟨["game", "others", "other"], ["game"], "others", ⟨rfl, rfl, rfl, by decide +kernel, rfl, by decide +kernel, by decide +kernel⟩, rfl, rfl, rfl, cSs_un (n := 60) (by kernel_rfl) (by kernel_rfl),
  fun _ _ _ _ _ _ _ e us rest hl => by
    subst e
    match us, hl with
    | [_], _ => cases rest <;> rfl⟩
theorem d18 : DefS pg dcl body "require_player" 37 f18 := ⟨["size", "players_told", "player"], ["size"], "players_told", ⟨rfl, rfl, rfl, by decide +kernel, rfl, by decide +kernel, by decide +kernel⟩, rfl, rfl, rfl, cSs_un (n := 60) (by kernel_rfl) (by kernel_rfl),
  fun _ _ _ _ _ _ _ e us rest hl => by
    subst e
    match us, hl with
    | [_], _ => cases rest <;> rfl⟩
theorem d19 : DefS pg dcl body "require_group" 38 f19 := ⟨["size", "some", "group"], ["size"], "some", ⟨rfl, rfl, rfl, by decide +kernel, rfl, by decide +kernel, by decide +kernel⟩, rfl, rfl, rfl, cSs_un (n := 60) (by kernel_rfl) (by kernel_rfl),
  fun _ _ _ _ _ _ _ e us rest hl => by
    subst e
    match us, hl with
    | [_], _ => cases rest <;> rfl⟩
theorem d20 : DefP pg dcl body none false "is_small" 39 f20 := ⟨["value"], ["value"], ⟨rfl, rfl, rfl, by decide +kernel, rfl, by decide +kernel, by decide +kernel⟩, rfl, rfl, rfl, cSs_un (n := 60) (by kernel_rfl) (by kernel_rfl),
  fun _ _ _ _ _ _ us hl => match us, hl with | [_], _ => rfl⟩
theorem d21 : DefP pg dcl body none false "is_share_of" 40 f21 := ⟨["size", "value", "one"], ["size", "value"], ⟨rfl, rfl, rfl, by decide +kernel, rfl, by decide +kernel, by decide +kernel⟩, rfl, rfl, rfl, cSs_un (n := 60) (by kernel_rfl) (by kernel_rfl),
  fun _ _ _ _ _ _ us hl => match us, hl with | [_, _], _ => rfl⟩
theorem d22 : DefS pg dcl body "require_share" 41 f22 := ⟨["size", "shares", "share"], ["size"], "shares", ⟨rfl, rfl, rfl, by decide +kernel, rfl, by decide +kernel, by decide +kernel⟩, rfl, rfl, rfl, cSs_un (n := 60) (by kernel_rfl) (by kernel_rfl),
  fun _ _ _ _ _ _ _ e us rest hl => by
    subst e
    match us, hl with
    | [_], _ => cases rest <;> rfl⟩
theorem d23 : DefP pg dcl body none false "number_of" 49 f23 := ⟨["part", "sign"], ["part"], ⟨rfl, rfl, rfl, by decide +kernel, rfl, by decide +kernel, by decide +kernel⟩, rfl, rfl, rfl, cSs_un (n := 60) (by kernel_rfl) (by kernel_rfl),
  fun _ _ _ _ _ _ us hl => match us, hl with | [_], _ => rfl⟩
theorem d24 : DefP pg dcl body none false "signed_of" 50 f24 := ⟨["part", "found"], ["part"], ⟨rfl, rfl, rfl, by decide +kernel, rfl, by decide +kernel, by decide +kernel⟩, rfl, rfl, rfl, cSs_un (n := 60) (by kernel_rfl) (by kernel_rfl),
  fun _ _ _ _ _ _ us hl => match us, hl with | [_], _ => rfl⟩
theorem d25 : DefP pg dcl body none false "group_of" 51 f25 := ⟨["part", "found", "one"], ["part"], ⟨rfl, rfl, rfl, by decide +kernel, rfl, by decide +kernel, by decide +kernel⟩, rfl, rfl, rfl, cSs_un (n := 60) (by kernel_rfl) (by kernel_rfl),
  fun _ _ _ _ _ _ us hl => match us, hl with | [_], _ => rfl⟩
theorem d26 : DefP pg dcl body none false "fraction_of" 52 f26 := ⟨["part", "above", "sign", "below", "found"], ["part"], ⟨rfl, rfl, rfl, by decide +kernel, rfl, by decide +kernel, by decide +kernel⟩, rfl, rfl, rfl, cSs_un (n := 60) (by kernel_rfl) (by kernel_rfl),
  fun _ _ _ _ _ _ us hl => match us, hl with | [_], _ => rfl⟩
theorem d27 : DefP pg dcl body none false "share_of" 53 f27 := ⟨["parts", "found", "part"], ["parts"], ⟨rfl, rfl, rfl, by decide +kernel, rfl, by decide +kernel, by decide +kernel⟩, rfl, rfl, rfl, cSs_un (n := 60) (by kernel_rfl) (by kernel_rfl),
  fun _ _ _ _ _ _ us hl => match us, hl with | [_], _ => rfl⟩
theorem d28 : DefP pg dcl body none false "group_text" 54 f28 := ⟨["group", "player"], ["group"], ⟨rfl, rfl, rfl, by decide +kernel, rfl, by decide +kernel, by decide +kernel⟩, rfl, rfl, rfl, cSs_un (n := 60) (by kernel_rfl) (by kernel_rfl),
  fun _ _ _ _ _ _ us hl => match us, hl with | [_], _ => rfl⟩
theorem d29 : DefP pg dcl body none false "fraction_text" 55 f29 := ⟨["one"], ["one"], ⟨rfl, rfl, rfl, by decide +kernel, rfl, by decide +kernel, by decide +kernel⟩, rfl, rfl, rfl, cSs_un (n := 60) (by kernel_rfl) (by kernel_rfl),
  fun _ _ _ _ _ _ us hl => match us, hl with | [_], _ => rfl⟩
theorem d30 : DefP pg dcl body none false "lines_text" 56 f30 := ⟨["lines", "line"], ["lines"], ⟨rfl, rfl, rfl, by decide +kernel, rfl, by decide +kernel, by decide +kernel⟩, rfl, rfl, rfl, cSs_un (n := 60) (by kernel_rfl) (by kernel_rfl),
  fun _ _ _ _ _ _ us hl => match us, hl with | [_], _ => rfl⟩
theorem d31 : DefP pg dcl body none false "whole_lines" 57 f31 := ⟨["text", "lines"], ["text"], ⟨rfl, rfl, rfl, by decide +kernel, rfl, by decide +kernel, by decide +kernel⟩, rfl, rfl, rfl, cSs_un (n := 60) (by kernel_rfl) (by kernel_rfl),
  fun _ _ _ _ _ _ us hl => match us, hl with | [_], _ => rfl⟩
theorem d32 : DefP pg dcl body none false "size_by" 58 f32 := ⟨["word", "lines", "parts", "size"], ["word", "lines"], ⟨rfl, rfl, rfl, by decide +kernel, rfl, by decide +kernel, by decide +kernel⟩, rfl, rfl, rfl, cSs_un (n := 60) (by kernel_rfl) (by kernel_rfl),
  fun _ _ _ _ _ _ us hl => match us, hl with | [_, _], _ => rfl⟩
theorem d33 : DefP pg dcl body none false "worth_from" 59 f33 := ⟨["group", "line", "parts", "worth"], ["group", "line"], ⟨rfl, rfl, rfl, by decide +kernel, rfl, by decide +kernel, by decide +kernel⟩, rfl, rfl, rfl, cSs_un (n := 60) (by kernel_rfl) (by kernel_rfl),
  fun _ _ _ _ _ _ us hl => match us, hl with | [_, _], _ => rfl⟩
theorem d34 : DefP pg dcl body none false "share_from" 60 f34 := ⟨["size", "line", "share"], ["size", "line"], ⟨rfl, rfl, rfl, by decide +kernel, rfl, by decide +kernel, by decide +kernel⟩, rfl, rfl, rfl, cSs_un (n := 60) (by kernel_rfl) (by kernel_rfl),
  fun _ _ _ _ _ _ us hl => match us, hl with | [_, _], _ => rfl⟩
theorem d35 : DefP pg dcl body none false "are_shares" 61 f35 := ⟨["size", "value", "share"], ["size", "value"], ⟨rfl, rfl, rfl, by decide +kernel, rfl, by decide +kernel, by decide +kernel⟩, rfl, rfl, rfl, cSs_un (n := 60) (by kernel_rfl) (by kernel_rfl),
  fun _ _ _ _ _ _ us hl => match us, hl with | [_, _], _ => rfl⟩
theorem d36 : DefP pg dcl body none false "require_text" 62 f36 := ⟨["text"], ["text"], ⟨rfl, rfl, rfl, by decide +kernel, rfl, by decide +kernel, by decide +kernel⟩, rfl, rfl, rfl, cSs_un (n := 60) (by kernel_rfl) (by kernel_rfl),
  fun _ _ _ _ _ _ us hl => match us, hl with | [_], _ => rfl⟩
theorem d37 : DefP pg dcl body none false "write_game" 63 f37 := ⟨["game", "size", "worths", "group", "worth"], ["game"], ⟨rfl, rfl, rfl, by decide +kernel, rfl, by decide +kernel, by decide +kernel⟩, rfl, rfl, rfl, cSs_un (n := 60) (by kernel_rfl) (by kernel_rfl),
  fun _ _ _ _ _ _ us hl => match us, hl with | [_], _ => rfl⟩
theorem d38 : DefP pg dcl body none false "read_game" 64 f38 := ⟨["text", "lines", "rest", "size", "found", "some", "number", "line", "worth"], ["text"], ⟨rfl, rfl, rfl, by decide +kernel, rfl, by decide +kernel, by decide +kernel⟩, rfl, rfl, rfl, cSs_un (n := 60) (by kernel_rfl) (by kernel_rfl),
  fun _ _ _ _ _ _ us hl => match us, hl with | [_], _ => rfl⟩
theorem d39 : DefP pg dcl body none false "write_shares" 65 f39 := ⟨["size", "shares", "rows", "one", "share"], ["size", "shares"], ⟨rfl, rfl, rfl, by decide +kernel, rfl, by decide +kernel, by decide +kernel⟩, rfl, rfl, rfl, cSs_un (n := 60) (by kernel_rfl) (by kernel_rfl),
  fun _ _ _ _ _ _ us hl => match us, hl with | [_, _], _ => rfl⟩
theorem d40 : DefP pg dcl body none false "read_shares" 66 f40 := ⟨["text", "lines", "rest", "size", "found", "number", "line", "share"], ["text"], ⟨rfl, rfl, rfl, by decide +kernel, rfl, by decide +kernel, by decide +kernel⟩, rfl, rfl, rfl, cSs_un (n := 60) (by kernel_rfl) (by kernel_rfl),
  fun _ _ _ _ _ _ us hl => match us, hl with | [_], _ => rfl⟩
theorem d41 : DefP pg dcl body none false "better_in" 73 f41 := ⟨["game", "share", "some", "group"], ["game", "share"], ⟨rfl, rfl, rfl, by decide +kernel, rfl, by decide +kernel, by decide +kernel⟩, rfl, rfl, rfl, cSs_un (n := 60) (by kernel_rfl) (by kernel_rfl),
  fun _ _ _ _ _ _ us hl => match us, hl with | [_, _], _ => rfl⟩
theorem d42 : DefP pg dcl body none false "word_in" 74 f42 := ⟨["game", "share", "given", "whole"], ["game", "share"], ⟨rfl, rfl, rfl, by decide +kernel, rfl, by decide +kernel, by decide +kernel⟩, rfl, rfl, rfl, cSs_un (n := 60) (by kernel_rfl) (by kernel_rfl),
  fun _ _ _ _ _ _ us hl => match us, hl with | [_, _], _ => rfl⟩
theorem d43 : DefP pg dcl body none false "with_worth" 75 f43 := ⟨["game", "group", "number", "index"], ["game", "group", "number"], ⟨rfl, rfl, rfl, by decide +kernel, rfl, by decide +kernel, by decide +kernel⟩, rfl, rfl, rfl, cSs_un (n := 60) (by kernel_rfl) (by kernel_rfl),
  fun _ _ _ _ _ _ us hl => match us, hl with | [_, _, _], _ => rfl⟩
theorem d44 : DefP pg dcl body none false "lifted" 76 f44 := ⟨["game", "player", "number", "some", "one", "group"], ["game", "player", "number"], ⟨rfl, rfl, rfl, by decide +kernel, rfl, by decide +kernel, by decide +kernel⟩, rfl, rfl, rfl, cSs_un (n := 60) (by kernel_rfl) (by kernel_rfl),
  fun _ _ _ _ _ _ us hl => match us, hl with | [_, _, _], _ => rfl⟩
theorem d45 : DefP pg dcl body none false "values_of" 87 f45 := ⟨["word", "parts", "found", "part"], ["word", "parts"], ⟨rfl, rfl, rfl, by decide +kernel, rfl, by decide +kernel, by decide +kernel⟩, rfl, rfl, rfl, cSs_un (n := 60) (by kernel_rfl) (by kernel_rfl),
  fun _ _ _ _ _ _ us hl => match us, hl with | [_, _], _ => rfl⟩
theorem d46 : DefP pg dcl body none false "_law_bag" 91 f46 := ⟨["script", "spot", "cell", "great", "blend"], ["script", "spot"], ⟨rfl, rfl, rfl, by decide +kernel, rfl, by decide +kernel, by decide +kernel⟩, rfl, rfl, rfl, cSs_un (n := 60) (by kernel_rfl) (by kernel_rfl),
  fun _ _ _ _ _ _ us hl => match us, hl with | [_, _], _ => rfl⟩
theorem d47 : DefP pg dcl body none false "_law_draw" 92 f47 := ⟨["bag", "many", "found"], ["bag", "many"], ⟨rfl, rfl, rfl, by decide +kernel, rfl, by decide +kernel, by decide +kernel⟩, rfl, rfl, rfl, cSs_un (n := 60) (by kernel_rfl) (by kernel_rfl),
  fun _ _ _ _ _ _ us hl => match us, hl with | [_, _], _ => rfl⟩
theorem d48 : DefP pg dcl body none false "_law_one_of" 93 f48 := ⟨["bag", "items"], ["bag", "items"], ⟨rfl, rfl, rfl, by decide +kernel, rfl, by decide +kernel, by decide +kernel⟩, rfl, rfl, rfl, cSs_un (n := 60) (by kernel_rfl) (by kernel_rfl),
  fun _ _ _ _ _ _ us hl => match us, hl with | [_, _], _ => rfl⟩
theorem d49 : DefP pg dcl body (some "_law_met") true "_law_right" 95 f49 := ⟨["bag", "game", "size", "one", "some", "shares", "text", "shell", "high", "told"], ["bag"], ⟨rfl, rfl, rfl, by decide +kernel, rfl, by decide +kernel, by decide +kernel⟩, rfl, rfl, rfl, cSs_un (n := 60) (by kernel_rfl) (by kernel_rfl),
  fun _ _ _ _ _ _ us hl => match us, hl with | [_], _ => rfl⟩
theorem d50 : DefP pg dcl body (some "_law_met") true "law" 96 f50 := ⟨["script", "spot", "bag", "turn", "told"], ["script"], ⟨rfl, rfl, rfl, by decide +kernel, rfl, by decide +kernel, by decide +kernel⟩, rfl, rfl, rfl, cSs_un (n := 60) (by kernel_rfl) (by kernel_rfl),
  fun _ _ _ _ _ _ us hl => match us, hl with | [_], _ => rfl⟩
theorem d51 : DefM pg dcl (mOf body "Board" "__init__" 98 []) f51 := ⟨["self", "size"], ["self", "size"], ⟨rfl, rfl, rfl, by decide +kernel, rfl, by decide +kernel, by decide +kernel⟩, rfl, rfl, rfl, cSs_un (n := 60) (by kernel_rfl) (by kernel_rfl),
  fun _ _ _ _ _ _ us hl => match us, hl with | [_, _], _ => rfl⟩
theorem d52 : DefM pg dcl (mOf body "Board" "size" 99 []) f52 := ⟨["self"], ["self"], ⟨rfl, rfl, rfl, by decide +kernel, rfl, by decide +kernel, by decide +kernel⟩, rfl, rfl, rfl, cSs_un (n := 60) (by kernel_rfl) (by kernel_rfl),
  fun _ _ _ _ _ _ us hl => match us, hl with | [_], _ => rfl⟩
theorem d53 : DefM pg dcl (mOf body "Board" "game" 100 []) f53 := ⟨["self"], ["self"], ⟨rfl, rfl, rfl, by decide +kernel, rfl, by decide +kernel, by decide +kernel⟩, rfl, rfl, rfl, cSs_un (n := 60) (by kernel_rfl) (by kernel_rfl),
  fun _ _ _ _ _ _ us hl => match us, hl with | [_], _ => rfl⟩
theorem d54 : DefM pg dcl (mOf body "Board" "version" 101 []) f54 := ⟨["self"], ["self"], ⟨rfl, rfl, rfl, by decide +kernel, rfl, by decide +kernel, by decide +kernel⟩, rfl, rfl, rfl, cSs_un (n := 60) (by kernel_rfl) (by kernel_rfl),
  fun _ _ _ _ _ _ us hl => match us, hl with | [_], _ => rfl⟩
theorem d55 : DefM pg dcl (mOf body "Board" "watched" 102 []) f55 := ⟨["self"], ["self"], ⟨rfl, rfl, rfl, by decide +kernel, rfl, by decide +kernel, by decide +kernel⟩, rfl, rfl, rfl, cSs_un (n := 60) (by kernel_rfl) (by kernel_rfl),
  fun _ _ _ _ _ _ us hl => match us, hl with | [_], _ => rfl⟩
theorem d56 : DefM pg dcl (mOf body "Board" "stand" 105 []) f56 := ⟨["self", "deed", "game", "watched"], ["self", "deed", "game", "watched"], ⟨rfl, rfl, rfl, by decide +kernel, rfl, by decide +kernel, by decide +kernel⟩, rfl, rfl, rfl, cSs_un (n := 60) (by kernel_rfl) (by kernel_rfl),
  fun _ _ _ _ _ _ us hl => match us, hl with | [_, _, _, _], _ => rfl⟩
theorem d57 : DefM pg dcl (mOf body "Board" "put" 106 []) f57 := ⟨["self", "group", "number"], ["self", "group", "number"], ⟨rfl, rfl, rfl, by decide +kernel, rfl, by decide +kernel, by decide +kernel⟩, rfl, rfl, rfl, cSs_un (n := 60) (by kernel_rfl) (by kernel_rfl),
  fun _ _ _ _ _ _ us hl => match us, hl with | [_, _, _], _ => rfl⟩
theorem d58 : DefM pg dcl (mOf body "Board" "lift" 107 []) f58 := ⟨["self", "player", "number", "game", "one"], ["self", "player", "number"], ⟨rfl, rfl, rfl, by decide +kernel, rfl, by decide +kernel, by decide +kernel⟩, rfl, rfl, rfl, cSs_un (n := 60) (by kernel_rfl) (by kernel_rfl),
  fun _ _ _ _ _ _ us hl => match us, hl with | [_, _, _], _ => rfl⟩
theorem d59 : DefM pg dcl (mOf body "Board" "watch" 108 []) f59 := ⟨["self", "share"], ["self", "share"], ⟨rfl, rfl, rfl, by decide +kernel, rfl, by decide +kernel, by decide +kernel⟩, rfl, rfl, rfl, cSs_un (n := 60) (by kernel_rfl) (by kernel_rfl),
  fun _ _ _ _ _ _ us hl => match us, hl with | [_, _], _ => rfl⟩
theorem d60 : DefM pg dcl (mOf body "Board" "calm" 109 []) f60 := ⟨["self", "share", "one"], ["self", "share"], ⟨rfl, rfl, rfl, by decide +kernel, rfl, by decide +kernel, by decide +kernel⟩, rfl, rfl, rfl, cSs_un (n := 60) (by kernel_rfl) (by kernel_rfl),
  fun _ _ _ _ _ _ us hl => match us, hl with | [_, _], _ => rfl⟩
theorem d61 : DefM pg dcl (mOf body "Board" "word" 110 []) f61 := ⟨["self", "share"], ["self", "share"], ⟨rfl, rfl, rfl, by decide +kernel, rfl, by decide +kernel, by decide +kernel⟩, rfl, rfl, rfl, cSs_un (n := 60) (by kernel_rfl) (by kernel_rfl),
  fun _ _ _ _ _ _ us hl => match us, hl with | [_, _], _ => rfl⟩
theorem d62 : DefM pg dcl (mOf body "Board" "words" 111 []) f62 := ⟨["self", "share"], ["self"], ⟨rfl, rfl, rfl, by decide +kernel, rfl, by decide +kernel, by decide +kernel⟩, rfl, rfl, rfl, cSs_un (n := 60) (by kernel_rfl) (by kernel_rfl),
  fun _ _ _ _ _ _ us hl => match us, hl with | [_], _ => rfl⟩
theorem d63 : DefM pg dcl (mOf body "Board" "since" 112 []) f63 := ⟨["self", "share", "word", "found"], ["self", "share"], ⟨rfl, rfl, rfl, by decide +kernel, rfl, by decide +kernel, by decide +kernel⟩, rfl, rfl, rfl, cSs_un (n := 60) (by kernel_rfl) (by kernel_rfl),
  fun _ _ _ _ _ _ us hl => match us, hl with | [_, _], _ => rfl⟩
theorem d64 : DefM pg dcl (mOf body "Board" "bettering" 113 []) f64 := ⟨["self", "share"], ["self", "share"], ⟨rfl, rfl, rfl, by decide +kernel, rfl, by decide +kernel, by decide +kernel⟩, rfl, rfl, rfl, cSs_un (n := 60) (by kernel_rfl) (by kernel_rfl),
  fun _ _ _ _ _ _ us hl => match us, hl with | [_, _], _ => rfl⟩
theorem d65 : DefM pg dcl (mOf body "Board" "all_worth" 114 []) f65 := ⟨["self"], ["self"], ⟨rfl, rfl, rfl, by decide +kernel, rfl, by decide +kernel, by decide +kernel⟩, rfl, rfl, rfl, cSs_un (n := 60) (by kernel_rfl) (by kernel_rfl),
  fun _ _ _ _ _ _ us hl => match us, hl with | [_], _ => rfl⟩
theorem d66 : DefKw pg dcl (mOf body "Board" "undo" 115 [("many", .int 1)]) "many" f66 := ⟨["self", "many", "turn"], "self", ⟨rfl, rfl, rfl, by decide +kernel, rfl, by decide +kernel, by decide +kernel⟩, rfl, rfl, rfl, cSs_un (n := 60) (by kernel_rfl) (by kernel_rfl),
  fun _ _ _ _ _ _ _ _ => rfl, fun _ _ _ _ _ _ _ _ => ⟨_, _, _, _, _, _, rfl, rfl, rfl⟩⟩
theorem d67 : DefKw pg dcl (mOf body "Board" "redo" 116 [("many", .int 1)]) "many" f67 := ⟨["self", "many", "turn", "deed", "moment"], "self", ⟨rfl, rfl, rfl, by decide +kernel, rfl, by decide +kernel, by decide +kernel⟩, rfl, rfl, rfl, cSs_un (n := 60) (by kernel_rfl) (by kernel_rfl),
  fun _ _ _ _ _ _ _ _ => rfl, fun _ _ _ _ _ _ _ _ => ⟨_, _, _, _, _, _, rfl, rfl, rfl⟩⟩
theorem d68 : DefM pg dcl (mOf body "Shell" "__init__" 121 []) f68 := ⟨["self", "size"], ["self", "size"], ⟨rfl, rfl, rfl, by decide +kernel, rfl, by decide +kernel, by decide +kernel⟩, rfl, rfl, rfl, cSs_un (n := 60) (by kernel_rfl) (by kernel_rfl),
  fun _ _ _ _ _ _ us hl => match us, hl with | [_, _], _ => rfl⟩
theorem d69 : DefM pg dcl (mOf body "Shell" "__call__" 122 []) f69 := ⟨["self", "line", "parts", "values"], ["self", "line"], ⟨rfl, rfl, rfl, by decide +kernel, rfl, by decide +kernel, by decide +kernel⟩, rfl, rfl, rfl, cSs_un (n := 60) (by kernel_rfl) (by kernel_rfl),
  fun _ _ _ _ _ _ us hl => match us, hl with | [_, _], _ => rfl⟩
theorem d70 : DefM pg dcl (mOf body "Shell" "answered" 123 []) f70 := ⟨["self", "word", "values"], ["self", "word", "values"], ⟨rfl, rfl, rfl, by decide +kernel, rfl, by decide +kernel, by decide +kernel⟩, rfl, rfl, rfl, cSs_un (n := 60) (by kernel_rfl) (by kernel_rfl),
  fun _ _ _ _ _ _ us hl => match us, hl with | [_, _, _], _ => rfl⟩
theorem d71 : DefM pg dcl (mOf body "Shell" "shared" 124 []) f71 := ⟨["self", "word", "share", "groups", "group"], ["self", "word", "share"], ⟨rfl, rfl, rfl, by decide +kernel, rfl, by decide +kernel, by decide +kernel⟩, rfl, rfl, rfl, cSs_un (n := 60) (by kernel_rfl) (by kernel_rfl),
  fun _ _ _ _ _ _ us hl => match us, hl with | [_, _, _], _ => rfl⟩
theorem d72 : DefM pg dcl (mOf body "Shell" "worth_now" 125 []) f72 := ⟨["self", "group"], ["self", "group"], ⟨rfl, rfl, rfl, by decide +kernel, rfl, by decide +kernel, by decide +kernel⟩, rfl, rfl, rfl, cSs_un (n := 60) (by kernel_rfl) (by kernel_rfl),
  fun _ _ _ _ _ _ us hl => match us, hl with | [_, _], _ => rfl⟩
theorem d73 : DefM pg dcl (mOf body "Shell" "shown" 126 []) f73 := ⟨["self", "word", "words"], ["self", "word"], ⟨rfl, rfl, rfl, by decide +kernel, rfl, by decide +kernel, by decide +kernel⟩, rfl, rfl, rfl, cSs_un (n := 60) (by kernel_rfl) (by kernel_rfl),
  fun _ _ _ _ _ _ us hl => match us, hl with | [_, _], _ => rfl⟩
theorem ev_right : okBag 2 (runF pg (rC pg 19) f49 [.obj 0] (hBag 2)) = true := by
  rw [← qC_eq, ← qF_eq]
  decide +kernel
theorem ev_law : okT (runF pg (rC pg 20) f50 [scW] .nil) = true := by
  rw [← qC_eq, ← qF_eq]
  decide +kernel
theorem all1 : ∀ p ∈ fnL, Def1 pg dcl body fnT tf "_law_met" p.1 p.2 := by
  unfold fnL
  simp only [List.forall_mem_append, List.forall_mem_cons, List.not_mem_nil, false_imp_iff, implies_true, and_true]
  repeat' apply And.intro
  · exact .plain 19 f0 (by decide +kernel) (by kernel_rfl) d0
  · exact .plain 20 f1 (by decide +kernel) (by kernel_rfl) d1
  · exact .plain 21 f2 (by decide +kernel) (by kernel_rfl) d2
  · exact .plain 22 f3 (by decide +kernel) (by kernel_rfl) d3
  · exact .plain 23 f4 (by decide +kernel) (by kernel_rfl) d4
  · exact .plain 24 f5 (by decide +kernel) (by kernel_rfl) d5
  · exact .plain 25 f6 (by decide +kernel) (by kernel_rfl) d6
  · exact .plain 26 f7 (by decide +kernel) (by kernel_rfl) d7
  · exact .plain 27 f8 (by decide +kernel) (by kernel_rfl) d8
  · exact .plain 28 f9 (by decide +kernel) (by kernel_rfl) d9
  · exact .plain 29 f10 (by decide +kernel) (by kernel_rfl) d10
  · exact .plain 30 f11 (by decide +kernel) (by kernel_rfl) d11
  · exact .plain 31 f12 (by decide +kernel) (by kernel_rfl) d12
  · exact .plain 32 f13 (by decide +kernel) (by kernel_rfl) d13
  · exact .plain 33 f14 (by decide +kernel) (by kernel_rfl) d14
  · exact .plain 34 f15 (by decide +kernel) (by kernel_rfl) d15
  · exact .plain 35 f16 (by decide +kernel) (by kernel_rfl) d16
  · exact .star 36 f17 (by decide +kernel) (by kernel_rfl) d17
  · exact .star 37 f18 (by decide +kernel) (by kernel_rfl) d18
  · exact .star 38 f19 (by decide +kernel) (by kernel_rfl) d19
  · exact .plain 39 f20 (by decide +kernel) (by kernel_rfl) d20
  · exact .plain 40 f21 (by decide +kernel) (by kernel_rfl) d21
  · exact .star 41 f22 (by decide +kernel) (by kernel_rfl) d22
  · exact .plain 49 f23 (by decide +kernel) (by kernel_rfl) d23
  · exact .plain 50 f24 (by decide +kernel) (by kernel_rfl) d24
  · exact .plain 51 f25 (by decide +kernel) (by kernel_rfl) d25
  · exact .plain 52 f26 (by decide +kernel) (by kernel_rfl) d26
  · exact .plain 53 f27 (by decide +kernel) (by kernel_rfl) d27
  · exact .plain 54 f28 (by decide +kernel) (by kernel_rfl) d28
  · exact .plain 55 f29 (by decide +kernel) (by kernel_rfl) d29
  · exact .plain 56 f30 (by decide +kernel) (by kernel_rfl) d30
  · exact .plain 57 f31 (by decide +kernel) (by kernel_rfl) d31
  · exact .plain 58 f32 (by decide +kernel) (by kernel_rfl) d32
  · exact .plain 59 f33 (by decide +kernel) (by kernel_rfl) d33
  · exact .plain 60 f34 (by decide +kernel) (by kernel_rfl) d34
  · exact .plain 61 f35 (by decide +kernel) (by kernel_rfl) d35
  · exact .plain 62 f36 (by decide +kernel) (by kernel_rfl) d36
  · exact .plain 63 f37 (by decide +kernel) (by kernel_rfl) d37
  · exact .plain 64 f38 (by decide +kernel) (by kernel_rfl) d38
  · exact .plain 65 f39 (by decide +kernel) (by kernel_rfl) d39
  · exact .plain 66 f40 (by decide +kernel) (by kernel_rfl) d40
  · exact .plain 73 f41 (by decide +kernel) (by kernel_rfl) d41
  · exact .plain 74 f42 (by decide +kernel) (by kernel_rfl) d42
  · exact .plain 75 f43 (by decide +kernel) (by kernel_rfl) d43
  · exact .plain 76 f44 (by decide +kernel) (by kernel_rfl) d44
  · exact .plain 87 f45 (by decide +kernel) (by kernel_rfl) d45
  · exact .plain 91 f46 (by decide +kernel) (by kernel_rfl) d46
  · exact .plain 92 f47 (by decide +kernel) (by kernel_rfl) d47
  · exact .plain 93 f48 (by decide +kernel) (by kernel_rfl) d48
  · exact .bag 95 f49 20 2 (by decide +kernel) (by kernel_rfl) (by kernel_rfl) (by decide +kernel) (by kernel_rfl) d49 (fun k ws h => rfl) (fun k e => by cases e; exact ev_right)
  · exact .hot 96 f50 (by decide +kernel) (by kernel_rfl) (by kernel_rfl) (by decide +kernel) (by kernel_rfl) d50
theorem allM : ∀ p ∈ atL, AtM pg dcl fp df p.2 := by
  unfold atL
  simp only [List.forall_mem_append, List.forall_mem_cons, List.not_mem_nil, false_imp_iff, implies_true, and_true]
  repeat' apply And.intro
  · exact ⟨_, f51, (List.mem_of_getElem? (i := 0) (by rfl)), by kernel_rfl, by kernel_rfl, rfl, rfl, d51⟩
  · exact ⟨_, f68, (List.mem_of_getElem? (i := 17) (by rfl)), by kernel_rfl, by kernel_rfl, rfl, rfl, d68⟩
  · trivial
  · trivial
  · trivial
  · trivial
  · trivial
  · exact ⟨_, f52, (List.mem_of_getElem? (i := 1) (by rfl)), by kernel_rfl, by kernel_rfl, rfl, rfl, d52⟩
  · exact ⟨_, f53, (List.mem_of_getElem? (i := 2) (by rfl)), by kernel_rfl, by kernel_rfl, rfl, rfl, d53⟩
  · exact ⟨_, f54, (List.mem_of_getElem? (i := 3) (by rfl)), by kernel_rfl, by kernel_rfl, rfl, rfl, d54⟩
  · exact ⟨_, f55, (List.mem_of_getElem? (i := 4) (by rfl)), by kernel_rfl, by kernel_rfl, rfl, rfl, d55⟩
  · exact ⟨_, f56, (List.mem_of_getElem? (i := 5) (by rfl)), by kernel_rfl, by kernel_rfl, rfl, rfl, d56⟩
  · exact ⟨_, f57, (List.mem_of_getElem? (i := 6) (by rfl)), by kernel_rfl, by kernel_rfl, rfl, rfl, d57⟩
  · exact ⟨_, f58, (List.mem_of_getElem? (i := 7) (by rfl)), by kernel_rfl, by kernel_rfl, rfl, rfl, d58⟩
  · exact ⟨_, f59, (List.mem_of_getElem? (i := 8) (by rfl)), by kernel_rfl, by kernel_rfl, rfl, rfl, d59⟩
  · exact ⟨_, f60, (List.mem_of_getElem? (i := 9) (by rfl)), by kernel_rfl, by kernel_rfl, rfl, rfl, d60⟩
  · exact ⟨_, f61, (List.mem_of_getElem? (i := 10) (by rfl)), by kernel_rfl, by kernel_rfl, rfl, rfl, d61⟩
  · exact ⟨_, f62, (List.mem_of_getElem? (i := 11) (by rfl)), by kernel_rfl, by kernel_rfl, rfl, rfl, d62⟩
  · exact ⟨_, f63, (List.mem_of_getElem? (i := 12) (by rfl)), by kernel_rfl, by kernel_rfl, rfl, rfl, d63⟩
  · exact ⟨_, f64, (List.mem_of_getElem? (i := 13) (by rfl)), by kernel_rfl, by kernel_rfl, rfl, rfl, d64⟩
  · exact ⟨_, f65, (List.mem_of_getElem? (i := 14) (by rfl)), by kernel_rfl, by kernel_rfl, rfl, rfl, d65⟩
  · exact ⟨_, f66, _, (List.mem_of_getElem? (i := 15) (by rfl)), by kernel_rfl, by kernel_rfl, rfl, rfl, rfl, d66⟩
  · exact ⟨_, f67, _, (List.mem_of_getElem? (i := 16) (by rfl)), by kernel_rfl, by kernel_rfl, rfl, rfl, rfl, d67⟩
  · exact ⟨_, f69, (List.mem_of_getElem? (i := 18) (by rfl)), by kernel_rfl, by kernel_rfl, rfl, rfl, d69⟩
  · exact ⟨_, f70, (List.mem_of_getElem? (i := 19) (by rfl)), by kernel_rfl, by kernel_rfl, rfl, rfl, d70⟩
  · exact ⟨_, f71, (List.mem_of_getElem? (i := 20) (by rfl)), by kernel_rfl, by kernel_rfl, rfl, rfl, d71⟩
  · exact ⟨_, f72, (List.mem_of_getElem? (i := 21) (by rfl)), by kernel_rfl, by kernel_rfl, rfl, rfl, d72⟩
  · exact ⟨_, f73, (List.mem_of_getElem? (i := 22) (by rfl)), by kernel_rfl, by kernel_rfl, rfl, rfl, d73⟩
  · trivial
  · trivial
  · trivial
end G88
set_option maxHeartbeats 0
namespace G88
open PySem PySem.Spec PyProof.Rows L2 GS
def gcls (K : PySem.W.Frag) : Nat → Option (Addr × Option Str)
  | 7 => some (He.ga K "ParseError", some "spot")
  | 8 => some (He.ga K "InvalidNumber", some "given")
  | 9 => some (He.ga K "NothingToUndo", some "done")
  | 10 => some (He.ga K "TooMany", some "limit")
  | 1 => some (He.ga K "InvalidGame", none)
  | 2 => some (He.ga K "InvalidGroup", none)
  | 3 => some (He.ga K "InvalidShare", none)
  | 4 => some (He.ga K "InvalidReport", none)
  | 5 => some (He.ga K "InvalidText", none)
  | 6 => some (He.ga K "InvalidOperation", none)
  | _ => none
def gicls (K : PySem.W.Frag) : Nat → Option Addr
  | 0 => some (He.ga K "Board")
  | 1 => some (He.ga K "Shell")
  | _ => none
def gl (K : PySem.W.Frag) : Gl0 := ⟨tabsT K tf, fun _ => False, gcls K, gicls K⟩
def exmT : List (Str × Str × Bool) := ([("InvalidGame", "InvalidText", false), ("InvalidGame", "ParseError", false), ("InvalidGame", "InvalidGame", true), ("InvalidReport", "InvalidText", false), ("InvalidReport", "ParseError", false), ("InvalidReport", "InvalidGame", false), ("InvalidReport", "InvalidReport", true), ("InvalidText", "InvalidText", true), ("ParseError", "InvalidText", false), ("ParseError", "ParseError", true), ("InvalidNumber", "InvalidText", false), ("InvalidNumber", "ParseError", false), ("InvalidNumber", "InvalidGame", false), ("InvalidNumber", "InvalidReport", false), ("InvalidNumber", "InvalidNumber", true)] : List (Str × Str × Bool))
def exms : List He.Fa := exmT.map fun t => He.Fa.exm t.1 t.2.1 t.2.2
def moreF : List He.Fa := .glo "_law_met" :: .free "super" :: (.glo "Board" :: .glo "Shell" :: .glo "ALONE" :: .glo "COUNTED" :: .glo "SHARED" :: exms)
def fa : List He.Fa := mkFa fnL intL strL supL txtL bltL moreF
def fn : List He.DefD := fnT.map (dOf body)
def exB (K : PySem.W.Frag) : List Bool := [supB K PySem.Challenge.pw_gainshares_k88_errors_of_texts_of_games.main.file "ParseError" "spot" "spot" "ValueError" "ValueError.__new__" "ValueError.__init__" [.type "ValueError", .type "Exception", .type "BaseException", .type "object"], supB K PySem.Challenge.pw_gainshares_k88_errors_of_texts_of_games.main.file "InvalidNumber" "given" "given" "IndexError" "IndexError.__new__" "IndexError.__init__" [.type "IndexError", .type "LookupError", .type "Exception", .type "BaseException", .type "object"], supB K PySem.Challenge.pw_gainshares_k88_errors_of_texts_of_games.main.file "NothingToUndo" "done" "done" "LookupError" "LookupError.__new__" "LookupError.__init__" [.type "LookupError", .type "Exception", .type "BaseException", .type "object"], supB K PySem.Challenge.pw_gainshares_k88_errors_of_texts_of_games.main.file "TooMany" "limit" "limit" "OverflowError" "OverflowError.__new__" "OverflowError.__init__" [.type "OverflowError", .type "ArithmeticError", .type "Exception", .type "BaseException", .type "object"], xfB K (He.ga K "ParseError"), decide (PySem.W.findIn K (.ref (He.ga K "ParseError")) "spot" = some none), xfB K (He.ga K "InvalidNumber"), decide (PySem.W.findIn K (.ref (He.ga K "InvalidNumber")) "given" = some none), injB K tf, sclsB K (He.ga K "Board"), mkB K (He.ga K "Board") (mAd K "Board" "__init__"), sclsB K (He.ga K "Shell"), mkB K (He.ga K "Shell") (mAd K "Shell" "__init__"), slotB K (He.ga K "Board") "own_behind" 0, slotB K (He.ga K "Board") "own_log" 1, slotB K (He.ga K "Board") "own_moments" 2, slotB K (He.ga K "Board") "own_size" 3, slotB K (He.ga K "Shell") "own_board" 0, propB K (He.ga K "Board") "size" (mAd K "Board" "size"), propB K (He.ga K "Board") "game" (mAd K "Board" "game"), propB K (He.ga K "Board") "version" (mAd K "Board" "version"), propB K (He.ga K "Board") "watched" (mAd K "Board" "watched"), methFB K (He.ga K "Board") "stand" (mAd K "Board" "stand"), methFB K (He.ga K "Board") "put" (mAd K "Board" "put"), methFB K (He.ga K "Board") "lift" (mAd K "Board" "lift"), methFB K (He.ga K "Board") "watch" (mAd K "Board" "watch"), methFB K (He.ga K "Board") "calm" (mAd K "Board" "calm"), methFB K (He.ga K "Board") "word" (mAd K "Board" "word"), methFB K (He.ga K "Board") "words" (mAd K "Board" "words"), methFB K (He.ga K "Board") "since" (mAd K "Board" "since"), methFB K (He.ga K "Board") "bettering" (mAd K "Board" "bettering"), methFB K (He.ga K "Board") "all_worth" (mAd K "Board" "all_worth"), methB K (He.ga K "Board") "undo" (mAd K "Board" "undo"), methB K (He.ga K "Board") "redo" (mAd K "Board" "redo"), methFB K (He.ga K "Shell") "__call__" (mAd K "Shell" "__call__"), methFB K (He.ga K "Shell") "answered" (mAd K "Shell" "answered"), methFB K (He.ga K "Shell") "shared" (mAd K "Shell" "shared"), methFB K (He.ga K "Shell") "worth_now" (mAd K "Shell" "worth_now"), methFB K (He.ga K "Shell") "shown" (mAd K "Shell" "shown"), He.tupB K "ALONE" [.str "words", .str "all"], He.tupB K "COUNTED" [.str "undo", .str "redo"], He.tupB K "SHARED" [.str "watch", .str "calm", .str "word", .str "since", .str "bettering"]]
def ex (K : PySem.W.Frag) : Bool := (exB K).all id
theorem ex_at {K : PySem.W.Frag} (h : ex K = true) {b : Bool} (hb : b ∈ exB K) : b = true := by
  have z := List.all_eq_true.mp h b hb
  exact z
def namedL : List (Str × Str) := [("ParseError", "spot"), ("InvalidNumber", "given")]
theorem xfX {K : PySem.W.Frag} (x : ex K = true) {c f : Str} (m : (c, f) ∈ namedL) : XfC K (He.ga K c) := by
  simp only [namedL, List.mem_cons, Prod.mk.injEq, List.not_mem_nil, or_false] at m
  rcases m with ⟨rfl, rfl⟩ | ⟨rfl, rfl⟩
  · exact xfB_ok (ex_at x (by simp [exB]))
  · exact xfB_ok (ex_at x (by simp [exB]))
theorem noX {K : PySem.W.Frag} (x : ex K = true) {c f : Str} (m : (c, f) ∈ namedL) : PySem.W.findIn K (.ref (He.ga K c)) f = some none := by
  simp only [namedL, List.mem_cons, Prod.mk.injEq, List.not_mem_nil, or_false] at m
  rcases m with ⟨rfl, rfl⟩ | ⟨rfl, rfl⟩
  · exact of_decide_eq_true (ex_at x (by simp [exB]))
  · exact of_decide_eq_true (ex_at x (by simp [exB]))
section
variable {K : PySem.W.Frag} {mg : Str → Option Value} {h base : Heap} {w : World}
def cls1 (K : PySem.W.Frag) : List Cls1 := [(.ref (He.ga K "InvalidText"), fun _ _ _ H Q => tfS "text" H Q), (.ref (He.ga K "ParseError"), teSR K (He.ga K "ParseError") "spot " "spot"), (.ref (He.ga K "InvalidGame"), fun _ _ _ H Q => tfS "game" H Q), (.ref (He.ga K "InvalidReport"), fun _ _ _ H Q => tfS "report" H Q), (.ref (He.ga K "InvalidNumber"), teSR K (He.ga K "InvalidNumber") "number " "given")]
theorem caught (c : He.SaysD fa fn K) : ∀ n w x, pg.hnd n w = some x → ∀ (m : Mp) (h : Hs) (H : Hp) (Q : VK), HR K (gl K) m h H → OkP K (gl K) m H Q x h → ExE K (gl K) (wRet K Q (cls1 K)) n w m H := by
  intro n w x e m h H Q hr p
  have e : hnd n w = some x := e
  unfold hnd at e
  have em : ∀ {a b : Str} {t : Bool}, (a, b, t) ∈ exmT → PySem.W.exmOne K (.ref (He.ga K a)) (.ref (He.ga K b)) = some t := fun hm => em_of c (fun f hf => fa_more (List.mem_cons_of_mem _ (List.mem_cons_of_mem _ (List.mem_cons_of_mem _ (List.mem_cons_of_mem _ (List.mem_cons_of_mem _ (List.mem_cons_of_mem _ (List.mem_cons_of_mem _ (hf))))))))) hm
  split at e
  · cases e
    show wRet K Q (cls1 K) (.ref (He.ga K "InvalidGame")) none H
    exact wRet_miss (em (by decide +kernel)) (wRet_miss (em (by decide +kernel)) (wRet_hit (em (by decide +kernel)) fun a ha => ok_tfS hr p))
  · cases e
    show wRet K Q (cls1 K) (.ref (He.ga K "InvalidReport")) none H
    exact wRet_miss (em (by decide +kernel)) (wRet_miss (em (by decide +kernel)) (wRet_miss (em (by decide +kernel)) (wRet_hit (em (by decide +kernel)) fun a ha => ok_tfS hr p)))
  · cases e
    show wRet K Q (cls1 K) (.ref (He.ga K "InvalidText")) none H
    exact wRet_hit (em (by decide +kernel)) fun a ha => ok_tfS hr p
  · show ∀ d v, H d = none → RW K m H _ v → wRet K Q (cls1 K) (.ref (He.ga K "ParseError")) (some d) (upd H d (.xd [("spot", v)]))
    intro d v hd qv
    exact wRet_miss (em (by decide +kernel)) (wRet_hit (em (by decide +kernel)) fun a ha => ok_teSR hr hd qv e p)
  · show ∀ d v, H d = none → RW K m H _ v → wRet K Q (cls1 K) (.ref (He.ga K "InvalidNumber")) (some d) (upd H d (.xd [("given", v)]))
    intro d v hd qv
    exact wRet_miss (em (by decide +kernel)) (wRet_miss (em (by decide +kernel)) (wRet_miss (em (by decide +kernel)) (wRet_miss (em (by decide +kernel)) (wRet_hit (em (by decide +kernel)) fun a ha => ok_teSR hr hd qv e p))))
  · cases e
abbrev scM : Scope := defScope (tp body 94)
theorem gives (c : He.SaysD fa fn K) (x : ex K = true) (X0 : K.In h) (Gn : h.Ns mainGlobals mg) (cdv : Value) (X : Cx) (e1 : X.prog = PySem.Challenge.pw_gainshares_k88_errors_of_texts_of_games) (e2 : X.w = w) (e3 : X.K = K) (e4 : X.mg = mg) (e5 : X.base = base) (hgd : X.A.guards = some []) (hun : X.A.units + 80 < cLine) :
    LamX.GivesTo X ["call", "error"] "_law_met" scM (He.ga K "_law_met") cdv (defBody (tp body 94)) "call" (X.env.qual ++ "<lambda>") (TTm K (cls1 K) (tfS "fine")) := by
  subst e3
  subst e4
  have nmc : ∀ {y : Str} {s : Shared} {H : Hp}, (scM.names.lookup y = some .globalImplicit) → (y == ("__debug__" : Str)) = false → ((supL ++ txtL).any fun p => decide (p.1 = y)) = true → Names (metCx X ["call", "error"] "_law_met" scM (He.ga X.K "_law_met") cdv s H) y (.ref (He.ga X.K y)) := fun h1 h2 h3 => ⟨h1, h2, .inl (He.glo_ok X0 Gn (c.facts (fa_cls h3)))⟩
  refine met_gives (fun f => rfl) (by decide +kernel) (fun s H => ?_) (fun s H => pe_txtS1)
  exact .plain (nmc (by kernel_rfl) (by decide +kernel) (by decide +kernel)) (fun a oe cls d pn hz hf => pe_txtS1) (.named (i := 1) (nmc (by kernel_rfl) (by decide +kernel) (by decide +kernel)) rfl (by kernel_rfl) (fun a oe cls d pn hz hf => pe_txtSR hgd (by have h1 := hun; show X.A.units + 3 + 64 < cLine; omega) (show scM.names.lookup ("repr" : Str) = some .globalImplicit by kernel_rfl) (He.free_ok X0 Gn (c.facts (fa_blt (x := "repr") (by decide +kernel)))) (xfX x (c := "ParseError") (f := "spot") (by decide +kernel)) (noX x (c := "ParseError") (f := "spot") (by decide +kernel)) hz hf rfl (.inl (by kernel_rfl)) (by decide +kernel) (by decide +kernel)) (.plain (nmc (by kernel_rfl) (by decide +kernel) (by decide +kernel)) (fun a oe cls d pn hz hf => pe_txtS1) (.plain (nmc (by kernel_rfl) (by decide +kernel) (by decide +kernel)) (fun a oe cls d pn hz hf => pe_txtS1) (.named (i := 1) (nmc (by kernel_rfl) (by decide +kernel) (by decide +kernel)) rfl (by kernel_rfl) (fun a oe cls d pn hz hf => pe_txtSR hgd (by have h1 := hun; show X.A.units + 3 + 64 < cLine; omega) (show scM.names.lookup ("repr" : Str) = some .globalImplicit by kernel_rfl) (He.free_ok X0 Gn (c.facts (fa_blt (x := "repr") (by decide +kernel)))) (xfX x (c := "InvalidNumber") (f := "given") (by decide +kernel)) (noX x (c := "InvalidNumber") (f := "given") (by decide +kernel)) hz hf rfl (.inl (by kernel_rfl)) (by decide +kernel) (by decide +kernel)) (.nil)))))
end
theorem facts {K : PySem.W.Frag} {mg : Str → Option Value} {h base : Heap} {w : World} (X : K.In h) (Gn : h.Ns mainGlobals mg) (c : He.SaysD fa fn K) (x : ex K = true) : Lw PySem.Challenge.pw_gainshares_k88_errors_of_texts_of_games w K mg base (gl K) dcl (fun f => adK K (df f)) ∧ Nonempty (Ctch PySem.Challenge.pw_gainshares_k88_errors_of_texts_of_games w K mg base pg (gl K) "_law_met" "call") := by
  have hsu : mg "super" = none := He.free_ok X Gn (c.facts (fa_more (List.mem_cons_of_mem _ (List.mem_cons_self ..))))
  refine ⟨lw_of dcl_eq X Gn c (by kernel_rfl) ?_ (by kernel_rfl) ?_ ?_, ?_⟩
  · unfold atL
    simp only [List.forall_mem_append, List.forall_mem_cons, List.not_mem_nil, false_imp_iff, implies_true, and_true]
    repeat' apply And.intro
    · exact at_icl rfl (He.glo_ok X Gn (c.facts (fa_more (List.mem_of_getElem? (i := 2) (by rfl))))) (ex_at x (List.mem_of_getElem? (i := 10) (by rfl)))
    · exact at_icl rfl (He.glo_ok X Gn (c.facts (fa_more (List.mem_of_getElem? (i := 3) (by rfl))))) (ex_at x (List.mem_of_getElem? (i := 12) (by rfl)))
    · exact at_slt (f0 := "own_behind") (by decide +kernel) rfl (ex_at x (List.mem_of_getElem? (i := 9) (by rfl))) (ex_at x (List.mem_of_getElem? (i := 13) (by rfl)))
    · exact at_slt (f0 := "own_log") (by decide +kernel) rfl (ex_at x (List.mem_of_getElem? (i := 9) (by rfl))) (ex_at x (List.mem_of_getElem? (i := 14) (by rfl)))
    · exact at_slt (f0 := "own_moments") (by decide +kernel) rfl (ex_at x (List.mem_of_getElem? (i := 9) (by rfl))) (ex_at x (List.mem_of_getElem? (i := 15) (by rfl)))
    · exact at_slt (f0 := "own_size") (by decide +kernel) rfl (ex_at x (List.mem_of_getElem? (i := 9) (by rfl))) (ex_at x (List.mem_of_getElem? (i := 16) (by rfl)))
    · exact at_slt (f0 := "own_board") (by decide +kernel) rfl (ex_at x (List.mem_of_getElem? (i := 11) (by rfl))) (ex_at x (List.mem_of_getElem? (i := 17) (by rfl)))
    · exact at_prp (f0 := "size") (by decide +kernel) rfl (ex_at x (List.mem_of_getElem? (i := 9) (by rfl))) (ex_at x (List.mem_of_getElem? (i := 18) (by rfl)))
    · exact at_prp (f0 := "game") (by decide +kernel) rfl (ex_at x (List.mem_of_getElem? (i := 9) (by rfl))) (ex_at x (List.mem_of_getElem? (i := 19) (by rfl)))
    · exact at_prp (f0 := "version") (by decide +kernel) rfl (ex_at x (List.mem_of_getElem? (i := 9) (by rfl))) (ex_at x (List.mem_of_getElem? (i := 20) (by rfl)))
    · exact at_prp (f0 := "watched") (by decide +kernel) rfl (ex_at x (List.mem_of_getElem? (i := 9) (by rfl))) (ex_at x (List.mem_of_getElem? (i := 21) (by rfl)))
    · exact at_mth (f0 := "stand") (by decide +kernel) rfl (ex_at x (List.mem_of_getElem? (i := 9) (by rfl))) (ex_at x (List.mem_of_getElem? (i := 22) (by rfl)))
    · exact at_mth (f0 := "put") (by decide +kernel) rfl (ex_at x (List.mem_of_getElem? (i := 9) (by rfl))) (ex_at x (List.mem_of_getElem? (i := 23) (by rfl)))
    · exact at_mth (f0 := "lift") (by decide +kernel) rfl (ex_at x (List.mem_of_getElem? (i := 9) (by rfl))) (ex_at x (List.mem_of_getElem? (i := 24) (by rfl)))
    · exact at_mth (f0 := "watch") (by decide +kernel) rfl (ex_at x (List.mem_of_getElem? (i := 9) (by rfl))) (ex_at x (List.mem_of_getElem? (i := 25) (by rfl)))
    · exact at_mth (f0 := "calm") (by decide +kernel) rfl (ex_at x (List.mem_of_getElem? (i := 9) (by rfl))) (ex_at x (List.mem_of_getElem? (i := 26) (by rfl)))
    · exact at_mth (f0 := "word") (by decide +kernel) rfl (ex_at x (List.mem_of_getElem? (i := 9) (by rfl))) (ex_at x (List.mem_of_getElem? (i := 27) (by rfl)))
    · exact at_mth (f0 := "words") (by decide +kernel) rfl (ex_at x (List.mem_of_getElem? (i := 9) (by rfl))) (ex_at x (List.mem_of_getElem? (i := 28) (by rfl)))
    · exact at_mth (f0 := "since") (by decide +kernel) rfl (ex_at x (List.mem_of_getElem? (i := 9) (by rfl))) (ex_at x (List.mem_of_getElem? (i := 29) (by rfl)))
    · exact at_mth (f0 := "bettering") (by decide +kernel) rfl (ex_at x (List.mem_of_getElem? (i := 9) (by rfl))) (ex_at x (List.mem_of_getElem? (i := 30) (by rfl)))
    · exact at_mth (f0 := "all_worth") (by decide +kernel) rfl (ex_at x (List.mem_of_getElem? (i := 9) (by rfl))) (ex_at x (List.mem_of_getElem? (i := 31) (by rfl)))
    · exact at_mtk (f0 := "undo") (by decide +kernel) rfl (ex_at x (List.mem_of_getElem? (i := 9) (by rfl))) (ex_at x (List.mem_of_getElem? (i := 32) (by rfl)))
    · exact at_mtk (f0 := "redo") (by decide +kernel) rfl (ex_at x (List.mem_of_getElem? (i := 9) (by rfl))) (ex_at x (List.mem_of_getElem? (i := 33) (by rfl)))
    · exact at_mth (f0 := "__call__") (by decide +kernel) rfl (ex_at x (List.mem_of_getElem? (i := 11) (by rfl))) (ex_at x (List.mem_of_getElem? (i := 34) (by rfl)))
    · exact at_mth (f0 := "answered") (by decide +kernel) rfl (ex_at x (List.mem_of_getElem? (i := 11) (by rfl))) (ex_at x (List.mem_of_getElem? (i := 35) (by rfl)))
    · exact at_mth (f0 := "shared") (by decide +kernel) rfl (ex_at x (List.mem_of_getElem? (i := 11) (by rfl))) (ex_at x (List.mem_of_getElem? (i := 36) (by rfl)))
    · exact at_mth (f0 := "worth_now") (by decide +kernel) rfl (ex_at x (List.mem_of_getElem? (i := 11) (by rfl))) (ex_at x (List.mem_of_getElem? (i := 37) (by rfl)))
    · exact at_mth (f0 := "shown") (by decide +kernel) rfl (ex_at x (List.mem_of_getElem? (i := 11) (by rfl))) (ex_at x (List.mem_of_getElem? (i := 38) (by rfl)))
    · exact at_tup (ys := ["words", "all"]) (He.glo_ok X Gn (c.facts (fa_more (List.mem_of_getElem? (i := 4) (by rfl))))) (ex_at x (List.mem_of_getElem? (i := 39) (by rfl)))
    · exact at_tup (ys := ["undo", "redo"]) (He.glo_ok X Gn (c.facts (fa_more (List.mem_of_getElem? (i := 5) (by rfl))))) (ex_at x (List.mem_of_getElem? (i := 40) (by rfl)))
    · exact at_tup (ys := ["watch", "calm", "word", "since", "bettering"]) (He.glo_ok X Gn (c.facts (fa_more (List.mem_of_getElem? (i := 6) (by rfl))))) (ex_at x (List.mem_of_getElem? (i := 41) (by rfl)))
  · simp only [supL, List.forall_mem_cons, List.not_mem_nil, false_imp_iff, implies_true, and_true]
    refine ⟨?_, ?_, ?_, ?_⟩
    · exact sup_of (a := "spot") X Gn PySem.F.excBase_ValueError PySem.W.kxs_ValueError PySem.F.store_ValueError (ex_at x (by simp [exB])) (by decide) (by decide +kernel) (fun _ _ _ _ _ _ _ _ _ _ _ _ _ _ _ _ _ => rfl) (by kernel_rfl) rfl hsu
    · exact sup_of (a := "given") X Gn PySem.F.excBase_IndexError PySem.W.kxs_IndexError PySem.F.store_IndexError (ex_at x (by simp [exB])) (by decide) (by decide +kernel) (fun _ _ _ _ _ _ _ _ _ _ _ _ _ _ _ _ _ => rfl) (by kernel_rfl) rfl hsu
    · exact sup_of (a := "done") X Gn PySem.F.excBase_LookupError PySem.W.kxs_LookupError PySem.F.store_LookupError (ex_at x (by simp [exB])) (by decide) (by decide +kernel) (fun _ _ _ _ _ _ _ _ _ _ _ _ _ _ _ _ _ => rfl) (by kernel_rfl) rfl hsu
    · exact sup_of (a := "limit") X Gn PySem.F.excBase_OverflowError PySem.W.kxs_OverflowError PySem.F.store_OverflowError (ex_at x (by simp [exB])) (by decide) (by decide +kernel) (fun _ _ _ _ _ _ _ _ _ _ _ _ _ _ _ _ _ => rfl) (by kernel_rfl) rfl hsu
  · simp only [txtL, List.forall_mem_cons, List.not_mem_nil, false_imp_iff, implies_true, and_true]
    exact ⟨rfl, rfl, rfl, rfl, rfl, rfl⟩
  · obtain ⟨fd, Fd⟩ := c.defs (List.mem_map.mpr ⟨("_law_met", 94), by decide +kernel, rfl⟩)
    have Fd : FunD K "_law_met" "_law_met" (defArgs (tp body 94)) (defBody (tp body 94)) (defScope (tp body 94)) [] [] (He.ga K "_law_met") fd := Fd
    exact ctch_of Fd (He.glo_ok X Gn (c.facts (fa_more (List.mem_cons_self ..)))) (fun _ _ _ _ _ _ us hl => match us, hl with | [_], _ => rfl) (Ng := ["call", "error"]) ⟨rfl, rfl, rfl, by decide +kernel, rfl, by decide +kernel, by decide +kernel⟩ rfl (.inl (by kernel_rfl)) (by decide +kernel) (by decide +kernel) (by decide +kernel) (gives c x X Gn) (fun m h H Q hr p => ok_tfS hr p) (caught c)
end G88
set_option maxHeartbeats 0
namespace G88
open PySem PySem.Spec PyProof.Rows L2 GS
abbrev R : PySem.W.OpenRow := PySem.W.OpenLaw.row PySem.Challenge.rw_gainshares_k88_errors_of_texts_of_games
abbrev hk : PySem.W.Hook := hookS as0 fa fn fp tf ex
def ob (s : PySem.W.SharedT) : AlG := obsS as0 fa fn fp tf ex (HandSHeadRun.getT s)
theorem ob_eq (s : PySem.W.SharedT) : ob s = hk.obs s.abs := obsS_eq (HandSHeadRun.getT_eq s)
def loose : List Str := (["is_int", "is_whole", "is_within", "common_of", "lowest", "add", "less", "sum_all", "is_fraction", "is_game_of", "size_of", "is_group_of", "groups_of", "index_of", "worth_of", "total_of", "require_size", "require_game", "require_player", "require_group", "is_small", "is_share_of", "require_share", "number_of", "signed_of", "group_of", "fraction_of", "share_of", "group_text", "fraction_text"] : List Str) ++ (["lines_text", "whole_lines", "size_by", "worth_from", "share_from", "are_shares", "require_text", "write_game", "read_game", "write_shares", "read_shares", "better_in", "word_in", "with_worth", "lifted", "values_of", "_law_bag", "_law_draw", "_law_one_of", "_law_right", "_law_met", "_wall", "error_text", "GainError", "InvalidGame", "InvalidGroup", "InvalidShare", "InvalidReport", "InvalidText", "InvalidOperation"] : List Str) ++ (["ParseError", "InvalidNumber", "NothingToUndo", "TooMany", "Board", "Shell", "MOST_PLAYERS", "MOST_WORTH", "GREAT", "MOST_ABOVE", "MOST_BELOW", "MAX_SIGNS", "MOST_DIGITS", "MOST_SHARES", "DIGITS", "GAME", "SHARES", "MAX_WATCHED", "SHORT", "OVER", "BETTERED", "STEADY", "WHAT", "WRONG", "GROUP", "SHARE", "NONE", "ALONE", "COUNTED", "SHARED"] : List Str)
abbrev qv : Program := PySem.W.view R.prog [96]
noncomputable abbrev run0 (w : World) (os : OsState) : Option PySem.W.SharedT := HandSHeadRun.endF (HandSHeadRun.stepQ (HandSHeadRun.denQ HandSHeadRun.tabQ) R.prog w) 8000 R.prog w os
theorem run7 (w : World) : ∀ os : OsState, (run0 w os).map (fun s => fp.all (okA (frT7 s))) = some (true) := by
  intro os
  kernel_rfl
theorem run8 (w : World) : ∀ os : OsState, (run0 w os).map (fun s => fp.map (fnA (frT7 s))) = some (fp.map He.DefD.val) := by
  intro os
  kernel_rfl
theorem run1 (w : World) : ∀ os : OsState, (run0 w os).map (fun s => HandSHeadRun.looksF R.prog (PySem.W.boot_heap w.params) s.abs) = some (true) := by
  intro os
  kernel_rfl
theorem run2 (w : World) : ∀ os : OsState, (run0 w os).map (fun s => HandSHeadRun.seenQ qv loose (importedModules R.prog.main.body) (fun s => PySem.W.xlAt qv [] s && PySem.W.recOk R.toRowW.records s) s.abs) = some (PySem.W.openGood qv loose) := by
  intro os
  kernel_rfl
theorem run3 (w : World) : ∀ os : OsState, (run0 w os).map (fun s => fa.all fun f => f.ok (frT7 s)) = some (true) := by
  intro os
  kernel_rfl
theorem run4 (w : World) : ∀ os : OsState, (run0 w os).map (fun s => fn.all fun d => d.ok (frT7 s)) = some (true) := by
  intro os
  kernel_rfl
theorem run5 (w : World) : ∀ os : OsState, (run0 w os).map (fun s => fn.map fun d => He.fnW (frT7 s) d.at_) = some (fn.map He.DefD.val) := by
  intro os
  kernel_rfl
theorem run6 (w : World) : ∀ os : OsState, (run0 w os).map (fun s => ex (frT7 s) && He.tabsB (HandSHeadRun.getT s) tf (frT7 s)) = some (true) := by
  intro os
  kernel_rfl
theorem run (w : World) : HandSHeadRun.RunEq R qv hk ob 8000 loose w := fun os => run_mk (run1 w os) (run2 w os) (run3 w os) (run4 w os) (run5 w os) (run6 w os) (run7 w os) (run8 w os)
end G88
open PySem PySem.W PySem.Calls PyProof.Rows
theorem PySem.Challenge.cw_gainshares_k88_errors_of_texts_of_games_holds : PySem.Challenge.rw_gainshares_k88_errors_of_texts_of_games.Holds := by
  w_on; o_law
  refine HandSHeadRun.head_any (r := OpenLaw.row PySem.Challenge.rw_gainshares_k88_errors_of_texts_of_games) (q := view (OpenLaw.row PySem.Challenge.rw_gainshares_k88_errors_of_texts_of_games).prog [96]) (H := G88.hk) (ob := G88.ob) (M := 8000) (loose := G88.loose) (d := HandSHeadRun.topDef (OpenLaw.row PySem.Challenge.rw_gainshares_k88_errors_of_texts_of_games).prog 96) (kwd := []) G88.ob_eq
    (by kernel_rfl) (fun s => by kernel_rfl) G88.run (by kernel_rfl) (by kernel_rfl) (by kernel_rfl) (by rfl) (by first | assumption | decide +kernel) (by decide +kernel) ⟨rfl, rfl, rfl, rfl, rfl, by decide +kernel⟩ ?hw ?hc
  case hw => w_witness2
  case hc =>
    refine GS.walk_ofG (l := PySem.Challenge.rw_gainshares_k88_errors_of_texts_of_games) (n := 63) (k := 45) rfl (by decide) (by kernel_rfl) ⟨rfl, by decide, by decide⟩ ?F
    intro w mg fa h Y Gn hmg0
    obtain ⟨K, KX, c⟩ := Y
    have hmg : mg ("law" : PySem.Str) = some (.ref fa) := by
      have e : (HandSHeadRun.topDef (OpenLaw.row PySem.Challenge.rw_gainshares_k88_errors_of_texts_of_games).prog 96).name = ("law" : PySem.Str) := by kernel_rfl
      rw [← e]
      exact hmg0
    have el := hmg.symm.trans (He.glo_ok KX Gn (c.d.facts (GS.fa_fn (p := ("law", 50)) (by decide +kernel))))
    cases el
    refine ⟨K, G88.tf.map (He.cT K), GS.spF G88.pg K (G88.gl K) (GS.rC G88.pg 20) G88.f50, KX, ?_, ?_, ?_, ?_, ?_⟩
    · intro p hp; obtain ⟨q, hq, rfl⟩ := List.mem_map.mp hp; exact c.empty q hq
    · intro p hp; obtain ⟨q, hq, rfl⟩ := List.mem_map.mp hp; exact c.out q hq
    · intro p hp; obtain ⟨q, hq, rfl⟩ := List.mem_map.mp hp; exact PySem.W.codeHd_of_K KX (c.hd q hq)
    · intro H a ns hl hH hS
      refine GS.law_sp (fun p hp => ?_) hS hl G88.ev_law
      obtain ⟨q, hq, rfl⟩ := List.mem_map.mp hp
      exact LamX.TabS.nil (hH _ (List.mem_map.mpr ⟨q, hq, rfl⟩))
    · intro base kb gb tabs bl nl
      obtain ⟨L, ⟨T⟩⟩ := G88.facts (base := base) (w := w) KX Gn c.d c.more
      have all := GS.law_step (base := base) L T rfl (G88.ex_at c.more (by simp [G88.exB])) tabs c.d (fnL := G88.fnL) (fp := G88.fp) (df := G88.df) (fun x f e => by
          rw [G88.dcl_eq] at e
          rcases GS.mkD_inv e with ⟨_, e, m⟩ | ⟨_, e, _⟩ | ⟨_, e, _⟩ | ⟨_, e, _⟩ | ⟨_, e, _⟩ | ⟨e, _⟩ | e
          rotate_left 6
          · exact (GS.at_nofn (show ∀ p ∈ G88.atL, GS.isFn p.2 = false from fun p hp => by simpa using List.all_eq_true.mp (show G88.atL.all (fun p => !GS.isFn p.2) = true by kernel_rfl) p hp) e).elim
          all_goals cases e
          exact m)
        c.mt (fun f => rfl) (GS.atM_of G88.dcl_eq G88.allM).1 (GS.atM_of G88.dcl_eq G88.allM).2
        (fun p hp => by
          have n := of_decide_eq_true (List.all_eq_true.mp (show G88.fnL.all (fun p => decide (G88.df p.2 = (p.1, none))) = true by kernel_rfl) p hp)
          show GS.adK K (G88.df p.2) = _
          rw [n]
          rfl)
        G88.all1
      exact GS.hot_fn (k := 20) (base := base) L T rfl (G88.ex_at c.more (by simp [G88.exB])) tabs c.d (x := "law") (ti := 96) (by decide +kernel) (by decide +kernel) (by kernel_rfl) G88.d50 fun i hi => all i
