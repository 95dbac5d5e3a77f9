import PyProof.Rows.All
import Wide.All
import OpenK.AllK
import Wide.FinOn
import HandS.ForMost
import HandS.TupAny
import HandS.TupMul
import HandS.Zip
import HandS.Wide
import HandS.IsInst
import HandS.Flow
import HandS.Style
import HandS.Steps
import HandS.Conv
import KE.KTupSum
import HandS.Dict
import KE.KDictKeyed
import KE.KDictDisplayH
import HandS.Iter
import HandS.Flt
import HandS.More
import HandS.Deep
import KE.GoesEnum
import KE.SortData
import HandS.TupSets
import KE.DataFind
import PySem.Challenge.RW_backforward_k22_worked_examples_and_name
set_option Elab.async false
set_option linter.all false
set_option autoImplicit false
/-! The plain reading: values, memory, and what each construct computes. -/
namespace BF
open PySem

inductive W where
  | non
  | bl (b : Bool)
  | int (i : Int)
  | str (x : Str)
  | tup (ws : List W)
  | ref (n : Nat)

instance : Inhabited W := ⟨.non⟩

mutual
def W.beq : W → W → Bool
  | .non, .non => true
  | .bl a, .bl b => a == b
  | .int a, .int b => decide (a = b)
  | .str a, .str b => decide (a = b)
  | .tup a, .tup b => W.beqs a b
  | .ref a, .ref b => decide (a = b)
  | .non, .bl _ | .non, .int _ | .non, .str _ | .non, .tup _ | .non, .ref _ => false
  | .bl _, .non | .bl _, .int _ | .bl _, .str _ | .bl _, .tup _ | .bl _, .ref _ => false
  | .int _, .non | .int _, .bl _ | .int _, .str _ | .int _, .tup _ | .int _, .ref _ => false
  | .str _, .non | .str _, .bl _ | .str _, .int _ | .str _, .tup _ | .str _, .ref _ => false
  | .tup _, .non | .tup _, .bl _ | .tup _, .int _ | .tup _, .str _ | .tup _, .ref _ => false
  | .ref _, .non | .ref _, .bl _ | .ref _, .int _ | .ref _, .str _ | .ref _, .tup _ => false
def W.beqs : List W → List W → Bool
  | [], [] => true
  | a :: as, b :: bs => W.beq a b && W.beqs as bs
  | [], _ :: _ => false
  | _ :: _, [] => false
end
mutual
theorem W.beq_self : ∀ a : W, W.beq a a = true
  | .non => rfl
  | .bl a => by simp [W.beq]
  | .int a => by simp [W.beq]
  | .str a => by simp [W.beq]
  | .tup a => by rw [W.beq]; exact W.beqs_self a
  | .ref a => by simp [W.beq]
theorem W.beqs_self : ∀ a : List W, W.beqs a a = true
  | [] => rfl
  | a :: as => by rw [W.beqs, W.beq_self a, W.beqs_self as]; rfl
end
mutual
theorem W.eq_of_beq : ∀ a b : W, W.beq a b = true → a = b
  | .non, b, h => by cases b <;> simp [W.beq] at h; rfl
  | .bl a, b, h => by cases b <;> simp [W.beq] at h; rw [h]
  | .int a, b, h => by cases b <;> simp [W.beq] at h; rw [h]
  | .str a, b, h => by cases b <;> simp [W.beq] at h; rw [h]
  | .tup a, b, h => by
    cases b with
    | tup b => rw [W.beq] at h; rw [W.eq_of_beqs a b h]
    | _ => simp [W.beq] at h
  | .ref a, b, h => by cases b <;> simp [W.beq] at h; rw [h]
theorem W.eq_of_beqs : ∀ a b : List W, W.beqs a b = true → a = b
  | [], b, h => by
    cases b with
    | nil => rfl
    | cons _ _ => simp [W.beqs] at h
  | a :: as, b, h => by
    cases b with
    | nil => simp [W.beqs] at h
    | cons b bs =>
      rw [W.beqs, Bool.and_eq_true] at h
      rw [W.eq_of_beq a b h.1, W.eq_of_beqs as bs h.2]
end
instance : DecidableEq W := fun a b =>
  if h : W.beq a b = true then .isTrue (W.eq_of_beq a b h) else .isFalse fun e => h (e ▸ W.beq_self a)

/-- a dict keyed by nested tuples; a dict that is walked (keys: numbers and texts; nested tuples) -/
inductive DM where
  | nest
  | lockF
  | lockN
  deriving DecidableEq
/-- what stands at an id: a list (made here), a list that is only read, a dict, one with int and text keys -/
inductive MO where
  | lst (ws : List W)
  | ro (ws : List W)
  | dT (m : DM) (kvs : List (W × W))
  | dK (kvs : List (W × W))
  deriving DecidableEq

abbrev Mem := List MO
abbrev Sl := List (Option W)
abbrev CE := Sl → Mem → Option (W × Mem)
abbrev CA := Sl → Mem → Option (List W × Mem)
abbrev CT := Sl → Mem → Option (Bool × Mem)
abbrev Fn := List W → Mem → Option (W × Mem)
inductive Out where
  | nx (σ : Sl) (M : Mem)
  | rt (w : W) (M : Mem)
  | bk (σ : Sl) (M : Mem)
  | ct (σ : Sl) (M : Mem)
abbrev CS := Sl → Mem → Option Out
abbrev CG := W → Sl → Option Sl
/-- what a loop walks: the items, and what must stay true of the memory meanwhile -/
abbrev CI := Sl → Mem → Option (List W × (Mem → Bool) × Mem)


/-! ### expressions -/
def eV (i : Nat) : CE := fun σ M => match σ.getD i none with
  | some w => some (w, M)
  | none => none
def eL (w : W) : CE := fun _ M => some (w, M)
def e1 (f : Mem → W → Option (W × Mem)) (a : CE) : CE := fun σ M => (a σ M).bind fun p => f p.2 p.1
def e2 (f : Mem → W → W → Option (W × Mem)) (a b : CE) : CE := fun σ M =>
  (a σ M).bind fun p => (b σ p.2).bind fun q => f q.2 p.1 q.1
def eArgs : List CE → CA
  | [] => fun _ M => some ([], M)
  | a :: as => fun σ M => (a σ M).bind fun p => (eArgs as σ p.2).bind fun q => some (p.1 :: q.1, q.2)
def eN (f : Fn) (as : List CE) : CE := fun σ M => (eArgs as σ M).bind fun p => f p.1 p.2
def eTup (as : List CE) : CE := fun σ M => (eArgs as σ M).bind fun p =>
  if p.1.length ≤ 16777216 then some (.tup p.1, p.2) else none
def eLst (as : List CE) : CE := fun σ M => (eArgs as σ M).bind fun p =>
  if p.1.length ≤ 16777216 then some (.ref p.2.length, p.2 ++ [.lst p.1]) else none
def eIf (t : CT) (a b : CE) : CE := fun σ M => (t σ M).bind fun p => if p.1 = true then a σ p.2 else b σ p.2
/-- a and b, a or b, not a: of truth values -/
def eAnd (a b : CE) : CE := fun σ M => (a σ M).bind fun p => match p.1 with
  | .bl true => b σ p.2
  | .bl false => some (.bl false, p.2)
  | _ => none
def eOr (a b : CE) : CE := fun σ M => (a σ M).bind fun p => match p.1 with
  | .bl true => some (.bl true, p.2)
  | .bl false => b σ p.2
  | _ => none
def eNot (a : CE) : CE := fun σ M => (a σ M).bind fun p => match p.1 with
  | .bl c => some (.bl (!c), p.2)
  | _ => none
/-- a op b op' c -/
def eChain (f g : Mem → W → W → Option (W × Mem)) (a b c : CE) : CE := fun σ M =>
  (a σ M).bind fun p => (b σ p.2).bind fun q => (f q.2 p.1 q.1).bind fun r => match r.1 with
    | .bl true => (c σ r.2).bind fun t => g t.2 q.1 t.1
    | .bl false => some (.bl false, r.2)
    | _ => none

/-! ### tests -/
def tB (e : CE) : CT := fun σ M => (e σ M).bind fun p => match p.1 with
  | .bl c => some (c, p.2)
  | _ => none
def tAnd (a b : CT) : CT := fun σ M => (a σ M).bind fun p => if p.1 = true then b σ p.2 else some (false, p.2)
def tOr (a b : CT) : CT := fun σ M => (a σ M).bind fun p => if p.1 = true then some (true, p.2) else b σ p.2
def tNot (a : CT) : CT := fun σ M => (a σ M).bind fun p => some (!p.1, p.2)
def tTrue : CT := fun _ M => some (true, M)

/-! ### targets -/
def gV (i : Nat) : CG := fun w σ => some (σ.set i (some w))
def gAll : List CG → List W → Sl → Option Sl
  | [], [], σ => some σ
  | g :: gs, w :: ws, σ => (g w σ).bind fun σ1 => gAll gs ws σ1
  | _, _, _ => none
def gT (gs : List CG) : CG := fun w σ => match w with
  | .tup ws => gAll gs ws σ
  | _ => none

/-! ### statements -/
def sSet (g : CG) (e : CE) : CS := fun σ M => (e σ M).bind fun p => (g p.1 σ).bind fun σ1 => some (.nx σ1 p.2)
/-- a, b = x, y of plain names -/
def sPar (is : List Nat) (as : List CE) : CS := fun σ M => (eArgs as σ M).bind fun p =>
  if p.1.length = is.length then some (.nx ((is.zip p.1).foldl (fun σ q => σ.set q.1 (some q.2)) σ) p.2) else none
def sAug (i : Nat) (f : Mem → W → W → Option (W × Mem)) (e : CE) : CS := fun σ M => match σ.getD i none with
  | some w => (e σ M).bind fun p => (f p.2 w p.1).bind fun q => some (.nx (σ.set i (some q.1)) q.2)
  | none => none
/-- o[k] = e -/
def sPut (f : Mem → W → W → W → Option Mem) (o k e : CE) : CS := fun σ M =>
  (e σ M).bind fun p => (o σ p.2).bind fun q => (k σ q.2).bind fun r => (f r.2 q.1 r.1 p.1).bind fun M' => some (.nx σ M')
def sExpr (e : CE) : CS := fun σ M => (e σ M).bind fun p => some (.nx σ p.2)
def sRet (e : CE) : CS := fun σ M => (e σ M).bind fun p => some (.rt p.1 p.2)
def sNil : CS := fun σ M => some (.nx σ M)
def sBreak : CS := fun σ M => some (.bk σ M)
def sSeq (a b : CS) : CS := fun σ M => (a σ M).bind fun o => match o with
  | .nx σ' M' => b σ' M'
  | .rt w M' => some (.rt w M')
  | .bk σ' M' => some (.bk σ' M')
  | .ct σ' M' => some (.ct σ' M')
def sIf (t : CT) (a b : CS) : CS := fun σ M => (t σ M).bind fun p => if p.1 = true then a σ p.2 else b σ p.2
def forL (gd : Mem → Bool) (g : CG) (body : CS) : List W → CS
  | [], σ, M => if gd M = true then some (.nx σ M) else none
  | w :: ws, σ, M => if gd M = true then (g w σ).bind fun σ1 => (body σ1 M).bind fun o => match o with
      | .nx σ' M' => forL gd g body ws σ' M'
      | .ct σ' M' => forL gd g body ws σ' M'
      | .bk σ' M' => some (.nx σ' M')
      | .rt w M' => some (.rt w M')
    else none
def sFor (it : CI) (g : CG) (body : CS) : CS := fun σ M => (it σ M).bind fun p => forL p.2.1 g body p.1 σ p.2.2
def whileL (t : CT) (body : CS) : Nat → CS
  | 0, _, _ => none
  | n + 1, σ, M => (t σ M).bind fun p => if p.1 = true then (body σ p.2).bind fun o => match o with
      | .nx σ' M' => whileL t body n σ' M'
      | .ct σ' M' => whileL t body n σ' M'
      | .bk σ' M' => some (.nx σ' M')
      | .rt w M' => some (.rt w M')
    else some (.nx σ p.2)
def sWhile (n : Nat) (t : CT) (body : CS) : CS := whileL t body n

/-! ### what is walked -/
def gdT : Mem → Bool := fun _ => true
def iTup (e : CE) : CI := fun σ M => (e σ M).bind fun p => match p.1 with
  | .tup ws => some (ws, gdT, p.2)
  | _ => none
def iLst (e : CE) : CI := fun σ M => (e σ M).bind fun p => match p.1 with
  | .ref n => match p.2[n]? with
    | some (.lst ws) => some (ws, fun M' => decide (M'[n]? = some (.lst ws)), p.2)
    | some (.ro ws) => some (ws, fun M' => decide (M'[n]? = some (.ro ws)), p.2)
    | _ => none
  | _ => none
def rangeW (lo : Int) (n : Nat) : List W := (List.range n).map fun i => .int (lo + (i : Nat))
def small62 (i : Int) : Bool := Nat.ble i.natAbs 4611686018427387903
theorem small62_of {i : Int} (h : i.natAbs ≤ 4611686018427387903) : small62 i = true := Nat.ble_eq_true_of_le h
def iRange1 (e : CE) : CI := fun σ M => (e σ M).bind fun p => match p.1 with
  | .int j => if small62 j = true then some (rangeW 0 j.toNat, gdT, p.2) else none
  | _ => none
def iRange2 (a b : CE) : CI := fun σ M => (a σ M).bind fun p => (b σ p.2).bind fun q => match p.1, q.1 with
  | .int i, .int j => if small62 i = true ∧ small62 j = true then some (rangeW i (j - i).toNat, gdT, q.2) else none
  | _, _ => none
def enumW (ws : List W) : List W := ws.zipIdx.map fun p => .tup [.int (p.2 : Nat), p.1]
def iEnumT (e : CE) : CI := fun σ M => (e σ M).bind fun p => match p.1 with
  | .tup ws => some (enumW ws, gdT, p.2)
  | _ => none
def iEnumL (e : CE) : CI := fun σ M => (e σ M).bind fun p => match p.1 with
  | .ref n => match p.2[n]? with
    | some (.lst ws) => some (enumW ws, fun M' => decide (M'[n]? = some (.lst ws)), p.2)
    | _ => none
  | _ => none
def zipW (xs ys : List W) : List W := (xs.zip ys).map fun p => .tup [p.1, p.2]
def iZipT (a b : CE) : CI := fun σ M => (a σ M).bind fun p => (b σ p.2).bind fun q => match p.1, q.1 with
  | .tup xs, .tup ys => some (zipW xs ys, gdT, q.2)
  | _, _ => none

/-! ### a list comprehension -/
def wipe (σ : Sl) : List Nat → Sl
  | [] => σ
  | v :: vs => (wipe σ vs).set v none
def lcL (gd : Mem → Bool) (g : CG) (t : CT) (e : CE) (vs : List Nat) (σ : Sl) (D : Nat) : List W → Mem → Option Mem
  | [], M => if gd M = true then some M else none
  | w :: ws, M => if gd M = true then (g w (wipe σ vs)).bind fun σ1 => (t σ1 M).bind fun p => if p.1 = true then
        (e σ1 p.2).bind fun q => match q.2[D]? with
          | some (.lst acc) => if acc.length < 16777216 then lcL gd g t e vs σ D ws (q.2.set D (.lst (acc ++ [q.1]))) else none
          | _ => none
      else lcL gd g t e vs σ D ws p.2
    else none
def eLc (it : CI) (g : CG) (t : CT) (e : CE) (vs : List Nat) : CE := fun σ M => (it σ M).bind fun p =>
  (lcL p.2.1 g t e vs σ p.2.2.length p.1 (p.2.2 ++ [.lst []])).bind fun M' => some (.ref p.2.2.length, M')

/-! ### data -/
def mapO {α β : Type} (f : α → Option β) : List α → Option (List β)
  | [] => some []
  | a :: as => match f a, mapO f as with
    | some b, some bs => some (b :: bs)
    | _, _ => none
def toD (M : Mem) : Nat → W → Option PyData
  | 0, _ => none
  | _ + 1, .non => some .none
  | _ + 1, .bl b => some (.bool b)
  | _ + 1, .int i => some (.int i)
  | _ + 1, .str x => some (.str x)
  | k + 1, .tup ws => (mapO (toD M k) ws).map .tuple
  | k + 1, .ref n => match M[n]? with
    | some (.lst ws) => (mapO (toD M k) ws).map .list
    | some (.ro ws) => (mapO (toD M k) ws).map .list
    | _ => none
/-- x == y of data -/
def eqW (M : Mem) (x y : W) : Option Bool := match toD M 64 x, toD M 64 y with
  | some d, some e => some (PyData.eqv d e)
  | _, _ => none

/-! ### operations -/
def gAdd (M : Mem) (x y : W) : Option (W × Mem) := match x, y with
  | .int i, .int j => some (.int (i + j), M)
  | .str a, .str b => if a.length + b.length ≤ 16777216 then some (.str (a ++ b), M) else none
  | .tup a, .tup b => if a.length + b.length ≤ 16777216 then some (.tup (a ++ b), M) else none
  | .ref a, .ref b => match M[a]?, M[b]? with
    | some (.lst xs), some (.lst ys) => if xs.length + ys.length ≤ 16777216 then some (.ref M.length, M ++ [.lst (xs ++ ys)]) else none
    | _, _ => none
  | _, _ => none
def gSub (M : Mem) (x y : W) : Option (W × Mem) := match x, y with
  | .int i, .int j => some (.int (i - j), M)
  | _, _ => none
def small64 (i : Int) : Bool := Nat.ble i.natAbs 18446744073709551615
theorem small64_of {i : Int} (h : i.natAbs ≤ 18446744073709551615) : small64 i = true := Nat.ble_eq_true_of_le h
/-- products of ints, one of them small; a tuple k times -/
def gMul (M : Mem) (x y : W) : Option (W × Mem) := match x, y with
  | .int i, .int j => if small64 i = true ∨ small64 j = true then some (.int (i * j), M) else none
  | _, _ => none
def gRep (M : Mem) (x y : W) : Option (W × Mem) := match x, y with
  | .tup a, .int k => if a.length ≤ 1000 ∧ k ≤ 1000 then some (.tup (List.replicate k.toNat a).flatten, M) else none
  | _, _ => none
def gMod (M : Mem) (x y : W) : Option (W × Mem) := match x, y with
  | .int i, .int j => if 0 < j then some (.int (i % j), M) else none
  | _, _ => none
def gDiv (M : Mem) (x y : W) : Option (W × Mem) := match x, y with
  | .int i, .int j => if 0 < j ∧ small64 j = true then some (.int (i / j), M) else none
  | _, _ => none
def gPow (M : Mem) (x y : W) : Option (W × Mem) := match x, y with
  | .int i, .int j => if 0 ≤ j ∧ j ≤ 1000 ∧ small62 i = true then some (.int (i ^ j.toNat), M) else none
  | _, _ => none
def gNeg (M : Mem) (x : W) : Option (W × Mem) := match x with
  | .int i => some (.int (-i), M)
  | _ => none
def gLt (M : Mem) (x y : W) : Option (W × Mem) := match x, y with
  | .int i, .int j => some (.bl (decide (i < j)), M)
  | _, _ => none
def gLe (M : Mem) (x y : W) : Option (W × Mem) := match x, y with
  | .int i, .int j => some (.bl (decide (i ≤ j)), M)
  | _, _ => none
def gGt (M : Mem) (x y : W) : Option (W × Mem) := match x, y with
  | .int i, .int j => some (.bl (decide (j < i)), M)
  | _, _ => none
def gGe (M : Mem) (x y : W) : Option (W × Mem) := match x, y with
  | .int i, .int j => some (.bl (decide (j ≤ i)), M)
  | _, _ => none
def gEq (M : Mem) (x y : W) : Option (W × Mem) := (eqW M x y).map fun b => (.bl b, M)
def gNe (M : Mem) (x y : W) : Option (W × Mem) := (eqW M x y).map fun b => (.bl (!b), M)
def isN : W → Bool
  | .non => true
  | _ => false
def gIsN (M : Mem) (x : W) : Option (W × Mem) := some (.bl (isN x), M)
def gNotN (M : Mem) (x : W) : Option (W × Mem) := some (.bl (!isN x), M)
/-- the place that an index means -/
def ixW (n : Nat) (i : Int) : Option Nat := if 0 ≤ i then (if i < n then some i.toNat else none) else if -(n : Int) ≤ i then some (i + n).toNat else none
def gIx (M : Mem) (x y : W) : Option (W × Mem) := match x, y with
  | .tup a, .int i => ((ixW a.length i).bind fun j => a[j]?).map fun w => (w, M)
  | .ref n, .int i => match M[n]? with
    | some (.lst a) => ((ixW a.length i).bind fun j => a[j]?).map fun w => (w, M)
    | some (.ro a) => ((ixW a.length i).bind fun j => a[j]?).map fun w => (w, M)
    | _ => none
  | _, _ => none
/-- a slice's bound -/
def sIx (n d : Nat) : Option Int → Nat
  | none => d
  | some v => if v < 0 then (v + (n : Int)).toNat else min v.toNat n
def cutW {α : Type} (xs : List α) (lo hi : Option Int) : List α := (xs.drop (sIx xs.length 0 lo)).take (sIx xs.length xs.length hi - sIx xs.length 0 lo)
def partW : Option W → Option (Option Int)
  | none => some none
  | some (.int i) => some (some i)
  | _ => none
def gSl (M : Mem) (x : W) (lo hi : Option Int) : Option (W × Mem) := match x with
  | .tup a => some (.tup (cutW a lo hi), M)
  | .ref n => match M[n]? with
    | some (.lst a) => some (.ref M.length, M ++ [.lst (cutW a lo hi)])
    | _ => none
  | _ => none
def ePart (e : Option CE) : Sl → Mem → Option (Option Int × Mem) := fun σ M => match e with
  | none => some (none, M)
  | some c => (c σ M).bind fun p => match p.1 with
    | .int i => some (some i, p.2)
    | _ => none
def eSl (e : CE) (lo hi : Option CE) : CE := fun σ M => (e σ M).bind fun p => (ePart lo σ p.2).bind fun q => (ePart hi σ q.2).bind fun r => gSl r.2 p.1 q.1 r.1

/-! ### calls of built-ins -/
def pLen : Fn := fun ws M => match ws with
  | [.tup a] => some (.int a.length, M)
  | [.ref n] => match M[n]? with
    | some (.lst a) => some (.int a.length, M)
    | some (.ro a) => some (.int a.length, M)
    | _ => none
  | _ => none
def pMin : Fn := fun ws M => match ws with
  | [.int i, .int j] => some (.int (if j < i then j else i), M)
  | _ => none
def pMax : Fn := fun ws M => match ws with
  | [.int i, .int j] => some (.int (if j > i then j else i), M)
  | _ => none
def pAbs : Fn := fun ws M => match ws with
  | [.int i] => some (.int (if i < 0 then -i else i), M)
  | _ => none
def pList : Fn := fun ws M => match ws with
  | [.tup a] => some (.ref M.length, M ++ [.lst a])
  | [.ref n] => match M[n]? with
    | some (.lst a) => some (.ref M.length, M ++ [.lst a])
    | some (.ro a) => some (.ref M.length, M ++ [.lst a])
    | _ => none
  | _ => none
def pTuple : Fn := fun ws M => match ws with
  | [.tup a] => some (.tup a, M)
  | [.ref n] => match M[n]? with
    | some (.lst a) => some (.tup a, M)
    | some (.ro a) => some (.tup a, M)
    | _ => none
  | _ => none
/-- a value's built-in class -/
def tyW (M : Mem) (w : W) : Option String := match w with
  | .non => some "NoneType"
  | .bl _ => some "bool"
  | .int _ => some "int"
  | .str _ => some "str"
  | .tup _ => some "tuple"
  | .ref n => match M[n]? with
    | some (.lst _) => some "list"
    | some (.ro _) => some "list"
    | _ => none
def isTy (C T : String) : Bool := T == C || (T == "bool" && C == "int")
def gIsi (C : String) (M : Mem) (x : W) : Option (W × Mem) := (tyW M x).map fun T => (.bl (isTy C T), M)
def gIsi2 (C D : String) (M : Mem) (x : W) : Option (W × Mem) := (tyW M x).map fun T => (.bl (isTy C T || isTy D T), M)
/-! ### methods of lists -/
def mAppend : Fn := fun ws M => match ws with
  | [.ref n, w] => match M[n]? with
    | some (.lst a) => if a.length < 16777216 then some (.non, M.set n (.lst (a ++ [w]))) else none
    | _ => none
  | _ => none
def mPop : Fn := fun ws M => match ws with
  | [.ref n] => match M[n]? with
    | some (.lst a) => a[a.length - 1]?.map fun w => (w, M.set n (.lst a.dropLast))
    | _ => none
  | _ => none
def mPopAt : Fn := fun ws M => match ws with
  | [.ref n, .int i] => match M[n]? with
    | some (.lst a) => if small62 i = true then (ixW a.length i).bind fun j => a[j]?.map fun w => (w, M.set n (.lst (a.eraseIdx j))) else none
    | _ => none
  | _ => none
def isLst (M : Mem) (w : W) : Bool := match w with
  | .ref n => match M[n]? with
    | some (.lst _) => true
    | _ => false
  | _ => false
/-- o.m(..), o a list -/
def eML (f : Fn) (o : CE) (as : List CE) : CE := fun σ M => (o σ M).bind fun p => if isLst p.2 p.1 = true then (eArgs as σ p.2).bind fun q => f (p.1 :: q.1) q.2 else none
/-- xs[i] = w -/
def putL (M : Mem) (o k w : W) : Option Mem := match o, k with
  | .ref n, .int i => match M[n]? with
    | some (.lst a) => (ixW a.length i).map fun j => M.set n (.lst (a.set j w))
    | _ => none
  | _, _ => none

/-! ### lists of ints -/
def asInts : List W → Option (List Int)
  | [] => some []
  | .int i :: ws => (asInts ws).map (i :: ·)
  | _ :: _ => none
theorem asInts_map (ns : List Int) : asInts (ns.map W.int) = some ns := by
  induction ns with
  | nil => rfl
  | cons n ns ih => rw [List.map_cons, asInts, ih]; rfl
theorem asInts_some : ∀ {ws : List W} {ns : List Int}, asInts ws = some ns → ws = ns.map W.int
  | [], _, h => by cases h; rfl
  | .int i :: ws, ns, h => by
    rw [asInts] at h
    obtain ⟨ms, h1, rfl⟩ := Option.map_eq_some_iff.mp h
    rw [asInts_some h1]; rfl
  | .non :: _, _, h => by cases h
  | .bl _ :: _, _, h => by cases h
  | .str _ :: _, _, h => by cases h
  | .tup _ :: _, _, h => by cases h
  | .ref _ :: _, _, h => by cases h

theorem rangeW_get {lo : Int} {n i : Nat} {w : W} (h : (rangeW lo n)[i]? = some w) : i < n ∧ w = .int (lo + (i : Nat)) := by
  unfold rangeW at h
  rw [List.getElem?_map] at h
  by_cases hi : i < n
  · rw [List.getElem?_range hi] at h
    cases h
    exact ⟨hi, rfl⟩
  · rw [List.getElem?_eq_none (by simpa using hi)] at h
    cases h
theorem rangeW_length {lo : Int} {n : Nat} : (rangeW lo n).length = n := by simp [rangeW]

/-! ### ids that stand -/
mutual
def W.closed (k : Nat) : W → Bool
  | .ref n => decide (n < k)
  | .tup ws => W.closeds k ws
  | .non | .bl _ | .int _ | .str _ => true
def W.closeds (k : Nat) : List W → Bool
  | [] => true
  | w :: ws => W.closed k w && W.closeds k ws
end
def MO.closed (k : Nat) : MO → Bool
  | .lst ws | .ro ws => W.closeds k ws
  | .dT _ kvs | .dK kvs => kvs.all fun p => p.1.closed k && p.2.closed k
def Closed (M : Mem) : Prop := ∀ mo ∈ M, mo.closed M.length = true
/-- a def's body keeps the promise F: n slots; what it laid besides is forgotten -/
def KeepsP (n : Nat) (body : CS) (F : Fn) : Prop := ∀ ws M w M', Closed M → (∀ x ∈ ws, x.closed M.length = true) → F ws M = some (w, M') →
  ∃ g, (body (ws.map some ++ List.replicate (n - ws.length) none) M = some (.rt w (M' ++ g)) ∨
      w = .non ∧ ∃ σ', body (ws.map some ++ List.replicate (n - ws.length) none) M = some (.nx σ' (M' ++ g))) ∧
    M.length ≤ M'.length ∧ Closed M' ∧ w.closed M'.length = true
/-! ### other ids for the same things -/
mutual
def W.ren (r : Nat → Nat) : W → W
  | .ref n => .ref (r n)
  | .tup ws => .tup (W.rens r ws)
  | .non => .non
  | .bl b => .bl b
  | .int i => .int i
  | .str x => .str x
def W.rens (r : Nat → Nat) : List W → List W
  | [] => []
  | w :: ws => W.ren r w :: W.rens r ws
end
def MO.ren (r : Nat → Nat) : MO → MO
  | .lst ws => .lst (W.rens r ws)
  | .ro ws => .ro (W.rens r ws)
  | .dT m kvs => .dT m (kvs.map fun p => (p.1.ren r, p.2.ren r))
  | .dK kvs => .dK (kvs.map fun p => (p.1.ren r, p.2.ren r))
/-- .. up to the new things' ids -/
def Keeps (n : Nat) (body : CS) (F : Fn) : Prop := ∀ ws M w M', Closed M → (∀ x ∈ ws, x.closed M.length = true) → F ws M = some (w, M') →
  ∃ (r : Nat → Nat) (M2 : Mem), (body (ws.map some ++ List.replicate (n - ws.length) none) M = some (.rt (w.ren r) M2) ∨
      w = .non ∧ ∃ σ', body (ws.map some ++ List.replicate (n - ws.length) none) M = some (.nx σ' M2)) ∧
    (∀ i < M.length, r i = i) ∧ (∀ (i : Nat) (mo : MO), M'[i]? = some mo → M2[r i]? = some (mo.ren r)) ∧ (∀ i j, i < M'.length → j < M'.length → r i = r j → i = j) ∧
    M.length ≤ M'.length ∧ Closed M' ∧ w.closed M'.length = true
mutual
theorem W.ren_id {r : Nat → Nat} (h : ∀ i, r i = i) : ∀ w : W, w.ren r = w
  | .ref n => by rw [W.ren, h]
  | .tup ws => by rw [W.ren, W.rens_id h ws]
  | .non => rfl
  | .bl _ => rfl
  | .int _ => rfl
  | .str _ => rfl
theorem W.rens_id {r : Nat → Nat} (h : ∀ i, r i = i) : ∀ ws : List W, W.rens r ws = ws
  | [] => rfl
  | w :: ws => by rw [W.rens, W.ren_id h w, W.rens_id h ws]
end
theorem MO.ren_id (mo : MO) : mo.ren id = mo := by
  have h : ∀ i : Nat, (id i : Nat) = i := fun _ => rfl
  cases mo with
  | lst ws => rw [MO.ren, W.rens_id h]
  | ro ws => rw [MO.ren, W.rens_id h]
  | dT m kvs => rw [MO.ren]; simp [W.ren_id h]
  | dK kvs => rw [MO.ren]; simp [W.ren_id h]
theorem KeepsP.keeps {n : Nat} {body : CS} {F : Fn} (h : KeepsP n body F) : Keeps n body F := by
  intro ws M w M' hc hw e
  obtain ⟨g, h1, h2, h3, h4⟩ := h ws M w M' hc hw e
  refine ⟨id, M' ++ g, by rw [W.ren_id (r := id) fun _ => rfl]; exact h1, fun _ _ => rfl, fun i mo hi => ?_, fun _ _ _ _ e => e, h2, h3, h4⟩
  rw [MO.ren_id]
  show (M' ++ g)[i]? = _
  rw [List.getElem?_append_left (List.getElem?_eq_some_iff.mp hi).1]; exact hi
mutual
theorem W.ren_eq {r : Nat → Nat} {k : Nat} (h : ∀ i < k, r i = i) : ∀ w : W, w.closed k = true → w.ren r = w
  | .ref n, c => by rw [W.closed] at c; rw [W.ren, h n (of_decide_eq_true c)]
  | .tup ws, c => by rw [W.closed] at c; rw [W.ren, W.rens_eq h ws c]
  | .non, _ => rfl
  | .bl _, _ => rfl
  | .int _, _ => rfl
  | .str _, _ => rfl
theorem W.rens_eq {r : Nat → Nat} {k : Nat} (h : ∀ i < k, r i = i) : ∀ ws : List W, W.closeds k ws = true → W.rens r ws = ws
  | [], _ => rfl
  | w :: ws, c => by
    rw [W.closeds, Bool.and_eq_true] at c
    rw [W.rens, W.ren_eq h w c.1, W.rens_eq h ws c.2]
end
theorem MO.ren_eq {r : Nat → Nat} {k : Nat} (h : ∀ i < k, r i = i) {mo : MO} (c : mo.closed k = true) : mo.ren r = mo := by
  cases mo with
  | lst ws => rw [MO.ren, W.rens_eq h ws c]
  | ro ws => rw [MO.ren, W.rens_eq h ws c]
  | dT m kvs =>
    rw [MO.ren]
    congr 1
    rw [MO.closed, List.all_eq_true] at c
    refine (List.map_congr_left fun p hp => ?_).trans (List.map_id _)
    have := c p hp
    rw [Bool.and_eq_true] at this
    rw [W.ren_eq h _ this.1, W.ren_eq h _ this.2]; rfl
  | dK kvs =>
    rw [MO.ren]
    congr 1
    rw [MO.closed, List.all_eq_true] at c
    refine (List.map_congr_left fun p hp => ?_).trans (List.map_id _)
    have := c p hp
    rw [Bool.and_eq_true] at this
    rw [W.ren_eq h _ this.1, W.ren_eq h _ this.2]; rfl
end BF

set_option Elab.async false
set_option linter.all false
set_option autoImplicit false
set_option maxRecDepth 100000
/-! The plain reading is kept by the program: one rule a construct, lifted from the hand layer's. -/
namespace BF
open PySem PySem.Spec
open PyProof.Rows L2

/-- the known objects, and the world -/
structure KW where
  fr : PySem.W.Frag
  wd : World
instance : Coe KW PySem.W.Frag := ⟨KW.fr⟩
abbrev _root_.L2.Cx.KW (X : L2.Cx) : KW := ⟨X.K, X.w⟩
/-! ### reading values off the abstract heap -/
mutual
inductive Rd (K : KW) (H : Hp) (loc : List Addr) : V → W → Prop
  | non : Rd K H loc .non .non
  | bl (b : Bool) : Rd K H loc (.bl b) (.bl b)
  | int (i : Int) : Rd K H loc (.int i) (.int i)
  | str (x : Str) : PyData.strOk x = true → x.length ≤ 16777216 → Rd K H loc (.str x) (.str x)
  | tup {a : Addr} {xs : List V} {ws : List W} : SqT K H a xs → Rds K H loc xs ws → Rd K H loc (.ref a) (.tup ws)
  | ref {a : Addr} {n : Nat} : loc[n]? = some a → Rd K H loc (.ref a) (.ref n)
inductive Rds (K : KW) (H : Hp) (loc : List Addr) : List V → List W → Prop
  | nil : Rds K H loc [] []
  | cons {v : V} {vs : List V} {w : W} {ws : List W} : Rd K H loc v w → Rds K H loc vs ws → Rds K H loc (v :: vs) (w :: ws)
end

/-- what stays: tuples, and what is locked -/
structure Ext (K : KW) (H H' : Hp) : Prop where
  tup : ∀ a xs, SqT K H a xs → SqT K H' a xs
  frz : ∀ a o u, H a = some (.frz o u) → H' a = some (.frz o u)
theorem Ext.refl {K : KW} {H : Hp} : Ext K H H := ⟨fun _ _ h => h, fun _ _ _ h => h⟩
theorem Ext.trans {K : KW} {H H1 H2 : Hp} (a : Ext K H H1) (b : Ext K H1 H2) : Ext K H H2 := ⟨fun _ _ h => b.tup _ _ (a.tup _ _ h), fun _ _ _ h => b.frz _ _ _ (a.frz _ _ _ h)⟩
theorem Ext.new {K : KW} {H : Hp} {p : Addr} {o : HO} (hp : H p = none) : Ext K H (upd H p o) := ⟨fun a xs h => by
  rcases h with (h | ⟨u, h⟩) | h
  · exact .inl (.inl (by rw [upd_ne (ne_of_none h hp)]; exact h))
  · exact .inl (.inr ⟨u, by rw [upd_ne (ne_of_none h hp)]; exact h⟩)
  · exact .inr h, fun a o u h => by rw [upd_ne (ne_of_none h hp)]; exact h⟩
/-- what is changed is no tuple, and not locked -/
theorem Ext.upd {K : KW} {H : Hp} {p : Addr} {o u : HO} (hp : H p = some u) (m : Mut (some u)) : Ext K H (upd H p o) := ⟨fun a xs h => by
  rcases h with (h | ⟨v, h⟩) | h
  · refine .inl (.inl ?_)
    rw [upd_ne fun e => ?_]
    · exact h
    · subst e; rw [hp] at h; cases h; exact m
  · refine .inl (.inr ⟨v, ?_⟩)
    rw [upd_ne fun e => ?_]
    · exact h
    · subst e; rw [hp] at h; cases h; exact m
  · exact .inr h, fun a o u h => by
  rw [upd_ne fun e => ?_]
  · exact h
  · subst e; rw [hp] at h; cases h; exact m⟩

section
variable {K : KW} {H H' : Hp} {loc loc' : List Addr}
theorem pre_get {α : Type} {l l' : List α} (h : l <+: l') {n : Nat} {a : α} (e : l[n]? = some a) : l'[n]? = some a := by
  obtain ⟨r, rfl⟩ := h
  rw [List.getElem?_append_left (List.getElem?_eq_some_iff.mp e).1]; exact e
mutual
theorem Rd.mono (e : Ext K H H') (l : loc <+: loc') : ∀ {v : V} {w : W}, Rd K H loc v w → Rd K H' loc' v w
  | _, _, .non => .non
  | _, _, .bl b => .bl b
  | _, _, .int i => .int i
  | _, _, .str x h h2 => .str x h h2
  | _, _, .tup h r => .tup (e.tup _ _ h) (Rds.mono e l r)
  | _, _, .ref h => .ref (pre_get l h)
theorem Rds.mono (e : Ext K H H') (l : loc <+: loc') : ∀ {vs : List V} {ws : List W}, Rds K H loc vs ws → Rds K H' loc' vs ws
  | _, _, .nil => .nil
  | _, _, .cons r rs => .cons (Rd.mono e l r) (Rds.mono e l rs)
end
theorem Rds.length : ∀ {vs : List V} {ws : List W}, Rds K H loc vs ws → vs.length = ws.length
  | _, _, .nil => rfl
  | _, _, .cons _ r => by rw [List.length_cons, List.length_cons, r.length]
theorem Rds.get : ∀ {vs : List V} {ws : List W} {i : Nat} {w : W}, Rds K H loc vs ws → ws[i]? = some w → ∃ v, vs[i]? = some v ∧ Rd K H loc v w
  | _, _, _, _, .nil, e => by simp at e
  | _, _, 0, _, .cons r _, e => ⟨_, rfl, by simp at e; subst e; exact r⟩
  | _, _, i + 1, _, .cons _ r, e => by
    obtain ⟨v, h1, h2⟩ := r.get (i := i) (by simpa using e)
    exact ⟨v, by simpa using h1, h2⟩
theorem Rds.get' : ∀ {vs : List V} {ws : List W} {i : Nat} {v : V}, Rds K H loc vs ws → vs[i]? = some v → ∃ w, ws[i]? = some w ∧ Rd K H loc v w
  | _, _, _, _, .nil, e => by simp at e
  | _, _, 0, _, .cons r _, e => ⟨_, rfl, by simp at e; subst e; exact r⟩
  | _, _, i + 1, _, .cons _ r, e => by
    obtain ⟨v, h1, h2⟩ := r.get' (i := i) (by simpa using e)
    exact ⟨v, by simpa using h1, h2⟩
theorem Rds.append : ∀ {vs us : List V} {ws zs : List W}, Rds K H loc vs ws → Rds K H loc us zs → Rds K H loc (vs ++ us) (ws ++ zs)
  | _, _, _, _, .nil, s => s
  | _, _, _, _, .cons r rs, s => .cons r (rs.append s)
theorem Rds.take : ∀ {vs : List V} {ws : List W} (n : Nat), Rds K H loc vs ws → Rds K H loc (vs.take n) (ws.take n)
  | _, _, 0, _ => .nil
  | _, _, _ + 1, .nil => .nil
  | _, _, n + 1, .cons r rs => .cons r (rs.take n)
theorem Rds.drop : ∀ {vs : List V} {ws : List W} (n : Nat), Rds K H loc vs ws → Rds K H loc (vs.drop n) (ws.drop n)
  | _, _, 0, r => r
  | _, _, _ + 1, .nil => .nil
  | _, _, n + 1, .cons _ rs => rs.drop n
theorem Rds.set {v : V} {w : W} (r : Rd K H loc v w) : ∀ {vs : List V} {ws : List W} (i : Nat), Rds K H loc vs ws → Rds K H loc (vs.set i v) (ws.set i w)
  | _, _, _, .nil => .nil
  | _, _, 0, .cons _ rs => .cons r rs
  | _, _, i + 1, .cons q rs => .cons q (Rds.set r i rs)
theorem Rds.erase : ∀ {vs : List V} {ws : List W} (i : Nat), Rds K H loc vs ws → Rds K H loc (vs.eraseIdx i) (ws.eraseIdx i)
  | _, _, _, .nil => .nil
  | _, _, 0, .cons _ rs => rs
  | _, _, i + 1, .cons q rs => .cons q (Rds.erase i rs)
theorem Rds.dropLast {vs : List V} {ws : List W} (h : Rds K H loc vs ws) : Rds K H loc vs.dropLast ws.dropLast := by
  rw [List.dropLast_eq_take, List.dropLast_eq_take, h.length]; exact h.take _
theorem Rds.rep {vs : List V} {ws : List W} (h : Rds K H loc vs ws) : ∀ k : Nat, Rds K H loc (List.replicate k vs).flatten (List.replicate k ws).flatten
  | 0 => .nil
  | k + 1 => by rw [List.replicate_succ, List.replicate_succ, List.flatten_cons, List.flatten_cons]; exact h.append (Rds.rep h k)
theorem Rds.rev : ∀ {vs : List V} {ws : List W}, Rds K H loc vs ws → Rds K H loc vs.reverse ws.reverse
  | _, _, .nil => .nil
  | _, _, .cons r rs => by rw [List.reverse_cons, List.reverse_cons]; exact rs.rev.append (.cons r .nil)

/-! ### the memory -/
/-- a list that nobody writes -/
def RO (K : KW) (H : Hp) (a : Addr) (xs : List V) : Prop := (∃ o, H a = some (.frz o (.lst xs))) ∨
  ∃ (o : Obj) (its : Array Value) (n : Nat), K.fr.lookup a = some o ∧ o.cls = .type "list" ∧ o.dict = none ∧ o.data = .seq its n ∧ its.size ≤ sizeLine ∧ Vals xs its.toList
theorem RO.sq {a : Addr} {xs : List V} (h : RO K H a xs) : SqL K H a xs := by
  rcases h with ⟨o, h⟩ | h
  · exact .inl (.inr ⟨o, h⟩)
  · exact .inr h
/-- a key that is a number or a text -/
def keyW : Key → W
  | .inl i => .int i
  | .inr x => .str x
def KeyOk : Key → Prop
  | .inl _ => True
  | .inr x => PyData.strOk x = true ∧ x.length ≤ 16777216
mutual
/-- a value as a key of a dict keyed by nested tuples -/
def keyN : W → Option NestedKey
  | .non => some .none
  | .bl b => some (.num (if b = true then 1 else 0))
  | .int i => some (.num i)
  | .str x => some (.text x)
  | .tup ws => (keyNs ws).map .tup
  | .ref _ => none
def keyNs : List W → Option (List NestedKey)
  | [] => some []
  | w :: ws => match keyN w, keyNs ws with
    | some k, some ks => some (k :: ks)
    | _, _ => none
end
/-- the dict at a, keyed by nested tuples: keys, where their tuples stand, values -/
abbrev NE := List (NestedKey × Addr × V)
def entryN (w : World) (x : NestedKey × Addr × Value) : DictEntry := ⟨x.1.hash w, .ref x.2.1, x.2.2⟩
abbrev NP : NE → List (NestedKey × Addr × Value) → Prop := Paired fun p q => p.1 = q.1 ∧ p.2.1 = q.2.1 ∧ RelV p.2.2 q.2.2
def nestO (w : World) (a : Addr) (es : NE) : HO := .ext fun h => es.length ≤ sizeLine ∧ (a == sysModules) = false ∧ ∃ xs : List (NestedKey × Addr × Value), NP es xs ∧
  ∃ o en ep, h.get? a = some o ∧ o.ExactDict ∧ o.data = .dict en ep ∧ en.toList = xs.map (entryN w) ∧ (xs.map (·.1)).Nodup
structure NestOk (K : KW) (H : Hp) (loc : List Addr) (es : NE) (ws : List (W × W)) : Prop where
  keys : es.map (fun e => some e.1) = ws.map (fun p => keyN p.1)
  dep : ∀ e ∈ es, e.1.depth ≤ 8
  ks : Rds K H loc (es.map fun e => V.ref e.2.1) (ws.map (·.1))
  vs : Rds K H loc (es.map fun e => e.2.2) (ws.map (·.2))
theorem NestOk.mono {es : NE} {ws : List (W × W)} (e : Ext K H H') (l : loc <+: loc') (h : NestOk K H loc es ws) : NestOk K H' loc' es ws := ⟨h.keys, h.dep, h.ks.mono e l, h.vs.mono e l⟩
structure FlatOk (K : KW) (H : Hp) (loc : List Addr) (kvs : List (Key × V)) (ws : List (W × W)) : Prop where
  keys : kvs.map (fun p => keyW p.1) = ws.map (·.1)
  ok : ∀ p ∈ kvs, KeyOk p.1
  vs : Rds K H loc (kvs.map (·.2)) (ws.map (·.2))
theorem FlatOk.mono {kvs : List (Key × V)} {ws : List (W × W)} (e : Ext K H H') (l : loc <+: loc') (h : FlatOk K H loc kvs ws) : FlatOk K H' loc' kvs ws := ⟨h.keys, h.ok, h.vs.mono e l⟩
def MOk (K : KW) (H : Hp) (loc : List Addr) (a : Addr) : MO → Prop
  | .lst ws => ∃ xs, H a = some (.lst xs) ∧ Rds K H loc xs ws
  | .ro ws => ∃ xs, RO K H a xs ∧ Rds K H loc xs ws
  | .dK ws => ∃ kvs : List (Key × V), H a = some (.dK kvs) ∧ kvs.map (fun p => keyW p.1) = ws.map (·.1) ∧ (∀ p ∈ kvs, KeyOk p.1) ∧ Rds K H loc (kvs.map (·.2)) (ws.map (·.2))
  | .dT .nest ws => ∃ es, H a = some (nestO K.wd a es) ∧ NestOk K H loc es ws
  | .dT .lockF ws => ∃ o kvs, H a = some (.frz o (.dK kvs)) ∧ FlatOk K H loc kvs ws
  | .dT .lockN ws => ∃ o es, H a = some (.frz o (nestO K.wd a es)) ∧ NestOk K H loc es ws
/-- written while it stands so -/
def isMut : MO → Bool
  | .ro _ => false
  | .dT .lockF _ => false
  | .dT .lockN _ => false
  | _ => true
/-- one id alone for it -/
def isOwn : MO → Bool
  | .ro _ => false
  | _ => true
theorem own_of {mo : MO} (h : isMut mo = true) : isOwn mo = true := by
  cases mo with
  | ro _ => cases h
  | _ => rfl
structure Store (K : KW) (H : Hp) (loc : List Addr) (M : Mem) : Prop where
  len : loc.length = M.length
  ok : ∀ (i : Nat) (a : Addr) (mo : MO), loc[i]? = some a → M[i]? = some mo → MOk K H loc a mo
  apart : ∀ (i j : Nat) (a : Addr) (m n : MO), loc[i]? = some a → loc[j]? = some a → M[i]? = some m → M[j]? = some n → isOwn m = true → isOwn n = true → i = j
theorem Store.at {M : Mem} (s : Store K H loc M) {i : Nat} {mo : MO} (h : M[i]? = some mo) : ∃ a, loc[i]? = some a ∧ MOk K H loc a mo := by
  have hi : i < loc.length := by rw [s.len]; exact (List.getElem?_eq_some_iff.mp h).1
  exact ⟨loc[i], List.getElem?_eq_getElem hi, s.ok i _ mo (List.getElem?_eq_getElem hi) h⟩
theorem RO.same {a : Addr} {xs : List V} (h : RO K H a xs) (hH : ∀ o, H a = some (.frz o (.lst xs)) → H' a = some (.frz o (.lst xs))) : RO K H' a xs := by
  rcases h with ⟨o, h⟩ | h
  · exact .inl ⟨o, hH o h⟩
  · exact .inr h
theorem MOk.mono {a : Addr} {mo : MO} (e : Ext K H H') (l : loc <+: loc') (hH : ∀ o, H a = some o → H' a = some o) (h : MOk K H loc a mo) : MOk K H' loc' a mo := by
  cases mo with
  | lst ws => obtain ⟨xs, h1, h2⟩ := h; exact ⟨xs, hH _ h1, h2.mono e l⟩
  | ro ws => obtain ⟨xs, h1, h2⟩ := h; exact ⟨xs, h1.same fun o q => hH _ q, h2.mono e l⟩
  | dK ws => obtain ⟨kvs, h1, h2, h3, h4⟩ := h; exact ⟨kvs, hH _ h1, h2, h3, h4.mono e l⟩
  | dT m ws =>
    cases m with
    | nest => obtain ⟨es, h1, h2⟩ := h; exact ⟨es, hH _ h1, h2.mono e l⟩
    | lockF => obtain ⟨o, es, h1, h2⟩ := h; exact ⟨o, es, hH _ h1, h2.mono e l⟩
    | lockN => obtain ⟨o, es, h1, h2⟩ := h; exact ⟨o, es, hH _ h1, h2.mono e l⟩
/-- a mutable thing is tracked as such -/
theorem MOk.there {a : Addr} {mo : MO} (m : isMut mo = true) (h : MOk K H loc a mo) : ∃ o, H a = some o ∧ Mut (some o) := by
  cases mo with
  | lst ws => obtain ⟨xs, h1, h2⟩ := h; exact ⟨_, h1, trivial⟩
  | ro ws => cases m
  | dK ws => obtain ⟨kvs, h1, _⟩ := h; exact ⟨_, h1, trivial⟩
  | dT q ws =>
    cases q with
    | nest => obtain ⟨es, h1, h2⟩ := h; exact ⟨_, h1, trivial⟩
    | lockF => cases m
    | lockN => cases m
theorem MOk.thereO {a : Addr} {mo : MO} (m : isOwn mo = true) (h : MOk K H loc a mo) : ∃ o, H a = some o := by
  cases mo with
  | lst ws => obtain ⟨xs, h1, h2⟩ := h; exact ⟨_, h1⟩
  | ro ws => cases m
  | dK ws => obtain ⟨kvs, h1, _⟩ := h; exact ⟨_, h1⟩
  | dT q ws =>
    cases q with
    | nest => obtain ⟨es, h1, h2⟩ := h; exact ⟨_, h1⟩
    | lockF => obtain ⟨o, es, h1, h2⟩ := h; exact ⟨_, h1⟩
    | lockN => obtain ⟨o, es, h1, h2⟩ := h; exact ⟨_, h1⟩
theorem ro_of {mo : MO} (h : isOwn mo = false) : isMut mo = false := by
  cases mo with
  | ro _ => rfl
  | _ => cases h
/-- what nobody writes stands while mutable things change -/
theorem MOk.calm {a : Addr} {mo : MO} {u v : HO} (z : isMut mo = false) (hu : H a = some u) (mu : Mut (some u)) (h : MOk K H loc a mo) : MOk K (upd H a v) loc a mo := by
  cases mo with
  | lst _ => cases z
  | ro ws =>
    obtain ⟨xs, r1, r2⟩ := h
    rcases r1 with ⟨o, r1⟩ | r1
    · rw [hu] at r1; cases r1; exact mu.elim
    · exact ⟨xs, .inr r1, r2.mono (.upd hu mu) (List.prefix_refl _)⟩
  | dK _ => cases z
  | dT q ws =>
    cases q with
    | nest => cases z
    | lockF => obtain ⟨o, es, r1, _⟩ := h; rw [hu] at r1; cases r1; exact mu.elim
    | lockN => obtain ⟨o, es, r1, _⟩ := h; rw [hu] at r1; cases r1; exact mu.elim
theorem Store.ext {M : Mem} (s : Store K H loc M) (e : Ext K H H') (hH : ∀ a o, H a = some o → H' a = some o) : Store K H' loc M :=
  ⟨s.len, fun i a mo h1 h2 => (s.ok i a mo h1 h2).mono e (List.prefix_refl _) (hH a), s.apart⟩
/-- a tuple is laid -/
theorem Store.newT {M : Mem} {p : Addr} {o : HO} (s : Store K H loc M) (hp : H p = none) : Store K (upd H p o) loc M :=
  s.ext (.new hp) fun a u h => by rw [upd_ne (ne_of_none h hp)]; exact h
/-- a list is laid -/
theorem Store.new {M : Mem} {p : Addr} {o : HO} {mo : MO} (s : Store K H loc M) (hp : H p = none) (hm : MOk K (upd H p o) (loc ++ [p]) p mo) : Store K (upd H p o) (loc ++ [p]) (M ++ [mo]) := by
  have hlt : ∀ {i : Nat} {a : Addr} {m : MO}, (loc ++ [p])[i]? = some a → (M ++ [mo])[i]? = some m → (loc[i]? = some a ∧ M[i]? = some m) ∨ (i = M.length ∧ a = p ∧ m = mo) := fun {i a m} h1 h2 => by
    by_cases hi : i < M.length
    · rw [List.getElem?_append_left (by rw [s.len]; exact hi)] at h1
      rw [List.getElem?_append_left hi] at h2
      exact .inl ⟨h1, h2⟩
    · rw [List.getElem?_append_right (by rw [s.len]; omega)] at h1
      rw [List.getElem?_append_right (by omega)] at h2
      have e := (List.getElem?_eq_some_iff.mp h2).1
      simp only [List.length_cons, List.length_nil] at e
      have e0 : i = M.length := by omega
      subst e0
      rw [s.len] at h1
      simp at h1 h2
      exact .inr ⟨rfl, h1.symm, h2.symm⟩
  refine ⟨by simp [s.len], fun i a m h1 h2 => ?_, fun i j a m n h1 h2 h3 h4 m1 m2 => ?_⟩
  · rcases hlt h1 h2 with ⟨h1, h2⟩ | ⟨_, rfl, rfl⟩
    · exact (s.ok i a m h1 h2).mono (.new hp) (List.prefix_append _ _) fun o h => by rw [upd_ne (ne_of_none h hp)]; exact h
    · exact hm
  · rcases hlt h1 h3 with ⟨g1, g3⟩ | ⟨e1, e2, _⟩
    · rcases hlt h2 h4 with ⟨g2, g4⟩ | ⟨_, e2, _⟩
      · exact s.apart i j a m n g1 g2 g3 g4 m1 m2
      · obtain ⟨o, q⟩ := (s.ok i a m g1 g3).thereO m1
        rw [e2, hp] at q; cases q
    · rcases hlt h2 h4 with ⟨g2, g4⟩ | ⟨e3, _, _⟩
      · obtain ⟨o, q⟩ := (s.ok j a n g2 g4).thereO m2
        rw [e2, hp] at q; cases q
      · rw [e1, e3]
/-- a mutable thing is changed -/
theorem Store.put0 {M : Mem} {i : Nat} {a : Addr} {m mo : MO} {o : HO} (s : Store K H loc M) (h1 : loc[i]? = some a) (h2 : M[i]? = some m) (m1 : isMut m = true) (hm : MOk K (upd H a o) loc a mo) : Store K (upd H a o) loc (M.set i mo) := by
  obtain ⟨u, hu, mu⟩ := (s.ok i a m h1 h2).there m1
  have hi : i < M.length := (List.getElem?_eq_some_iff.mp h2).1
  refine ⟨by simp [s.len], fun j b n q1 q2 => ?_, fun j k b m' n' q1 q2 q3 q4 z1 z2 => ?_⟩
  · by_cases e : i = j
    · subst e
      rw [List.getElem?_set_self hi] at q2
      cases q2
      rw [h1] at q1; cases q1
      exact hm
    · rw [List.getElem?_set_ne e] at q2
      have hb := s.ok j b n q1 q2
      have en : b ≠ a ∨ (isOwn n = false ∧ b = a) := by
        by_cases eb : b = a
        · subst eb
          refine .inr ⟨?_, rfl⟩
          cases z : isOwn n with
          | false => rfl
          | true => exact absurd (s.apart i j b m n h1 q1 h2 q2 (own_of m1) z) e
        · exact .inl eb
      rcases en with en | ⟨z, rfl⟩
      · exact hb.mono (.upd hu mu) (List.prefix_refl _) fun o h => by rw [upd_ne en]; exact h
      · exact hb.calm (ro_of z) hu mu
  · have wt : ∀ {x : Nat} {b : Addr} {y : MO}, (M.set i mo)[x]? = some y → isOwn y = true → ∃ y', M[x]? = some y' ∧ isOwn y' = true := fun {x b y} q z => by
      by_cases e : i = x
      · subst e; exact ⟨m, h2, own_of m1⟩
      · rw [List.getElem?_set_ne e] at q; exact ⟨y, q, z⟩
    obtain ⟨y1, w1, w2⟩ := wt (b := b) q3 z1
    obtain ⟨y2, w3, w4⟩ := wt (b := b) q4 z2
    exact s.apart j k b y1 y2 q1 q2 w1 w3 w2 w4

theorem Store.put {M : Mem} {i : Nat} {a : Addr} {m mo : MO} {o : HO} (s : Store K H loc M) (h1 : loc[i]? = some a) (h2 : M[i]? = some m) (m1 : isMut m = true) (m2 : isMut mo = true) (hm : MOk K (upd H a o) loc a mo) : Store K (upd H a o) loc (M.set i mo) := s.put0 h1 h2 m1 hm

structure Rel (K : KW) (loc : List Addr) (σ : Sl) (M : Mem) (σV : L2.St) (H : Hp) : Prop where
  st : Store K H loc M
  len : σ.length = σV.length
  sl : ∀ (i : Nat) (w : W), σ[i]? = some (some w) → ∃ v, σV[i]? = some (some v) ∧ Rd K H loc v w
theorem Rel.move {σ : Sl} {M M' : Mem} {σV : L2.St} (r : Rel K loc σ M σV H) (s : Store K H' loc' M') (e : Ext K H H') (l : loc <+: loc') : Rel K loc' σ M' σV H' :=
  ⟨s, r.len, fun i w h => by
    obtain ⟨v, h1, h2⟩ := r.sl i w h
    exact ⟨v, h1, h2.mono e l⟩⟩
theorem Rel.set {σ : Sl} {M : Mem} {σV : L2.St} (r : Rel K loc σ M σV H) {v : V} {w : W} (h : Rd K H loc v w) (i : Nat) : Rel K loc (σ.set i (some w)) M (σV.set i (some v)) H :=
  ⟨r.st, by rw [List.length_set, List.length_set]; exact r.len, fun j u e => by
    by_cases hij : i = j
    · subst hij
      have hi : i < σ.length := by have := (List.getElem?_eq_some_iff.mp e).1; simpa using this
      rw [List.getElem?_set_self hi] at e
      cases e
      exact ⟨v, by rw [List.getElem?_set_self (by rw [← r.len]; exact hi)], h⟩
    · rw [List.getElem?_set_ne hij] at e
      rw [List.getElem?_set_ne hij]
      exact r.sl j u e⟩
theorem Rel.unset {σ : Sl} {M : Mem} {σV : L2.St} (r : Rel K loc σ M σV H) (i : Nat) : Rel K loc (σ.set i none) M (σV.set i none) H :=
  ⟨r.st, by rw [List.length_set, List.length_set]; exact r.len, fun j u e => by
    by_cases hij : i = j
    · subst hij
      by_cases hi : i < σ.length
      · rw [List.getElem?_set_self hi] at e; cases e
      · rw [List.getElem?_eq_none (by simpa using hi)] at e; cases e
    · rw [List.getElem?_set_ne hij] at e
      rw [List.getElem?_set_ne hij]
      exact r.sl j u e⟩
theorem Rel.wipe {σ : Sl} {M : Mem} {σV : L2.St} (r : Rel K loc σ M σV H) : ∀ vs : List Nat, Rel K loc (wipe σ vs) M (L2.wipe σV vs) H
  | [] => r
  | v :: vs => (Rel.wipe r vs).unset v
end

/-! ### the readings -/
/-- what is wanted behind an expression -/
def Aft (K : KW) (H : Hp) (loc : List Addr) (w : W) (M' : Mem) (Q : VK) : Prop :=
  ∀ v H' loc', Store K H' loc' M' → Rd K H' loc' v w → Ext K H H' → loc <+: loc' → Q v H'
def TC (K : KW) (c : CE) : TE := fun σV H Q => ∃ loc σ M w M', Rel K loc σ M σV H ∧ c σ M = some (w, M') ∧ Aft K H loc w M' Q
def TA' (K : KW) (c : CA) : TA := fun σV H Q => ∃ loc σ M ws M', Rel K loc σ M σV H ∧ c σ M = some (ws, M') ∧
  ∀ vs H' loc', Store K H' loc' M' → Rds K H' loc' vs ws → Ext K H H' → loc <+: loc' → Q vs H'
def TT' (K : KW) (c : CT) : TT := fun σV H Q => ∃ loc σ M b M', Rel K loc σ M σV H ∧ c σ M = some (b, M') ∧
  ∀ H' loc', Store K H' loc' M' → Ext K H H' → loc <+: loc' → Q b H'
def TG' (K : KW) (c : CG) : TG := fun v σV H Q => ∃ loc σ M w σ', Rel K loc σ M σV H ∧ Rd K H loc v w ∧ c w σ = some σ' ∧ ∀ σV', Rel K loc σ' M σV' H → Q σV' H
def TGs' (K : KW) (c : List CG) : TGs := fun vs σV H Q => ∃ loc σ M ws σ', Rel K loc σ M σV H ∧ Rds K H loc vs ws ∧ gAll c ws σ = some σ' ∧ ∀ σV', Rel K loc σ' M σV' H → Q σV' H
def AftS (K : KW) (H : Hp) (loc : List Addr) (D : Ends) : Out → Prop
  | .nx σ' M' => ∀ σV' H' loc', Rel K loc' σ' M' σV' H' → Ext K H H' → loc <+: loc' → D.nx σV' H'
  | .bk σ' M' => ∀ σV' H' loc', Rel K loc' σ' M' σV' H' → Ext K H H' → loc <+: loc' → D.bk σV' H'
  | .ct σ' M' => ∀ σV' H' loc', Rel K loc' σ' M' σV' H' → Ext K H H' → loc <+: loc' → D.ct σV' H'
  | .rt w M' => Aft K H loc w M' D.rt
def TS' (K : KW) (c : CS) : TS := fun D σV H => ∃ loc σ M o, Rel K loc σ M σV H ∧ c σ M = some o ∧ AftS K H loc D o

abbrev EV (X : Cx) (e : Expr) (c : CE) : Prop := PE X e (TC X.KW c)
abbrev EA (X : Cx) (es : List Expr) (c : List CE) : Prop := PA X es (TA' X.KW (eArgs c))
abbrev ET (X : Cx) (e : Expr) (c : CT) : Prop := PT X e (TT' X.KW c)
abbrev EW (X : Cx) (e : Expr) (c : CT) : Prop := PW X e (TT' X.KW c)
abbrev EG (X : Cx) (e : Expr) (c : CG) : Prop := PG X e (TG' X.KW c)
abbrev EGs (X : Cx) (es : List Expr) (c : List CG) : Prop := PGs X es (TGs' X.KW c)
abbrev ES (X : Cx) (s : Stmt) (c : CS) : Prop := PS X s (TS' X.KW c)
abbrev ESs (X : Cx) (s : List Stmt) (c : CS) : Prop := PSs X s (TS' X.KW c)

theorem _root_.L2.PE.mono {X : Cx} {e : Expr} {t t' : TE} (h : PE X e t) (f : ∀ σ H Q, t' σ H Q → t σ H Q) : PE X e t' := ⟨fun p s σ H Q I q => h.run p s σ H Q I (f σ H Q q)⟩
theorem _root_.L2.PA.mono {X : Cx} {e : List Expr} {t t' : TA} (h : PA X e t) (f : ∀ σ H Q, t' σ H Q → t σ H Q) : PA X e t' := ⟨fun o p s σ H Q I q => h.run o p s σ H Q I (f σ H Q q)⟩
theorem _root_.L2.PT.mono {X : Cx} {e : Expr} {t t' : TT} (h : PT X e t) (f : ∀ σ H Q, t' σ H Q → t σ H Q) : PT X e t' := ⟨fun p s σ H Q I q => h.run p s σ H Q I (f σ H Q q)⟩
theorem _root_.L2.PW.mono {X : Cx} {e : Expr} {t t' : TT} (h : PW X e t) (f : ∀ σ H Q, t' σ H Q → t σ H Q) : PW X e t' := ⟨fun o p s σ H Q I q => h.run o p s σ H Q I (f σ H Q q)⟩
theorem _root_.L2.PG.mono {X : Cx} {e : Expr} {t t' : TG} (h : PG X e t) (f : ∀ v σ H Q, t' v σ H Q → t v σ H Q) : PG X e t' := ⟨fun p s σ H v u Q I r q => h.run p s σ H v u Q I r (f v σ H Q q)⟩
theorem _root_.L2.PGs.mono {X : Cx} {e : List Expr} {t t' : TGs} (h : PGs X e t) (f : ∀ v σ H Q, t' v σ H Q → t v σ H Q) : PGs X e t' := ⟨fun p s σ H v u Q I r q => h.run p s σ H v u Q I r (f v σ H Q q)⟩
theorem _root_.L2.PS.mono {X : Cx} {e : Stmt} {t t' : TS} (h : PS X e t) (f : ∀ D σ H, t' D σ H → t D σ H) : PS X e t' := ⟨fun p s σ H D I q => h.run p s σ H D I (f D σ H q)⟩
theorem _root_.L2.PSs.mono {X : Cx} {e : List Stmt} {t t' : TS} (h : PSs X e t) (f : ∀ D σ H, t' D σ H → t D σ H) : PSs X e t' := ⟨fun p s σ H D I q => h.run p s σ H D I (f D σ H q)⟩
end BF

set_option Elab.async false
set_option linter.all false
set_option autoImplicit false
set_option maxRecDepth 100000
/-! The rules: expressions, tests, targets, statements. -/
namespace BF
open PySem PySem.Spec
open PyProof.Rows L2

section
variable {X : Cx} {a b c e : Expr} {ca cb cc : CE} {pos : Pos}

/-! ### names, constants -/
theorem bind_some {α β : Type} {x : Option α} {f : α → Option β} {b : β} (h : x.bind f = some b) : ∃ a, x = some a ∧ f a = some b := Option.bind_eq_some_iff.mp h
theorem r_var (i : Nat) {x : Str} (hN : X.N[i]? = some x := by rfl)
    (hv : Vis X.env.scope x := by first | exact Or.inl rfl | exact Or.inr (Or.inl rfl) | exact Or.inr (Or.inr rfl))
    (hd : (x == ("__debug__" : Str)) = false := by decide) (hcd : (x == ("__classdict__" : Str)) = false := by decide) : EV X (.Name x pos) (eV i) :=
  (pe_var hN hv hd hcd).mono fun σV H Q ⟨loc, σ, M, w, M', rel, e, aft⟩ => by
    have h : σ.getD i none = some w ∧ M' = M := by
      unfold eV at e
      split at e
      · rename_i u hu; cases e; exact ⟨hu, rfl⟩
      · cases e
    obtain ⟨h, rfl⟩ := h
    have h' : σ[i]? = some (some w) := by
      rw [List.getD_eq_getElem?_getD] at h
      cases q : σ[i]? with
      | none => rw [q] at h; cases h
      | some z => rw [q] at h; exact congrArg some h
    obtain ⟨v, h1, h2⟩ := rel.sl i w h'
    exact ⟨v, h1, aft v H loc rel.st h2 .refl (List.prefix_refl _)⟩
theorem lit_aux {v : V} {w : W} (hr : ∀ H loc, Rd X.KW H loc v w) (h : PE X e (tC v)) : EV X e (eL w) :=
  h.mono fun σV H Q ⟨loc, σ, M, u, M', rel, e, aft⟩ => by
    cases e
    exact aft v H loc rel.st (hr H loc) .refl (List.prefix_refl _)
theorem r_int {i : Int} {j} : EV X (.Constant (.int i) j pos) (eL (.int i)) := lit_aux (fun _ _ => .int i) pe_int
theorem r_bl {i : Bool} {j} : EV X (.Constant (.bool i) j pos) (eL (.bl i)) := lit_aux (fun _ _ => .bl i) pe_bl
theorem r_non {j} : EV X (.Constant .none j pos) (eL .non) := lit_aux (fun _ _ => .non) pe_non
theorem r_str {x : Str} {j} (h : PyData.strOk x = true := by decide +kernel) (h2 : x.length ≤ 16777216 := by decide +kernel) : EV X (.Constant (.str x) j pos) (eL (.str x)) := lit_aux (fun _ _ => .str x h h2) pe_str

/-! ### two operands -/
def Lift1 (K : KW) (r : V → Hp → VK → Prop) (g : Mem → W → Option (W × Mem)) : Prop :=
  ∀ (H : Hp) (loc : List Addr) (M : Mem) (x : W) (v : V) (w : W) (M' : Mem) (Q : VK), Store K H loc M → Rd K H loc v x → g M x = some (w, M') → Aft K H loc w M' Q → r v H Q
def Lift2 (K : KW) (r : R2) (g : Mem → W → W → Option (W × Mem)) : Prop :=
  ∀ (H : Hp) (loc : List Addr) (M : Mem) (x y : W) (v u : V) (w : W) (M' : Mem) (Q : VK), Store K H loc M → Rd K H loc v x → Rd K H loc u y → g M x y = some (w, M') → Aft K H loc w M' Q → r v u H Q
theorem Aft.after {K : KW} {H H1 : Hp} {loc loc1 : List Addr} {w : W} {M' : Mem} {Q : VK} (h : Aft K H loc w M' Q) (e : Ext K H H1) (l : loc <+: loc1) : Aft K H1 loc1 w M' Q :=
  fun v H' loc' s r e' l' => h v H' loc' s r (e.trans e') (l.trans l')
theorem AftS.after {K : KW} {H H1 : Hp} {loc loc1 : List Addr} {o : Out} {D : Ends} (h : AftS K H loc D o) (e : Ext K H H1) (l : loc <+: loc1) : AftS K H1 loc1 D o := by
  cases o with
  | nx σ' M' => exact fun σV' H' loc' r e' l' => h σV' H' loc' r (e.trans e') (l.trans l')
  | bk σ' M' => exact fun σV' H' loc' r e' l' => h σV' H' loc' r (e.trans e') (l.trans l')
  | ct σ' M' => exact fun σV' H' loc' r e' l' => h σV' H' loc' r (e.trans e') (l.trans l')
  | rt w M' => exact Aft.after (K := K) h e l
/-- run a: then what follows -/
theorem run1 {K : KW} {σV : L2.St} {H : Hp} {loc : List Addr} {σ : Sl} {M : Mem} {p : W × Mem} {Q : VK} (rel : Rel K loc σ M σV H) (ha : ca σ M = some p)
    (h : ∀ v H1 loc1, Rel K loc1 σ p.2 σV H1 → Rd K H1 loc1 v p.1 → Ext K H H1 → loc <+: loc1 → Q v H1) : TC K ca σV H Q :=
  ⟨loc, σ, M, p.1, p.2, rel, ha, fun v H1 loc1 s r e l => h v H1 loc1 (rel.move s e l) r e l⟩
theorem op2 {r : R2} {g : Mem → W → W → Option (W × Mem)} (hl : Lift2 X.KW r g) (σV : L2.St) (H : Hp) (Q : VK) (h : TC X.KW (e2 g ca cb) σV H Q) : tOp r (TC X.KW ca) (TC X.KW cb) σV H Q := by
  obtain ⟨loc, σ, M, w, M', rel, e, aft⟩ := h
  obtain ⟨p, hp, e⟩ := bind_some e
  obtain ⟨q, hq, e⟩ := bind_some e
  refine run1 rel hp fun v H1 loc1 rel1 rd1 ex1 l1 => run1 rel1 hq fun u H2 loc2 rel2 rd2 ex2 l2 => ?_
  exact hl H2 loc2 q.2 p.1 q.1 v u w M' Q rel2.st (rd1.mono ex2 l2) rd2 e (aft.after (ex1.trans ex2) (l1.trans l2))
theorem r_op {op : Operator} {r : R2} {g : Mem → W → W → Option (W × Mem)} (ho : OpR X (binaryOp op) r) (hl : Lift2 X.KW r g) (ha : EV X a ca) (hb : EV X b cb) : EV X (.BinOp a op b pos) (e2 g ca cb) :=
  (pe_op ho ha hb).mono (op2 hl)
theorem r_un {op : UnaryOp} {r : V → Hp → VK → Prop} {g : Mem → W → Option (W × Mem)} (ho : UnR X (unaryOp op) r) (hl : Lift1 X.KW r g) (ha : EV X a ca) : EV X (.UnaryOp op a pos) (e1 g ca) :=
  (pe_un ho ha).mono fun σV H Q ⟨loc, σ, M, w, M', rel, e, aft⟩ => by
    obtain ⟨p, hp, e⟩ := bind_some e
    exact run1 rel hp fun v H1 loc1 rel1 rd1 ex1 l1 => hl H1 loc1 p.2 p.1 v w M' Q rel1.st rd1 e (aft.after ex1 l1)
theorem r_cmp {op : CmpOp} {r : R2} {g : Mem → W → W → Option (W × Mem)} (ho : OpR X (compareOp op) r) (hl : Lift2 X.KW r g) (ha : EV X a ca) (hb : EV X b cb) (hm : behindInMarks op b = false) : EV X (.Compare a [op] [b] pos) (e2 g ca cb) :=
  (pe_cmpR ho ha hb hm).mono (op2 hl)
theorem tb_aux {t : TE} {cv : CE} (hl : ∀ σV H Q, TC X.KW cv σV H Q → t σV H Q) (σV : L2.St) (H : Hp) (Q : Bool → Hp → Prop) (h : TT' X.KW (tB cv) σV H Q) :
    t σV H (fun x H' => ∃ k, x = V.bl k ∧ Q k H') := by
  obtain ⟨loc, σ, M, k, M', rel, e, aft⟩ := h
  obtain ⟨p, hp, e⟩ := bind_some e
  refine hl _ _ _ (run1 rel hp fun v H1 loc1 rel1 rd1 ex1 l1 => ?_)
  split at e
  · rename_i d hd
    cases e
    rw [hd] at rd1
    cases rd1
    exact ⟨_, rfl, aft H1 loc1 rel1.st ex1 l1⟩
  · cases e
theorem t_cmp {op : CmpOp} {r : R2} {g : Mem → W → W → Option (W × Mem)} (ho : OpR X (compareOp op) r) (hl : Lift2 X.KW r g) (ha : EV X a ca) (hb : EV X b cb) (hm : behindInMarks op b = false) : ET X (.Compare a [op] [b] pos) (tB (e2 g ca cb)) :=
  (pt_cmpR ho ha hb hm).mono (tb_aux (op2 hl))
/-- a test that is a plain value (a call, a name) -/
theorem t_val (ha : EV X a ca) (he : ∀ whole, isTrue a X.env whole = (do let v ← whole; standAt a.pos; holding [v] (truthy v)) := by intro _; rfl) : ET X a (tB ca) :=
  (pt_val ha he).mono (tb_aux fun _ _ _ h => h)
theorem isN_of {K : KW} {H : Hp} {loc : List Addr} {v : V} {w : W} (r : Rd K H loc v w) : decide (v = V.non) = isN w := by
  cases r <;> simp [isN]
theorem isN_aux (σV : L2.St) (H : Hp) (Q : VK) (h : TC X.KW (e1 gIsN ca) σV H Q) : tIsN (TC X.KW ca) σV H Q := by
  obtain ⟨loc, σ, M, w, M', rel, e, aft⟩ := h
  obtain ⟨p, hp, e⟩ := bind_some e
  refine run1 rel hp fun v H1 loc1 rel1 rd1 ex1 l1 => ?_
  cases e
  rw [isN_of rd1]
  exact aft _ H1 loc1 rel1.st (.bl _) ex1 l1
theorem notN_aux (σV : L2.St) (H : Hp) (Q : VK) (h : TC X.KW (e1 gNotN ca) σV H Q) : tNotN (TC X.KW ca) σV H Q := by
  obtain ⟨loc, σ, M, w, M', rel, e, aft⟩ := h
  obtain ⟨p, hp, e⟩ := bind_some e
  refine run1 rel hp fun v H1 loc1 rel1 rd1 ex1 l1 => ?_
  cases e
  rw [isN_of rd1]
  exact aft _ H1 loc1 rel1.st (.bl _) ex1 l1
theorem r_isN {j pos'} (ha : EV X a ca) : EV X (.Compare a [.Is] [.Constant .none j pos'] pos) (e1 gIsN ca) := (pe_cmp (pc_isN ha)).mono isN_aux
theorem r_notN {j pos'} (ha : EV X a ca) : EV X (.Compare a [.IsNot] [.Constant .none j pos'] pos) (e1 gNotN ca) := (pe_cmp (pc_notN ha)).mono notN_aux
theorem t_isN {j pos'} (ha : EV X a ca) : ET X (.Compare a [.Is] [.Constant .none j pos'] pos) (tB (e1 gIsN ca)) := (pt_cmp (pc_isN ha)).mono (tb_aux isN_aux)
theorem t_notN {j pos'} (ha : EV X a ca) : ET X (.Compare a [.IsNot] [.Constant .none j pos'] pos) (tB (e1 gNotN ca)) := (pt_cmp (pc_notN ha)).mono (tb_aux notN_aux)
theorem chain_aux {r r' : R2} {g g' : Mem → W → W → Option (W × Mem)} (hl : Lift2 X.KW r g) (hl' : Lift2 X.KW r' g') (σV : L2.St) (H : Hp) (Q : VK) (h : TC X.KW (eChain g g' ca cb cc) σV H Q) :
    tChain r r' (TC X.KW ca) (TC X.KW cb) (TC X.KW cc) σV H Q := by
  obtain ⟨loc, σ, M, w, M', rel, e, aft⟩ := h
  obtain ⟨p, hp, e⟩ := bind_some e
  obtain ⟨q, hq, e⟩ := bind_some e
  obtain ⟨z, hz, e⟩ := bind_some e
  refine run1 rel hp fun v H1 loc1 rel1 rd1 ex1 l1 => run1 rel1 hq fun u H2 loc2 rel2 rd2 ex2 l2 => ?_
  refine hl H2 loc2 q.2 p.1 q.1 v u z.1 z.2 _ rel2.st (rd1.mono ex2 l2) rd2 hz fun x H3 loc3 s3 rd3 ex3 l3 => ?_
  have rel3 := rel2.move s3 ex3 l3
  split at e
  · rename_i hz1
    rw [hz1] at rd3
    cases rd3
    refine ⟨_, rfl, ?_⟩
    rw [if_pos rfl]
    obtain ⟨t, ht, e⟩ := bind_some e
    refine run1 rel3 ht fun y H4 loc4 rel4 rd4 ex4 l4 => ?_
    exact hl' H4 loc4 t.2 q.1 t.1 u y w M' Q rel4.st (rd2.mono (ex3.trans ex4) (l3.trans l4)) rd4 e (aft.after (((ex1.trans ex2).trans ex3).trans ex4) (((l1.trans l2).trans l3).trans l4))
  · rename_i hz1
    rw [hz1] at rd3
    cases rd3
    refine ⟨_, rfl, ?_⟩
    rw [if_neg Bool.false_ne_true]
    cases e
    exact aft _ H3 loc3 s3 (.bl _) ((ex1.trans ex2).trans ex3) ((l1.trans l2).trans l3)
  · cases e
theorem r_chain {op op' : CmpOp} {r r' : R2} {g g' : Mem → W → W → Option (W × Mem)} (ho : OpR X (compareOp op) r) (hl : Lift2 X.KW r g) (ho' : OpR X (compareOp op') r') (hl' : Lift2 X.KW r' g') (ha : EV X a ca) (hb : EV X b cb) (hc : EV X c cc)
    (hm : lastMarks [op, op'] [b, c] = false := by with_unfolding_all rfl) : EV X (.Compare a [op, op'] [b, c] pos) (eChain g g' ca cb cc) := (pe_chain ho ho' ha hb hc hm).mono (chain_aux hl hl')
theorem t_chain {op op' : CmpOp} {r r' : R2} {g g' : Mem → W → W → Option (W × Mem)} (ho : OpR X (compareOp op) r) (hl : Lift2 X.KW r g) (ho' : OpR X (compareOp op') r') (hl' : Lift2 X.KW r' g') (ha : EV X a ca) (hb : EV X b cb) (hc : EV X c cc)
    (hm : lastMarks [op, op'] [b, c] = false := by with_unfolding_all rfl) : ET X (.Compare a [op, op'] [b, c] pos) (tB (eChain g g' ca cb cc)) := (pt_chain ho ho' ha hb hc hm).mono (tb_aux (chain_aux hl hl'))

/-! ### and, or, not, if -/
variable {tA tB' : CT} {rest : List Expr}
/-- run a test -/
theorem runT {K : KW} {σV : L2.St} {H : Hp} {loc : List Addr} {σ : Sl} {M : Mem} {p : Bool × Mem} {Q : Bool → Hp → Prop} (rel : Rel K loc σ M σV H) (ha : tA σ M = some p)
    (h : ∀ H1 loc1, Rel K loc1 σ p.2 σV H1 → Ext K H H1 → loc <+: loc1 → Q p.1 H1) : TT' K tA σV H Q :=
  ⟨loc, σ, M, p.1, p.2, rel, ha, fun H1 loc1 s e l => h H1 loc1 (rel.move s e l) e l⟩
theorem w_one {op} (ha : ET X a tA) : EW X (.BoolOp op [a] pos) tA := by
  cases op with
  | And => exact pw_and1 ha
  | Or => exact pw_or1 ha
theorem w_and (ha : ET X a tA) (hb : EW X (.BoolOp .And (b :: rest) pos) tB') : EW X (.BoolOp .And (a :: b :: rest) pos) (tAnd tA tB') :=
  (pw_and ha hb).mono fun σV H Q ⟨loc, σ, M, k, M', rel, e, aft⟩ => by
    obtain ⟨p, hp, e⟩ := bind_some e
    refine runT rel hp fun H1 loc1 rel1 ex1 l1 => ?_
    split at e
    · rename_i hc
      rw [if_pos hc]
      exact runT (p := (k, M')) rel1 e fun H2 loc2 rel2 ex2 l2 => aft H2 loc2 rel2.st (ex1.trans ex2) (l1.trans l2)
    · rename_i hc
      rw [if_neg hc]
      cases e
      exact aft H1 loc1 rel1.st ex1 l1
theorem w_or (ha : ET X a tA) (hb : EW X (.BoolOp .Or (b :: rest) pos) tB') : EW X (.BoolOp .Or (a :: b :: rest) pos) (tOr tA tB') :=
  (pw_or ha hb).mono fun σV H Q ⟨loc, σ, M, k, M', rel, e, aft⟩ => by
    obtain ⟨p, hp, e⟩ := bind_some e
    refine runT rel hp fun H1 loc1 rel1 ex1 l1 => ?_
    split at e
    · rename_i hc
      rw [if_pos hc]
      cases e
      exact aft H1 loc1 rel1.st ex1 l1
    · rename_i hc
      rw [if_neg hc]
      exact runT (p := (k, M')) rel1 e fun H2 loc2 rel2 ex2 l2 => aft H2 loc2 rel2.st (ex1.trans ex2) (l1.trans l2)
theorem t_w (h : EW X a tA) : ET X a tA := h.pt
theorem t_not (ha : ET X a tA) : ET X (.UnaryOp .Not a pos) (tNot tA) :=
  (pt_not ha).mono fun σV H Q ⟨loc, σ, M, k, M', rel, e, aft⟩ => by
    obtain ⟨p, hp, e⟩ := bind_some e
    cases e
    exact runT rel hp fun H1 loc1 rel1 ex1 l1 => aft H1 loc1 rel1.st ex1 l1
theorem r_one {op} (ha : EV X a ca) : EV X (.BoolOp op [a] pos) ca := pe_one ha
theorem r_and (ha : EV X a ca) (hb : EV X (.BoolOp .And (b :: rest) pos) cb) : EV X (.BoolOp .And (a :: b :: rest) pos) (eAnd ca cb) :=
  (pe_and ha hb).mono fun σV H Q ⟨loc, σ, M, w, M', rel, e, aft⟩ => by
    obtain ⟨p, hp, e⟩ := bind_some e
    refine run1 rel hp fun v H1 loc1 rel1 rd1 ex1 l1 => ?_
    split at e
    · rename_i hc
      rw [hc] at rd1
      cases rd1
      refine ⟨_, rfl, ?_⟩
      rw [if_pos rfl]
      exact run1 (p := (w, M')) rel1 e fun u H2 loc2 rel2 rd2 ex2 l2 => aft u H2 loc2 rel2.st rd2 (ex1.trans ex2) (l1.trans l2)
    · rename_i hc
      rw [hc] at rd1
      cases rd1
      refine ⟨_, rfl, ?_⟩
      rw [if_neg Bool.false_ne_true]
      cases e
      exact aft _ H1 loc1 rel1.st (.bl _) ex1 l1
    · cases e
theorem r_or (ha : EV X a ca) (hb : EV X (.BoolOp .Or (b :: rest) pos) cb) : EV X (.BoolOp .Or (a :: b :: rest) pos) (eOr ca cb) :=
  (pe_or ha hb).mono fun σV H Q ⟨loc, σ, M, w, M', rel, e, aft⟩ => by
    obtain ⟨p, hp, e⟩ := bind_some e
    refine run1 rel hp fun v H1 loc1 rel1 rd1 ex1 l1 => ?_
    split at e
    · rename_i hc
      rw [hc] at rd1
      cases rd1
      refine ⟨_, rfl, ?_⟩
      rw [if_pos rfl]
      cases e
      exact aft _ H1 loc1 rel1.st (.bl _) ex1 l1
    · rename_i hc
      rw [hc] at rd1
      cases rd1
      refine ⟨_, rfl, ?_⟩
      rw [if_neg Bool.false_ne_true]
      exact run1 (p := (w, M')) rel1 e fun u H2 loc2 rel2 rd2 ex2 l2 => aft u H2 loc2 rel2.st rd2 (ex1.trans ex2) (l1.trans l2)
    · cases e
theorem r_not (ha : EV X a ca) : EV X (.UnaryOp .Not a pos) (eNot ca) :=
  (pe_not ha).mono fun σV H Q ⟨loc, σ, M, w, M', rel, e, aft⟩ => by
    obtain ⟨p, hp, e⟩ := bind_some e
    refine run1 rel hp fun v H1 loc1 rel1 rd1 ex1 l1 => ?_
    split at e
    · rename_i hc
      rw [hc] at rd1
      cases rd1
      cases e
      exact ⟨_, rfl, aft _ H1 loc1 rel1.st (.bl _) ex1 l1⟩
    · cases e
theorem r_if (hc : ET X c tA) (ha : EV X a ca) (hb : EV X b cb) : EV X (.IfExp c a b pos) (eIf tA ca cb) :=
  (pe_ifExp hc ha hb).mono fun σV H Q ⟨loc, σ, M, w, M', rel, e, aft⟩ => by
    obtain ⟨p, hp, e⟩ := bind_some e
    refine runT rel hp fun H1 loc1 rel1 ex1 l1 => ?_
    split at e
    · rename_i hc
      rw [if_pos hc]
      exact run1 (p := (w, M')) rel1 e fun u H2 loc2 rel2 rd2 ex2 l2 => aft u H2 loc2 rel2.st rd2 (ex1.trans ex2) (l1.trans l2)
    · rename_i hc
      rw [if_neg hc]
      exact run1 (p := (w, M')) rel1 e fun u H2 loc2 rel2 rd2 ex2 l2 => aft u H2 loc2 rel2.st rd2 (ex1.trans ex2) (l1.trans l2)

/-! ### arguments, displays -/
variable {es : List Expr} {cs : List CE}
theorem runA {K : KW} {σV : L2.St} {H : Hp} {loc : List Addr} {σ : Sl} {M : Mem} {p : List W × Mem} {Q : List V → Hp → Prop} (rel : Rel K loc σ M σV H) (ha : eArgs cs σ M = some p)
    (h : ∀ vs H1 loc1, Rel K loc1 σ p.2 σV H1 → Rds K H1 loc1 vs p.1 → Ext K H H1 → loc <+: loc1 → Q vs H1) : TA' K (eArgs cs) σV H Q :=
  ⟨loc, σ, M, p.1, p.2, rel, ha, fun v H1 loc1 s r e l => h v H1 loc1 (rel.move s e l) r e l⟩
theorem a_nil : EA X [] [] := pa_nil.mono fun σV H Q ⟨loc, σ, M, ws, M', rel, e, aft⟩ => by
  cases e
  exact aft [] H loc rel.st .nil .refl (List.prefix_refl _)
theorem a_cons (ha : EV X a ca) (hb : EA X es cs) (hs : starEach (a :: es) X.env = (false, eval a X.env) :: starEach es X.env := by rfl) : EA X (a :: es) (ca :: cs) :=
  (pa_cons ha hb hs).mono fun σV H Q ⟨loc, σ, M, ws, M', rel, e, aft⟩ => by
    obtain ⟨p, hp, e⟩ := bind_some e
    obtain ⟨q, hq, e⟩ := bind_some e
    cases e
    exact run1 rel hp fun v H1 loc1 rel1 rd1 ex1 l1 => runA rel1 hq fun vs H2 loc2 rel2 rd2 ex2 l2 => aft _ H2 loc2 rel2.st (.cons (rd1.mono ex2 l2) rd2) (ex1.trans ex2) (l1.trans l2)
theorem lineOk {n : Nat} (h : n ≤ 16777216) : n ≤ sizeLine := h
theorem r_tup {x1} (h : EA X es cs) : EV X (.Tuple es x1 pos) (eTup cs) := (pe_tup h).mono fun σV H Q ⟨loc, σ, M, w, M', rel, e, aft⟩ => by
  obtain ⟨p, hp, e⟩ := bind_some e
  split at e
  · rename_i hz
    cases e
    refine runA rel hp fun vs H1 loc1 rel1 rd1 ex1 l1 => ⟨lineOk (by rw [rd1.length]; exact hz), fun q hq => ?_⟩
    exact aft _ _ loc1 (rel1.st.newT hq) (.tup (SqT.of upd_same) (rd1.mono (.new hq) (List.prefix_refl _))) (ex1.trans (.new hq)) l1
  · cases e
theorem last_get {α : Type} {l : List α} {a : α} {n : Nat} (h : n = l.length) : (l ++ [a])[n]? = some a := by subst h; simp
theorem new_lst {K : KW} {H : Hp} {loc : List Addr} {M : Mem} {xs : List V} {ws : List W} {q : Addr} (s : Store K H loc M) (r : Rds K H loc xs ws) (hq : H q = none) : Store K (upd H q (.lst xs)) (loc ++ [q]) (M ++ [.lst ws]) :=
  s.new hq ⟨xs, upd_same, r.mono (.new hq) (List.prefix_append _ _)⟩
theorem aft_lst {K : KW} {H : Hp} {loc : List Addr} {M : Mem} {xs : List V} {ws : List W} {q : Addr} {Q : VK} (s : Store K H loc M) (r : Rds K H loc xs ws) (hq : H q = none)
    (aft : Aft K H loc (.ref M.length) (M ++ [.lst ws]) Q) : Q (.ref q) (upd H q (.lst xs)) :=
  aft _ _ (loc ++ [q]) (new_lst s r hq) (.ref (last_get s.len.symm)) (.new hq) (List.prefix_append _ _)
theorem aft_tup {K : KW} {H : Hp} {loc : List Addr} {M : Mem} {xs : List V} {ws : List W} {q : Addr} {Q : VK} (s : Store K H loc M) (r : Rds K H loc xs ws) (hq : H q = none)
    (aft : Aft K H loc (.tup ws) M Q) : Q (.ref q) (upd H q (.tup xs)) :=
  aft _ _ loc (s.newT hq) (.tup (SqT.of upd_same) (r.mono (.new hq) (List.prefix_refl _))) (.new hq) (List.prefix_refl _)
theorem r_lst (h : EA X es cs) : EV X (.List es pos) (eLst cs) := (pe_lst h).mono fun σV H Q ⟨loc, σ, M, w, M', rel, e, aft⟩ => by
  obtain ⟨p, hp, e⟩ := bind_some e
  split at e
  · rename_i hz
    cases e
    refine runA rel hp fun vs H1 loc1 rel1 rd1 ex1 l1 => ⟨lineOk (by rw [rd1.length]; exact hz), fun q hq => ?_⟩
    exact aft_lst rel1.st rd1 hq (aft.after ex1 l1)
  · cases e

/-! ### calls -/
def LiftN (K : KW) (r : List V → Hp → VK → Prop) (f : Fn) : Prop :=
  ∀ (H : Hp) (loc : List Addr) (M : Mem) (ws : List W) (vs : List V) (w : W) (M' : Mem) (Q : VK), Store K H loc M → Rds K H loc vs ws → f ws M = some (w, M') → Aft K H loc w M' Q → r vs H Q
theorem cb_aux {r : List V → Hp → VK → Prop} {f : Fn} (hl : LiftN X.KW r f) (σV : L2.St) (H : Hp) (Q : VK) (h : TC X.KW (eN f cs) σV H Q) : tCB r (TA' X.KW (eArgs cs)) σV H Q := by
  obtain ⟨loc, σ, M, w, M', rel, e, aft⟩ := h
  obtain ⟨p, hp, e⟩ := bind_some e
  exact runA rel hp fun vs H1 loc1 rel1 rd1 ex1 l1 => hl H1 loc1 p.2 p.1 vs w M' Q rel1.st rd1 e (aft.after ex1 l1)
variable {x : Str} {p : Pos} {id T : String}
theorem r_callB {r : List V → Hp → VK → Prop} {f : Fn} (hc : CallR X (.builtin id) r) (hl : LiftN X.KW r f) (hg : Gl X x) (hm : X.mg x = none) (hv : bootBuiltins x = some (.builtin id)) (ha : EA X (e :: es) cs) (hn : x ≠ "__name__" := by decide) (hdb : (x == ("__debug__" : Str)) = false := by decide)
    (he : starEach (e :: es) X.env = (false, eval e X.env) :: starEach es X.env := by rfl) (hpl : (backTo pos (starEach es X.env)).any (·.1) = false := by rfl) : EV X (.Call (.Name x p) (e :: es) [] pos) (eN f cs) :=
  (pe_callB hc hg hm hv ha hn hdb he hpl).mono (cb_aux hl)
theorem r_callTy {r : List V → Hp → VK → Prop} {f : Fn} (hc : CallR X (.type T) r) (hl : LiftN X.KW r f) (hg : Gl X x) (hm : X.mg x = none) (hv : bootBuiltins x = some (.type T)) (ha : EA X (e :: es) cs) (hn : x ≠ "__name__" := by decide) (hdb : (x == ("__debug__" : Str)) = false := by decide)
    (he : starEach (e :: es) X.env = (false, eval e X.env) :: starEach es X.env := by rfl) (hpl : (backTo pos (starEach es X.env)).any (·.1) = false := by rfl) : EV X (.Call (.Name x p) (e :: es) [] pos) (eN f cs) :=
  (pe_callTy hc hg hm hv ha hn hdb he hpl).mono (cb_aux hl)
/-- the promise of a def of one's own: what F says -/
def spF (K : KW) (n : Nat) (F : Fn) : Sp := fun vs H Q _ => vs.length = n ∧ ∃ loc M ws w M', Store K H loc M ∧ Rds K H loc vs ws ∧ F ws M = some (w, M') ∧ Aft K H loc w M' Q
theorem eArgs_length : ∀ {cs : List CE} {σ : Sl} {M : Mem} {p : List W × Mem}, eArgs cs σ M = some p → p.1.length = cs.length
  | [], _, _, _, h => by cases h; rfl
  | c :: cs, σ, M, p, h => by
    obtain ⟨q, hq, h⟩ := bind_some h
    obtain ⟨t, ht, h⟩ := bind_some h
    cases h
    rw [List.length_cons, List.length_cons, eArgs_length ht]
theorem r_call {F : Fn} {k : Nat} {f : Addr} {fd : FuncData} {ps : List Str} (G : FnOk X.prog X.w X.KW X.mg X.base CX0 k f fd ps (spF X.KW ps.length F)) (hr : Room k X.A) (hg : Gl X x) (hm : X.mg x = some (.ref f)) (hk : PySem.W.keepIn X.KW (.ref f) = true) (hb : Binds X.KW fd ps [])
    (ha : EA X (e :: es) cs) (hn : cs.length = ps.length := by rfl) (hdb : (x == ("__debug__" : Str)) = false := by decide) (he : starEach (e :: es) X.env = (false, eval e X.env) :: starEach es X.env := by rfl) (hpl : (backTo pos (starEach es X.env)).any (·.1) = false := by rfl) :
    EV X (.Call (.Name x p) (e :: es) [] pos) (eN F cs) :=
  (pe_call G hr hg hm hk hb .nil pass0 ha hdb he hpl).mono fun σV H Q ⟨loc, σ, M, w, M', rel, e, aft⟩ => by
    obtain ⟨q, hq, e⟩ := bind_some e
    refine runA rel hq fun vs H1 loc1 rel1 rd1 ex1 l1 => ?_
    rw [List.append_nil]
    exact ⟨by rw [rd1.length, eArgs_length hq, hn], loc1, q.2, q.1, w, M', rel1.st, rd1, e, aft.after ex1 l1⟩
/-! ### methods of lists -/
variable {o : Expr} {co : CE} {name : Str} {apos cpos : Pos}
theorem isLst_ty {K : KW} {H : Hp} {loc : List Addr} {M : Mem} {v : V} {w : W} (s : Store K H loc M) (r : Rd K H loc v w) (h : isLst M w = true) : tyV K "list" v H := by
  cases r with
  | @ref a n hn =>
    simp only [isLst] at h
    split at h
    · rename_i zs e2
      obtain ⟨xs, h1, _⟩ := s.ok n a _ hn e2
      exact .inl ⟨rfl, xs, SqL.of h1⟩
    · cases h
  | _ => cases h
theorem r_meth {r : V → List V → Hp → VK → Prop} {f : Fn} (slot : Slot "list" name id) (hty : typeOf (.builtin id) = pure (.type "method_descriptor")) (hm : MtR X id r)
    (hl : LiftN X.KW (fun vs H Q => ∃ v us, vs = v :: us ∧ r v us H Q) f) (ho : EV X o co) (ha : EA X (e :: es) cs)
    (hbase : attributeBase o name X.env (eval o X.env) = eval o X.env := by rfl)
    (hfew : ((backTo cpos (starEach (e :: es) X.env)).all (fun x => !x.1) && (backToKw cpos (keywordEach [] X.env)).all (fun x => x.1.isSome)
      && decide ((e :: es).length + ([] : List Keyword).length + (if ([] : List Keyword).isEmpty then 0 else 1) < 30)) = true := by rfl)
    (hline : (apos.endLine == cpos.line) = true := by rfl) (hs : starEach (e :: es) X.env = (false, eval e X.env) :: starEach es X.env := by rfl) (hplain : (backTo cpos (starEach es X.env)).any (·.1) = false := by rfl) :
    EV X (.Call (.Attribute o name apos) (e :: es) [] cpos) (eML f co cs) :=
  (pe_bm PySem.F.plainAttrs_list slot hty hm ho ha hbase hfew hline hs hplain).mono fun σV H Q ⟨loc, σ, M, w, M', rel, e, aft⟩ => by
    obtain ⟨q, hq, e⟩ := bind_some e
    split at e
    · rename_i hi
      obtain ⟨t, ht, e⟩ := bind_some e
      refine run1 rel hq fun v H1 loc1 rel1 rd1 ex1 l1 => ⟨isLst_ty rel1.st rd1 hi, ?_⟩
      refine runA rel1 ht fun vs H2 loc2 rel2 rd2 ex2 l2 => ?_
      obtain ⟨v', us, e', h⟩ := hl H2 loc2 t.2 (q.1 :: t.1) (v :: vs) w M' Q rel2.st (.cons (rd1.mono ex2 l2) rd2) e (aft.after (ex1.trans ex2) (l1.trans l2))
      cases e'
      exact h
    · cases e
theorem r_meth0 {r : V → List V → Hp → VK → Prop} {f : Fn} (slot : Slot "list" name id) (hty : typeOf (.builtin id) = pure (.type "method_descriptor")) (hm : MtR X id r)
    (hl : LiftN X.KW (fun vs H Q => ∃ v us, vs = v :: us ∧ r v us H Q) f) (ho : EV X o co)
    (hbase : attributeBase o name X.env (eval o X.env) = eval o X.env := by rfl) (hline : (apos.endLine == cpos.line) = true := by rfl) :
    EV X (.Call (.Attribute o name apos) [] [] cpos) (eML f co []) :=
  (pe_bm0 PySem.F.plainAttrs_list slot hty hm ho hbase hline).mono fun σV H Q ⟨loc, σ, M, w, M', rel, e, aft⟩ => by
    obtain ⟨q, hq, e⟩ := bind_some e
    split at e
    · rename_i hi
      refine run1 rel hq fun v H1 loc1 rel1 rd1 ex1 l1 => ⟨isLst_ty rel1.st rd1 hi, ?_⟩
      obtain ⟨v', us, e', h⟩ := hl H1 loc1 q.2 [q.1] [v] w M' Q rel1.st (.cons rd1 .nil) e (aft.after ex1 l1)
      cases e'
      exact h
    · cases e

/-! ### items, slices -/
theorem r_ix {r : R2} {g : Mem → W → W → Option (W × Mem)} (hr : IxR X r) (hl : Lift2 X.KW r g) (ha : EV X a ca) (hb : EV X b cb) (hs : PlainIx b := by exact fun _ _ => rfl) : EV X (.Subscript a b pos) (e2 g ca cb) := (pe_ix hr ha hb hs).mono (op2 hl)
def TO' (K : KW) (c : Option CE) : TO := fun σV H Q => ∃ loc σ M o M', Rel K loc σ M σV H ∧ ePart c σ M = some (o, M') ∧ ∀ H' loc', Store K H' loc' M' → Ext K H H' → loc <+: loc' → Q o H'
abbrev EO (X : Cx) (e : Option Expr) (c : Option CE) : Prop := PO X e (TO' X.KW c)
theorem o_none : EO X none none := ⟨fun pins s σ H Q I h => po_none.run pins s σ H Q I (by
  obtain ⟨loc, σ', M, o, M', rel, e, aft⟩ := h
  cases e
  exact aft H loc rel.st .refl (List.prefix_refl _))⟩
theorem o_some (ha : EV X a ca) : EO X (some a) (some ca) := ⟨fun pins s σ H Q I h => (po_some ha).run pins s σ H Q I (by
  obtain ⟨loc, σ', M, o, M', rel, e, aft⟩ := h
  obtain ⟨p, hp, e⟩ := bind_some e
  refine run1 rel hp fun v H1 loc1 rel1 rd1 ex1 l1 => ?_
  split at e
  · rename_i i hi
    cases e
    rw [hi] at rd1
    cases rd1
    exact ⟨_, rfl, aft H1 loc1 rel1.st ex1 l1⟩
  · cases e)⟩
def LiftS (K : KW) (r : V → Option Int → Option Int → Hp → VK → Prop) (g : Mem → W → Option Int → Option Int → Option (W × Mem)) : Prop :=
  ∀ (H : Hp) (loc : List Addr) (M : Mem) (x : W) (v : V) (lo hi : Option Int) (w : W) (M' : Mem) (Q : VK), Store K H loc M → Rd K H loc v x → g M x lo hi = some (w, M') → Aft K H loc w M' Q → r v lo hi H Q
theorem r_sl {r : V → Option Int → Option Int → Hp → VK → Prop} {lo hi : Option Expr} {cl ch : Option CE} {p2 : Pos} (hr : SlR X r) (hl : LiftS X.KW r gSl) (ha : EV X a ca) (h1 : EO X lo cl) (h2 : EO X hi ch) : EV X (.Subscript a (.Slice lo hi none p2) pos) (eSl ca cl ch) :=
  (pe_slice hr ha h1 h2).mono fun σV H Q ⟨loc, σ, M, w, M', rel, e, aft⟩ => by
    obtain ⟨p, hp, e⟩ := bind_some e
    obtain ⟨q, hq, e⟩ := bind_some e
    obtain ⟨t, ht, e⟩ := bind_some e
    refine run1 rel hp fun v H1 loc1 rel1 rd1 ex1 l1 => ?_
    refine ⟨loc1, σ, p.2, q.1, q.2, rel1, hq, fun H2 loc2 s2 ex2 l2 => ?_⟩
    have rel2 := rel1.move s2 ex2 l2
    refine ⟨loc2, σ, q.2, t.1, t.2, rel2, ht, fun H3 loc3 s3 ex3 l3 => ?_⟩
    exact hl H3 loc3 t.2 p.1 v q.1 t.1 w M' Q s3 (rd1.mono (ex2.trans ex3) (l2.trans l3)) e (aft.after ((ex1.trans ex2).trans ex3) ((l1.trans l2).trans l3))
end
end BF

set_option Elab.async false
set_option linter.all false
set_option autoImplicit false
set_option maxRecDepth 100000
/-! The rules: targets, statements, loops, comprehensions, defs. -/
namespace BF
open PySem PySem.Spec
open PyProof.Rows L2

section
variable {X : Cx} {a b c e tg iter : Expr} {ca cb cc : CE} {pos : Pos} {g : CG} {gs : List CG} {es : List Expr} {cs : List CE}

/-! ### targets -/
theorem g_name (i : Nat) {x : Str} (hN : X.N.Nodup) (hi : X.N[i]? = some x := by rfl) (hx : Loc X.env.scope x := by first | exact Or.inl rfl | exact Or.inr rfl)
    (hf : X.fn x = true ∨ X.env.scope.names.lookup x = some .local := by first | exact .inl rfl | exact .inr rfl) : EG X (.Name x pos) (gV i) :=
  (pg_name hN hi hx hf).mono fun v σV H Q ⟨loc, σ, M, w, σ', rel, rd, e, q⟩ => by
    cases e
    exact q _ (rel.set rd i)
theorem gs_nil : EGs X [] [] := pgs_nil.mono fun vs σV H Q ⟨loc, σ, M, ws, σ', rel, rd, e, q⟩ => by
  cases rd with
  | nil => cases e; exact ⟨rfl, q σV rel⟩
  | cons _ _ => cases e
theorem gs_cons (h1 : EG X a g) (h2 : EGs X es gs) (hs : (assignEach (a :: es) X.env).map (·.2) = assign a X.env :: (assignEach es X.env).map (·.2) := by rfl) : EGs X (a :: es) (g :: gs) :=
  (pgs_cons h1 h2 hs).mono fun vs σV H Q ⟨loc, σ, M, ws, σ', rel, rd, e, q⟩ => by
    cases rd with
    | nil => cases e
    | @cons v vs w ws r rs =>
      obtain ⟨σ1, e1, e2⟩ := bind_some e
      exact ⟨v, vs, rfl, loc, σ, M, w, σ1, rel, r, e1, fun σV1 rel1 => ⟨loc, σ1, M, ws, σ', rel1, rs, e2, q⟩⟩
theorem gAll_length : ∀ {gs : List CG} {ws : List W} {σ σ' : Sl}, gAll gs ws σ = some σ' → ws.length = gs.length
  | [], [], _, _, _ => rfl
  | [], _ :: _, _, _, h => by cases h
  | _ :: _, [], _, _, h => by cases h
  | g :: gs, w :: ws, σ, σ', h => by
    obtain ⟨σ1, _, h⟩ := bind_some h
    rw [List.length_cons, List.length_cons, gAll_length h]
theorem g_tup {k : Nat} (hc : X.calm = true) (h : EGs X es gs) (hn : (assignEach es X.env).length = gs.length := by rfl) (hst : (assignEach es X.env).findIdx? (·.1) = none := by rfl) : EG X (.Tuple es k pos) (gT gs) :=
  (pg_tup hc h hn hst).mono fun v σV H Q ⟨loc, σ, M, w, σ', rel, rd, e, q⟩ => by
    cases rd with
    | @tup a xs ws sq rs => exact ⟨a, xs, rfl, sq, by rw [rs.length]; exact gAll_length e, loc, σ, M, ws, σ', rel, rs, e, q⟩
    | _ => cases e
/-- a comprehension's target: only the slots vs are touched -/
def TGw (K : KW) (vs : List Nat) (c : CG) : TG := fun v σV H Q => ∃ loc σ M w σ', Rel K loc σ M σV H ∧ Rd K H loc v w ∧ c w σ = some σ' ∧ ∀ σV', Rel K loc σ' M σV' H → L2.wipe σV' vs = L2.wipe σV vs → Q σV' H
def TGsw (K : KW) (vs : List Nat) (c : List CG) : TGs := fun us σV H Q => ∃ loc σ M ws σ', Rel K loc σ M σV H ∧ Rds K H loc us ws ∧ gAll c ws σ = some σ' ∧ ∀ σV', Rel K loc σ' M σV' H → L2.wipe σV' vs = L2.wipe σV vs → Q σV' H
abbrev EGw (X : Cx) (vs : List Nat) (e : Expr) (c : CG) : Prop := PG X e (TGw X.KW vs c)
abbrev EGsw (X : Cx) (vs : List Nat) (es : List Expr) (c : List CG) : Prop := PGs X es (TGsw X.KW vs c)
theorem wipe_set {σ : L2.St} {i : Nat} {x : Option V} : ∀ {vs : List Nat}, i ∈ vs → L2.wipe (σ.set i x) vs = L2.wipe σ vs
  | [], h => by cases h
  | v :: vs, h => by
    show (L2.wipe (σ.set i x) vs).set v none = (L2.wipe σ vs).set v none
    by_cases hv : i ∈ vs
    · rw [wipe_set hv]
    · have e : i = v := by
        rcases List.mem_cons.mp h with h | h
        · exact h
        · exact absurd h hv
      subst e
      have : ∀ (us : List Nat), i ∉ us → L2.wipe (σ.set i x) us = (L2.wipe σ us).set i x := by
        intro us
        induction us with
        | nil => intro _; rfl
        | cons u us ih =>
          intro hu
          show (L2.wipe (σ.set i x) us).set u none = ((L2.wipe σ us).set u none).set i x
          rw [ih (fun z => hu (List.mem_cons_of_mem _ z)), List.set_comm _ _ (fun z => hu (by rw [z]; exact List.mem_cons_self))]
      rw [this vs hv, List.set_set]
theorem wipe_wipe (σ : L2.St) : ∀ vs : List Nat, L2.wipe (L2.wipe σ vs) vs = L2.wipe σ vs := by
  have : ∀ (us vs : List Nat), (∀ v ∈ vs, v ∈ us) → L2.wipe (L2.wipe σ vs) us = L2.wipe σ us := by
    intro us vs
    induction vs with
    | nil => intro _; rfl
    | cons v vs ih =>
      intro h
      show L2.wipe ((L2.wipe σ vs).set v none) us = _
      rw [wipe_set (h v List.mem_cons_self), ih fun u hu => h u (List.mem_cons_of_mem _ hu)]
  exact fun vs => this vs vs fun _ h => h
theorem gw_name {vs : List Nat} (i : Nat) {x : Str} (hN : X.N.Nodup) (hv : i ∈ vs := by decide) (hi : X.N[i]? = some x := by rfl) (hx : Loc X.env.scope x := by first | exact Or.inl rfl | exact Or.inr rfl)
    (hf : X.fn x = true ∨ X.env.scope.names.lookup x = some .local := by first | exact .inl rfl | exact .inr rfl) : EGw X vs (.Name x pos) (gV i) :=
  (pg_name hN hi hx hf).mono fun v σV H Q ⟨loc, σ, M, w, σ', rel, rd, e, q⟩ => by
    cases e
    exact q _ (rel.set rd i) (wipe_set hv)
theorem gsw_nil {vs : List Nat} : EGsw X vs [] [] := pgs_nil.mono fun us σV H Q ⟨loc, σ, M, ws, σ', rel, rd, e, q⟩ => by
  cases rd with
  | nil => cases e; exact ⟨rfl, q σV rel rfl⟩
  | cons _ _ => cases e
theorem gsw_cons {vs : List Nat} (h1 : EGw X vs a g) (h2 : EGsw X vs es gs) (hs : (assignEach (a :: es) X.env).map (·.2) = assign a X.env :: (assignEach es X.env).map (·.2) := by rfl) : EGsw X vs (a :: es) (g :: gs) :=
  (pgs_cons h1 h2 hs).mono fun us σV H Q ⟨loc, σ, M, ws, σ', rel, rd, e, q⟩ => by
    cases rd with
    | nil => cases e
    | @cons v us w ws r rs =>
      obtain ⟨σ1, e1, e2⟩ := bind_some e
      exact ⟨v, us, rfl, loc, σ, M, w, σ1, rel, r, e1, fun σV1 rel1 z1 => ⟨loc, σ1, M, ws, σ', rel1, rs, e2, fun σV2 rel2 z2 => q σV2 rel2 (z2.trans z1)⟩⟩
theorem gw_tup {vs : List Nat} {k : Nat} (hc : X.calm = true) (h : EGsw X vs es gs) (hn : (assignEach es X.env).length = gs.length := by rfl) (hst : (assignEach es X.env).findIdx? (·.1) = none := by rfl) : EGw X vs (.Tuple es k pos) (gT gs) :=
  (pg_tup hc h hn hst).mono fun v σV H Q ⟨loc, σ, M, w, σ', rel, rd, e, q⟩ => by
    cases rd with
    | @tup a xs ws sq rs => exact ⟨a, xs, rfl, sq, by rw [rs.length]; exact gAll_length e, loc, σ, M, ws, σ', rel, rs, e, q⟩
    | _ => cases e

/-! ### statements -/
variable {st : Stmt} {rest : List Stmt} {s s' : CS}
theorem runS {K : KW} {σV : L2.St} {H : Hp} {loc : List Addr} {σ : Sl} {M : Mem} {o : Out} {D : Ends} (rel : Rel K loc σ M σV H) (ha : s σ M = some o) (h : AftS K H loc D o) : TS' K s D σV H := ⟨loc, σ, M, o, rel, ha, h⟩
theorem ss_nil : ESs X [] sNil := pss_nil.mono fun D σV H ⟨loc, σ, M, o, rel, e, aft⟩ => by
  cases e
  exact aft σV H loc rel .refl (List.prefix_refl _)
theorem ss_one (h : ES X st s) : ESs X [st] s := pss_one h
theorem ss_cons (h1 : ES X st s) (h2 : ESs X rest s') : ESs X (st :: rest) (sSeq s s') :=
  (pss_cons h1 h2).mono fun D σV H ⟨loc, σ, M, o, rel, e, aft⟩ => by
    obtain ⟨o1, h, e⟩ := bind_some e
    refine ⟨loc, σ, M, o1, rel, h, ?_⟩
    cases o1 with
    | nx σ1 M1 => exact fun σV1 H1 loc1 rel1 ex1 l1 => ⟨loc1, σ1, M1, o, rel1, e, aft.after ex1 l1⟩
    | rt w M1 => cases e; exact aft
    | bk σ1 M1 => cases e; exact aft
    | ct σ1 M1 => cases e; exact aft
theorem s_set (i : Nat) {x : Str} {pos' : Pos} (hN : X.N.Nodup) (he : EV X e ca) (hi : X.N[i]? = some x := by rfl) (hx : Loc X.env.scope x := by first | exact Or.inl rfl | exact Or.inr rfl)
    (hs : swapsWith e (some (.Name x pos')) pos.line X.env = pure false := by rfl) (hf : X.fn x = true ∨ X.env.scope.names.lookup x = some .local := by first | exact .inl rfl | exact .inr rfl) : ES X (.Assign [.Name x pos'] e pos) (sSet (gV i) ca) :=
  (ps_set hN hi hx he hs hf).mono fun D σV H ⟨loc, σ, M, o, rel, e, aft⟩ => by
    obtain ⟨p, hp, e⟩ := bind_some e
    cases e
    exact run1 rel hp fun v H1 loc1 rel1 rd1 ex1 l1 => aft _ H1 loc1 (rel1.set rd1 i) ex1 l1
theorem asg_aux {D : Ends} {σV : L2.St} {H : Hp} (h : TS' X.KW (sSet g ca) D σV H) : tAsg (TC X.KW ca) (TG' X.KW g) D σV H := by
  obtain ⟨loc, σ, M, o, rel, e, aft⟩ := h
  obtain ⟨p, hp, e⟩ := bind_some e
  obtain ⟨σ1, h1, e⟩ := bind_some e
  cases e
  exact run1 rel hp fun v H1 loc1 rel1 rd1 ex1 l1 => ⟨loc1, σ, p.2, p.1, σ1, rel1, rd1, h1, fun σV' rel' => aft σV' H1 loc1 rel' ex1 l1⟩
/-- any target -/
theorem s_asg (he : EV X e ca) (hg : EG X tg g) (hs : swapsWithSole [tg] e pos.line X.env = pure false := by rfl) (hw : swappedStores [tg] e X.env = pure none := by rfl)
    (h1 : (assignEach [tg] X.env).map (·.2) = [assign tg X.env] := by rfl) : ES X (.Assign [tg] e pos) (sSet g ca) :=
  (ps_asg he hg hs hw h1).mono fun D σV H h => asg_aux h
theorem s_par2 (i j : Nat) {x y : Str} {px py pt : Pos} {kt k2 pt2} (hc : X.calm = true) (hN : X.N.Nodup) (ha : EA X [a, b] [ca, cb]) (hi : X.N[i]? = some x := by rfl) (hj : X.N[j]? = some y := by rfl) (hij : i ≠ j := by decide)
    (hx : X.env.scope.names.lookup x = some .local := by rfl) (hy : X.env.scope.names.lookup y = some .local := by rfl)
    (hw : swappedStores [.Tuple [.Name x px, .Name y py] kt pt] (.Tuple [a, b] k2 pt2) X.env = pure (some [x, y]) := by rfl)
    (hs : swapsWithSole [.Tuple [.Name x px, .Name y py] kt pt] (.Tuple [a, b] k2 pt2) pos.line X.env = pure false := by rfl) :
    ES X (.Assign [.Tuple [.Name x px, .Name y py] kt pt] (.Tuple [a, b] k2 pt2) pos) (sPar [i, j] [ca, cb]) :=
  (ps_par hc hN hi hj hij hx hy ha hw hs).mono fun D σV H ⟨loc, σ, M, o, rel, e, aft⟩ => by
    obtain ⟨p, hp, e⟩ := bind_some e
    refine runA rel hp fun vs H1 loc1 rel1 rd1 ex1 l1 => ?_
    have hl : p.1.length = 2 := eArgs_length hp
    obtain ⟨p1, p2⟩ := p
    match p1, hl, rd1 with
    | [w1, w2], _, .cons (v := v1) r1 (.cons (v := v2) r2 .nil) =>
      cases e
      exact ⟨_, _, rfl, aft _ H1 loc1 ((rel1.set r1 i).set r2 j) ex1 l1⟩
theorem s_aug (i : Nat) {x : Str} {op : Operator} {r : R2} {f : Mem → W → W → Option (W × Mem)} {pos' : Pos} (hN : X.N.Nodup) (ho : OpR X (inplaceOp op) r) (hl : Lift2 X.KW r f) (he : EV X e ca) (hi : X.N[i]? = some x := by rfl) (hx : Loc X.env.scope x := by first | exact Or.inl rfl | exact Or.inr rfl)
    (hf : X.fn x = true ∨ X.env.scope.names.lookup x = some .local := by first | exact .inl rfl | exact .inr rfl) : ES X (.AugAssign (.Name x pos') op e pos) (sAug i f ca) :=
  (ps_aug hN hi hx he (show PIp X op r from ho) hf).mono fun D σV H ⟨loc, σ, M, o, rel, e, aft⟩ => by
    unfold sAug at e
    split at e
    · rename_i w hw
      obtain ⟨p, hp, e⟩ := bind_some e
      obtain ⟨q, hq, e⟩ := bind_some e
      cases e
      have hw' : σ[i]? = some (some w) := by
        rw [List.getD_eq_getElem?_getD] at hw
        cases z : σ[i]? with
        | none => rw [z] at hw; cases hw
        | some u => rw [z] at hw; exact congrArg some hw
      obtain ⟨v, h1, h2⟩ := rel.sl i w hw'
      refine ⟨v, h1, run1 rel hp fun u H1 loc1 rel1 rd1 ex1 l1 => ?_⟩
      refine hl H1 loc1 p.2 w p.1 v u q.1 q.2 _ rel1.st (h2.mono ex1 l1) rd1 hq fun z H2 loc2 s2 rd2 ex2 l2 => ?_
      exact aft _ H2 loc2 ((rel1.move s2 ex2 l2).set rd2 i) (ex1.trans ex2) (l1.trans l2)
    · cases e
def LiftP (K : KW) (r : TSet) (f : Mem → W → W → W → Option Mem) : Prop :=
  ∀ (H : Hp) (loc : List Addr) (M : Mem) (x y z : W) (o i v : V) (M' : Mem) (Q : Hp → Prop), Store K H loc M → Rd K H loc o x → Rd K H loc i y → Rd K H loc v z → f M x y z = some M' →
    (∀ H' loc', Store K H' loc' M' → Ext K H H' → loc <+: loc' → Q H') → r o i v H Q
theorem s_put {r : TSet} {f : Mem → W → W → W → Option Mem} {pos1 : Pos} (ho : PSet X r) (hl : LiftP X.KW r f) (he : EV X e ca) (h1 : EV X a cb) (h2 : EV X b cc)
    (hs : swapsWithSole [.Subscript a b pos1] e pos.line X.env = pure false := by rfl) (hw : swappedStores [.Subscript a b pos1] e X.env = pure none := by rfl)
    (h3 : (assignEach [.Subscript a b pos1] X.env).map (·.2) = [assign (.Subscript a b pos1) X.env] := by rfl)
    (ha : ∀ v, assign (.Subscript a b pos1) X.env v = (do
      let ov ← holding [v] (eval a X.env)
      let iv ← holding [v, ov] (eval b X.env)
      standAt pos1
      holding [v, ov, iv] (setItem ov iv v)
      release [v, ov, iv] []) := by intro _; rfl) : ES X (.Assign [.Subscript a b pos1] e pos) (sPut f cb cc ca) :=
  (ps_asg he (pg_sub h1 h2 ho ha) hs hw h3).mono fun D σV H ⟨loc, σ, M, o, rel, e, aft⟩ => by
    obtain ⟨p, hp, e⟩ := bind_some e
    obtain ⟨q, hq, e⟩ := bind_some e
    obtain ⟨t, ht, e⟩ := bind_some e
    obtain ⟨M', hM, e⟩ := bind_some e
    cases e
    refine run1 rel hp fun v H1 loc1 rel1 rd1 ex1 l1 => run1 rel1 hq fun u H2 loc2 rel2 rd2 ex2 l2 => run1 rel2 ht fun z H3 loc3 rel3 rd3 ex3 l3 => ?_
    refine hl H3 loc3 t.2 q.1 t.1 p.1 u z v M' _ rel3.st (rd2.mono ex3 l3) rd3 (rd1.mono (ex2.trans ex3) (l2.trans l3)) hM fun H4 loc4 s4 ex4 l4 => ?_
    exact aft σV H4 loc4 (rel3.move s4 ex4 l4) (((ex1.trans ex2).trans ex3).trans ex4) (((l1.trans l2).trans l3).trans l4)
theorem s_expr (he : EV X e ca) (hs : swapsWith e none pos.line X.env = pure false := by rfl) : ES X (.Expr e pos) (sExpr ca) :=
  (ps_expr he hs).mono fun D σV H ⟨loc, σ, M, o, rel, e, aft⟩ => by
    obtain ⟨p, hp, e⟩ := bind_some e
    cases e
    exact run1 rel hp fun v H1 loc1 rel1 rd1 ex1 l1 => aft _ H1 loc1 rel1 ex1 l1
theorem s_ret (he : EV X e ca) : ES X (.Return (some e) pos) (sRet ca) :=
  (ps_ret he).mono fun D σV H ⟨loc, σ, M, o, rel, e, aft⟩ => by
    obtain ⟨p, hp, e⟩ := bind_some e
    cases e
    exact ⟨loc, σ, M, p.1, p.2, rel, hp, aft⟩
theorem s_break : ES X (.Break pos) sBreak := ps_break.mono fun D σV H ⟨loc, σ, M, o, rel, e, aft⟩ => by
  cases e
  exact aft σV H loc rel .refl (List.prefix_refl _)
theorem s_if {tA : CT} {sa sb : List Stmt} (hc : ET X c tA) (ha : ESs X sa s) (hb : ESs X sb s') : ES X (.If c sa sb pos) (sIf tA s s') :=
  (ps_if hc ha hb).mono fun D σV H ⟨loc, σ, M, o, rel, e, aft⟩ => by
    obtain ⟨p, hp, e⟩ := bind_some e
    refine runT rel hp fun H1 loc1 rel1 ex1 l1 => ?_
    split at e
    · rename_i h; rw [if_pos h]; exact ⟨loc1, σ, p.2, o, rel1, e, aft.after ex1 l1⟩
    · rename_i h; rw [if_neg h]; exact ⟨loc1, σ, p.2, o, rel1, e, aft.after ex1 l1⟩

/-! ### loops -/
/-- the iterator J yields ws while the memory stays as gd says -/
def WalkW (K : KW) (H0 : Hp) (loc0 : List Addr) (J : It) (ws : List W) (gd : Mem → Bool) : Prop :=
  ∀ (i : Nat) (H : Hp) (loc : List Addr) (M : Mem), Store K H loc M → Ext K H0 H → loc0 <+: loc → gd M = true →
    (∀ w, ws[i]? = some w → J.go i H ∧ ∀ x H2, J.yld i H x H2 → Rd K H2 loc x w ∧ Store K H2 loc M ∧ Ext K H H2) ∧ (ws.length ≤ i → J.stop i H)
def TI' (K : KW) (c : CI) : TI := fun σV H R => ∃ loc σ M ws gd M', Rel K loc σ M σV H ∧ c σ M = some (ws, gd, M') ∧
  ∀ J H' loc', Store K H' loc' M' → Ext K H H' → loc <+: loc' → WalkW K H' loc' J ws gd → R J H'
abbrev EI (X : Cx) (tg iter : Expr) (c : CI) : Prop := PI X tg iter (TI' X.KW c)
theorem _root_.L2.PI.mono {t t' : TI} (h : PI X tg iter t) (f : ∀ σ H R, t' σ H R → t σ H R) : PI X tg iter t' := ⟨fun p s σ H R I q => h.run p s σ H R I (f σ H R q)⟩
theorem s_for {it : CI} {body : List Stmt} (hi : EI X tg iter it) (hg : EG X tg g) (hb : ESs X body s) (hp : PassesOwn (model X.prog X.w) X.A X.env X.xe := by exact PassesOwn.never) (hc : X.calm = true := by rfl)
    (hs : ∀ x, foldedSetIterable iter X.env x = pure x := by intro _; rfl) : ES X (.For tg iter body [] pos) (sFor it g s) :=
  (ps_for hp hc hi hg hb hs).mono fun D σV H ⟨loc, σ, M, o, rel, e, aft⟩ => by
    obtain ⟨p, hp, e⟩ := bind_some e
    obtain ⟨ws, gd, M1⟩ := p
    refine ⟨loc, σ, M, ws, gd, M1, rel, hp, fun J H1 loc1 s1 ex1 l1 wk => ?_⟩
    have aft1 := aft.after ex1 l1
    refine ⟨fun i m σV' Hc => i ≤ ws.length ∧ m = ws.length - i ∧ ∃ locc σc Mc, Rel X.KW locc σc Mc σV' Hc ∧ Ext X.KW H1 Hc ∧ loc1 <+: locc ∧ forL gd g s (ws.drop i) σc Mc = some o,
      ⟨ws.length, Nat.zero_le _, rfl, loc1, σ, M1, rel.move s1 ex1 l1, .refl, List.prefix_refl _, e⟩, fun i m σV' Hc hW => ?_⟩
    obtain ⟨hi, rfl, locc, σc, Mc, relc, exc, lc, ec⟩ := hW
    by_cases hlt : i < ws.length
    · rw [List.drop_eq_getElem_cons hlt] at ec
      rw [forL] at ec
      split at ec
      · rename_i hgd
        obtain ⟨σ1, hg1, ec⟩ := bind_some ec
        obtain ⟨ob, hob, ec⟩ := bind_some ec
        obtain ⟨w1, _⟩ := wk i Hc locc Mc relc.st exc lc hgd
        obtain ⟨go, yl⟩ := w1 ws[i] (List.getElem?_eq_getElem hlt)
        refine .inr ⟨go, fun σV'' H'' => ∃ loc'' σ'' M'', Rel X.KW loc'' σ'' M'' σV'' H'' ∧ Ext X.KW H1 H'' ∧ loc1 <+: loc'' ∧ forL gd g s (ws.drop (i + 1)) σ'' M'' = some o, fun σV'' H'' hN => ?_, fun x H2 y => ?_⟩
        · exact ⟨ws.length - (i + 1), by omega, hlt, rfl, hN⟩
        · obtain ⟨rd, st2, ex2⟩ := yl x H2 y
          refine ⟨locc, σc, Mc, ws[i], σ1, relc.move st2 ex2 (List.prefix_refl _), rd, hg1, fun σV2 rel2 => ?_⟩
          refine ⟨locc, σ1, Mc, ob, rel2, hob, ?_⟩
          have exA := exc.trans ex2
          cases ob with
          | nx σ3 M3 => exact fun σV3 H3 loc3 rel3 ex3 l3 => ⟨loc3, σ3, M3, rel3, exA.trans ex3, lc.trans l3, ec⟩
          | ct σ3 M3 => exact fun σV3 H3 loc3 rel3 ex3 l3 => ⟨loc3, σ3, M3, rel3, exA.trans ex3, lc.trans l3, ec⟩
          | bk σ3 M3 =>
            cases ec
            exact fun σV3 H3 loc3 rel3 ex3 l3 => aft1 σV3 H3 loc3 rel3 (exA.trans ex3) (lc.trans l3)
          | rt w M3 =>
            cases ec
            exact Aft.after (K := X.KW) aft1 exA lc
      · cases ec
    · have e0 : i = ws.length := by omega
      subst e0
      rw [List.drop_length, forL] at ec
      split at ec
      · rename_i hgd
        cases ec
        obtain ⟨_, w2⟩ := wk ws.length Hc locc Mc relc.st exc lc hgd
        exact .inl ⟨w2 (Nat.le_refl _), aft1 σV' Hc locc relc exc lc⟩
      · cases ec
theorem s_while (n : Nat) {tA : CT} {body : List Stmt} (hc : ET X c tA) (hb : ESs X body s) (hp : PassesOwn (model X.prog X.w) X.A X.env X.xe := by exact PassesOwn.never) : ES X (.While c body [] pos) (sWhile n tA s) :=
  (ps_while hp hc hb).mono fun D σV H ⟨loc, σ, M, o, rel, e, aft⟩ => by
    refine ⟨fun m σV' Hc => ∃ locc σc Mc, Rel X.KW locc σc Mc σV' Hc ∧ Ext X.KW H Hc ∧ loc <+: locc ∧ whileL tA s m σc Mc = some o,
      ⟨n, loc, σ, M, rel, .refl, List.prefix_refl _, e⟩, fun m σV' Hc hW => ?_⟩
    obtain ⟨locc, σc, Mc, relc, exc, lc, ec⟩ := hW
    cases m with
    | zero => cases ec
    | succ m =>
      rw [whileL] at ec
      obtain ⟨p, hp, ec⟩ := bind_some ec
      refine runT relc hp fun H1 loc1 rel1 ex1 l1 => ?_
      split at ec
      · rename_i hb
        rw [if_pos hb]
        obtain ⟨ob, hob, ec⟩ := bind_some ec
        have exA := exc.trans ex1
        have lA := lc.trans l1
        refine ⟨fun σV'' H'' => ∃ loc'' σ'' M'', Rel X.KW loc'' σ'' M'' σV'' H'' ∧ Ext X.KW H H'' ∧ loc <+: loc'' ∧ whileL tA s m σ'' M'' = some o, fun σV'' H'' hN => ⟨m, Nat.lt_succ_self _, hN⟩, ?_⟩
        refine ⟨loc1, σc, p.2, ob, rel1, hob, ?_⟩
        cases ob with
        | nx σ3 M3 => exact fun σV3 H3 loc3 rel3 ex3 l3 => ⟨loc3, σ3, M3, rel3, exA.trans ex3, lA.trans l3, ec⟩
        | ct σ3 M3 => exact fun σV3 H3 loc3 rel3 ex3 l3 => ⟨loc3, σ3, M3, rel3, exA.trans ex3, lA.trans l3, ec⟩
        | bk σ3 M3 =>
          cases ec
          exact fun σV3 H3 loc3 rel3 ex3 l3 => aft σV3 H3 loc3 rel3 (exA.trans ex3) (lA.trans l3)
        | rt w M3 =>
          cases ec
          exact Aft.after (K := X.KW) aft exA lA
      · rename_i hb
        rw [if_neg hb]
        cases ec
        exact aft σV' H1 loc1 rel1 (exc.trans ex1) (lc.trans l1)

/-! ### what is walked -/
theorem walk_of_tup {K : KW} {H : Hp} {loc : List Addr} {a : Addr} {xs : List V} {ws : List W} (sq : SqT K H a xs) (r : Rds K H loc xs ws) : WalkW K H loc (Itt K a) ws gdT :=
  fun i H1 loc1 M s ex l _ => ⟨fun w hw => by
    obtain ⟨v, h1, h2⟩ := r.get hw
    exact ⟨⟨xs, v, ex.tup _ _ sq, h1⟩, fun x H2 y => by
      obtain ⟨rfl, y⟩ := y
      have e := y xs (ex.tup _ _ sq)
      rw [h1] at e; cases e
      exact ⟨h2.mono ex l, s, .refl⟩⟩, fun hl => ⟨xs, ex.tup _ _ sq, by rw [r.length]; exact hl⟩⟩
theorem i_tup (h : EV X iter ca) : EI X tg iter (iTup ca) := (pi_tup h).mono fun σV H R ⟨loc, σ, M, ws, gd, M', rel, e, aft⟩ => by
  obtain ⟨p, hp, e⟩ := bind_some e
  refine run1 rel hp fun v H1 loc1 rel1 rd1 ex1 l1 => ?_
  split at e
  · rename_i zs hz
    cases e
    rw [hz] at rd1
    cases rd1 with
    | @tup a xs _ sq rs => exact ⟨a, rfl, ⟨xs, sq⟩, aft _ H1 loc1 rel1.st ex1 l1 (walk_of_tup sq rs)⟩
  · cases e
theorem walk_of_lst {K : KW} {H : Hp} {loc : List Addr} {a : Addr} {n : Nat} {ws : List W} (hn : loc[n]? = some a) : WalkW K H loc (Itl K a) ws (fun M' => decide (M'[n]? = some (.lst ws))) :=
  fun i H1 loc1 M s ex l hg => by
    have hg := of_decide_eq_true hg
    obtain ⟨xs, h1, r⟩ := s.ok n a _ (pre_get l hn) hg
    refine ⟨fun w hw => ?_, fun hl => ⟨xs, SqL.of h1, by rw [r.length]; exact hl⟩⟩
    obtain ⟨v, h2, h3⟩ := r.get hw
    refine ⟨⟨xs, v, SqL.of h1, h2⟩, fun x H2 y => ?_⟩
    obtain ⟨rfl, y⟩ := y
    have e := y xs (SqL.of h1)
    rw [h2] at e; cases e
    exact ⟨h3, s, .refl⟩
theorem walk_of_ro {K : KW} {H : Hp} {loc : List Addr} {a : Addr} {n : Nat} {ws : List W} (hn : loc[n]? = some a) : WalkW K H loc (Itl K a) ws (fun M' => decide (M'[n]? = some (.ro ws))) :=
  fun i H1 loc1 M s ex l hg => by
    have hg := of_decide_eq_true hg
    obtain ⟨xs, h1, r⟩ := s.ok n a _ (pre_get l hn) hg
    refine ⟨fun w hw => ?_, fun hl => ⟨xs, h1.sq, by rw [r.length]; exact hl⟩⟩
    obtain ⟨v, h2, h3⟩ := r.get hw
    refine ⟨⟨xs, v, h1.sq, h2⟩, fun x H2 y => ?_⟩
    obtain ⟨rfl, y⟩ := y
    have e := y xs h1.sq
    rw [h2] at e; cases e
    exact ⟨h3, s, .refl⟩
theorem i_lst (h : EV X iter ca) : EI X tg iter (iLst ca) := (pi_list h).mono fun σV H R ⟨loc, σ, M, ws, gd, M', rel, e, aft⟩ => by
  obtain ⟨p, hp, e⟩ := bind_some e
  refine run1 rel hp fun v H1 loc1 rel1 rd1 ex1 l1 => ?_
  split at e
  · rename_i n hn
    rw [hn] at rd1
    cases rd1 with
    | @ref a _ ha =>
      split at e
      · rename_i zs hz
        cases e
        obtain ⟨xs, h1, _⟩ := rel1.st.ok n a _ ha hz
        exact ⟨a, rfl, ⟨xs, SqL.of h1⟩, aft _ H1 loc1 rel1.st ex1 l1 (walk_of_lst ha)⟩
      · rename_i zs hz
        cases e
        obtain ⟨xs, h1, _⟩ := rel1.st.ok n a _ ha hz
        exact ⟨a, rfl, ⟨xs, h1.sq⟩, aft _ H1 loc1 rel1.st ex1 l1 (walk_of_ro ha)⟩
      · cases e
  · cases e
theorem walk_of_range {K : KW} {H : Hp} {loc : List Addr} {lo : Int} {n : Nat} : WalkW K H loc (Itr lo n) (rangeW lo n) gdT :=
  fun i H1 loc1 M s ex l _ => ⟨fun w hw => by
    obtain ⟨hi, rfl⟩ := rangeW_get hw
    exact ⟨hi, fun x H2 y => by
      obtain ⟨rfl, rfl⟩ := y
      exact ⟨.int _, s, .refl⟩⟩, fun hl => by rw [rangeW_length] at hl; exact hl⟩
theorem small62_iff {i : Int} (h : small62 i = true) : -(2 ^ 62) ≤ i ∧ i < 2 ^ 62 := by
  have := Nat.le_of_ble_eq_true h
  omega
theorem i_range1 {p pos : Pos} (hg : Gl X "range") (hm : X.mg "range" = none) (h : EA X [a] [ca]) (hs : starEach [a] X.env = [(false, eval a X.env)] := by rfl) : EI X tg (.Call (.Name "range" p) [a] [] pos) (iRange1 ca) :=
  (pi_range1 hg hm h hs).mono fun σV H R ⟨loc, σ, M, ws, gd, M', rel, e, aft⟩ => by
    obtain ⟨p, hp, e⟩ := bind_some e
    refine runA (p := ([p.1], p.2)) rel (by simp only [eArgs, hp, Option.bind_some]) fun vs H1 loc1 rel1 rd1 ex1 l1 => ?_
    split at e
    · rename_i j hj
      split at e
      · rename_i h62
        cases e
        obtain ⟨h1, h2⟩ := small62_iff h62
        rw [hj] at rd1
        match vs, rd1 with
        | [_], .cons (.int _) .nil => exact ⟨j, rfl, h1, h2, aft _ H1 loc1 rel1.st ex1 l1 walk_of_range⟩
      · cases e
    · cases e
theorem i_range2 {p pos : Pos} (hg : Gl X "range") (hm : X.mg "range" = none) (h : EA X [a, b] [ca, cb]) (hs : starEach [a, b] X.env = [(false, eval a X.env), (false, eval b X.env)] := by rfl) (hs2 : starEach [b] X.env = [(false, eval b X.env)] := by rfl) : EI X tg (.Call (.Name "range" p) [a, b] [] pos) (iRange2 ca cb) :=
  (pi_range2 hg hm h hs hs2).mono fun σV H R ⟨loc, σ, M, ws, gd, M', rel, e, aft⟩ => by
    obtain ⟨p, hp, e⟩ := bind_some e
    obtain ⟨q, hq, e⟩ := bind_some e
    refine runA (p := ([p.1, q.1], q.2)) rel (by simp only [eArgs, hp, hq, Option.bind_some]) fun vs H1 loc1 rel1 rd1 ex1 l1 => ?_
    split at e
    · rename_i i j hi hj
      split at e
      · rename_i h62
        cases e
        obtain ⟨h1, h2⟩ := small62_iff h62.1
        obtain ⟨h3, h4⟩ := small62_iff h62.2
        rw [hi, hj] at rd1
        match vs, rd1 with
        | [_, _], .cons (.int _) (.cons (.int _) .nil) => exact ⟨i, j, rfl, ⟨h1, h2, h3, h4⟩, aft _ H1 loc1 rel1.st ex1 l1 walk_of_range⟩
      · cases e
    · cases e
theorem zipW_get {xs ys : List W} {i : Nat} {w : W} (h : (zipW xs ys)[i]? = some w) : ∃ x y, xs[i]? = some x ∧ ys[i]? = some y ∧ w = .tup [x, y] := by
  unfold zipW at h
  rw [List.getElem?_map] at h
  cases q : (xs.zip ys)[i]? with
  | none => rw [q] at h; cases h
  | some p =>
    rw [q] at h
    cases h
    rw [List.getElem?_zip_eq_some] at q
    exact ⟨p.1, p.2, q.1, q.2, rfl⟩
theorem walk_of_zipT {K : KW} {H : Hp} {loc : List Addr} {a b : Addr} {xs ys : List V} {ws zs : List W} (sq : SqT K H a xs) (sq' : SqT K H b ys) (r : Rds K H loc xs ws) (r' : Rds K H loc ys zs) : WalkW K H loc (RZ.ItzT K a b) (zipW ws zs) gdT :=
  fun i H1 loc1 M s ex l _ => ⟨fun w hw => by
    obtain ⟨x, y, h1, h2, rfl⟩ := zipW_get hw
    obtain ⟨v, g1, g2⟩ := r.get h1
    obtain ⟨u, g3, g4⟩ := r'.get h2
    refine ⟨⟨xs, ys, v, u, ex.tup _ _ sq, ex.tup _ _ sq', g1, g3⟩, fun x H2 y => ?_⟩
    obtain ⟨T, x', y', rfl, hT, rfl, f1, f2⟩ := y
    have e1 := f1 xs (ex.tup _ _ sq)
    have e2 := f2 ys (ex.tup _ _ sq')
    rw [g1] at e1; cases e1
    rw [g3] at e2; cases e2
    have ex2 : Ext K H1 (upd H1 T (.tup [v, u])) := .new hT
    exact ⟨.tup (SqT.of upd_same) (.cons (g2.mono (ex.trans ex2) l) (.cons (g4.mono (ex.trans ex2) l) .nil)), s.newT hT, ex2⟩,
   fun hl => ⟨xs, ys, ex.tup _ _ sq, ex.tup _ _ sq', by
    rw [r.length, r'.length]
    have : (zipW ws zs).length = min ws.length zs.length := by simp [zipW]
    omega⟩⟩
theorem i_zipT {p pos tpos : Pos} {elts : List Expr} {kk : Nat} (hg : Gl X "zip") (hm : X.mg "zip" = none) (h : EA X [a, b] [ca, cb])
    (hs : starEach [a, b] X.env = (false, eval a X.env) :: starEach [b] X.env := by rfl) (hpl : (backTo pos (starEach [b] X.env)).any (·.1) = false := by rfl) :
    EI X (.Tuple elts kk tpos) (.Call (.Name "zip" p) [a, b] [] pos) (iZipT ca cb) :=
  (RZ.pi_zipA hg hm h hs hpl).mono fun σV H R ⟨loc, σ, M, ws, gd, M', rel, e, aft⟩ => by
    obtain ⟨p, hp, e⟩ := bind_some e
    obtain ⟨q, hq, e⟩ := bind_some e
    refine runA (p := ([p.1, q.1], q.2)) rel (by simp only [eArgs, hp, hq, Option.bind_some]) fun vs H1 loc1 rel1 rd1 ex1 l1 => ?_
    split at e
    · rename_i xs ys hx hy
      cases e
      rw [hx, hy] at rd1
      match vs, rd1 with
      | [_, _], .cons (.tup (a := a1) (xs := us1) sq1 r1) (.cons (.tup (a := a2) (xs := us2) sq2 r2) .nil) =>
        exact ⟨a1, a2, us1, us2, rfl, .inr ⟨sq1, sq2, aft _ H1 loc1 rel1.st ex1 l1 (walk_of_zipT sq1 sq2 r1 r2)⟩⟩
    · cases e

/-! ### comprehensions -/
abbrev TTs (X : Cx) (ifs : List Expr) (t : CT) : Prop := PTs X ifs (TT' X.KW t)
theorem ts_nil : TTs X [] tTrue := ⟨fun pins s σ H Q I h => pts_nil.run pins s σ H Q I (by
  obtain ⟨loc, σ', M, k, M', rel, e, aft⟩ := h
  cases e
  exact aft H loc rel.st .refl (List.prefix_refl _))⟩
theorem ts_one {tA : CT} (h : ET X c tA) : TTs X [c] tA := pts_one h
theorem lc_aux {K : KW} {it : CI} {t : CT} {vs : List Nat} {σV : L2.St} {H : Hp} {Q : VK} (h : TC K (eLc it g t ca vs) σV H Q) : tLc (TI' K it) (TGw K vs g) (TT' K t) (TC K ca) vs σV H Q := by
  obtain ⟨loc, σ, M, w, M', rel, e, aft⟩ := h
  obtain ⟨p, hp, e⟩ := bind_some e
  obtain ⟨ws, gd, M1⟩ := p
  obtain ⟨M2, hM2, e⟩ := bind_some e
  cases e
  refine ⟨loc, σ, M, ws, gd, M1, rel, hp, fun J H1 loc1 s1 ex1 l1 wk D hD => ?_⟩
  have aft1 := aft.after ex1 l1
  have rel1 := rel.move s1 ex1 l1
  have st0 : Store K (upd H1 D (.lst [])) (loc1 ++ [D]) (M1 ++ [.lst []]) := new_lst s1 .nil hD
  have exD : Ext K H1 (upd H1 D (.lst [])) := .new hD
  refine ⟨fun i m Hc => i ≤ ws.length ∧ m = ws.length - i ∧ ∃ locc Mc, Rel K locc σ Mc σV Hc ∧ Ext K H1 Hc ∧ (loc1 ++ [D]) <+: locc ∧ lcL gd g t ca vs σ M1.length (ws.drop i) Mc = some M',
    ⟨ws.length, Nat.zero_le _, rfl, loc1 ++ [D], M1 ++ [.lst []], rel1.move st0 exD (List.prefix_append _ _), exD, List.prefix_refl _, by rw [List.drop_zero]; exact hM2⟩, fun i m Hc hW => ?_⟩
  obtain ⟨hi, rfl, locc, Mc, relc, exc, lc, ec⟩ := hW
  have lc1 : loc1 <+: locc := (List.prefix_append _ _).trans lc
  have hDn : (loc1 ++ [D])[M1.length]? = some D := last_get s1.len.symm
  by_cases hlt : i < ws.length
  · rw [List.drop_eq_getElem_cons hlt] at ec
    rw [lcL] at ec
    split at ec
    · rename_i hgd
      obtain ⟨σ1, hg1, ec⟩ := bind_some ec
      obtain ⟨q, hq, ec⟩ := bind_some ec
      obtain ⟨w1, _⟩ := wk i Hc locc Mc relc.st exc lc1 hgd
      obtain ⟨go, yl⟩ := w1 ws[i] (List.getElem?_eq_getElem hlt)
      refine .inr ⟨go, fun H'' => ∃ loc'' M'', Rel K loc'' σ M'' σV H'' ∧ Ext K H1 H'' ∧ (loc1 ++ [D]) <+: loc'' ∧ lcL gd g t ca vs σ M1.length (ws.drop (i + 1)) M'' = some M', fun H'' hN => ⟨ws.length - (i + 1), by omega, hlt, rfl, hN⟩, fun x H2 y => ?_⟩
      obtain ⟨rd, st2, ex2⟩ := yl x H2 y
      have rel2 := relc.move st2 ex2 (List.prefix_refl _)
      refine ⟨locc, wipe σ vs, Mc, ws[i], σ1, rel2.wipe vs, rd, hg1, fun σV2 relw zw => ⟨zw.trans (wipe_wipe σV vs), ?_⟩⟩
      refine runT relw hq fun H3 loc3 rel3 ex3 l3 => ?_
      have exA := (exc.trans ex2).trans ex3
      have lA := lc.trans l3
      split at ec
      · rename_i hb
        rw [if_pos hb]
        obtain ⟨z, hz, ec⟩ := bind_some ec
        refine run1 rel3 hz fun v H4 loc4 rel4 rd4 ex4 l4 => ?_
        split at ec
        · rename_i acc hacc
          split at ec
          · rename_i hlen
            have hD4 := pre_get (lA.trans l4) hDn
            obtain ⟨xs, g1, g2⟩ := rel4.st.ok M1.length D _ hD4 hacc
            refine ⟨xs, g1, by rw [g2.length]; exact hlen, ?_⟩
            have ex5 : Ext K H4 (upd H4 D (.lst (xs ++ [v]))) := .upd g1 trivial
            have st5 : Store K (upd H4 D (.lst (xs ++ [v]))) loc4 (z.2.set M1.length (.lst (acc ++ [z.1]))) :=
              rel4.st.put hD4 hacc rfl rfl ⟨_, upd_same, (g2.append (.cons rd4 .nil)).mono ex5 (List.prefix_refl _)⟩
            exact ⟨loc4, _, relc.move st5 (((ex2.trans ex3).trans ex4).trans ex5) (l3.trans l4), ((exA.trans ex4).trans ex5), lA.trans l4, ec⟩
          · cases ec
        · cases ec
      · rename_i hb
        rw [if_neg hb]
        exact ⟨loc3, q.2, relc.move rel3.st (ex2.trans ex3) l3, exA, lA, ec⟩
    · cases ec
  · have e0 : i = ws.length := by omega
    subst e0
    rw [List.drop_length, lcL] at ec
    split at ec
    · rename_i hgd
      obtain ⟨_, w2⟩ := wk ws.length Hc locc Mc relc.st exc lc1 hgd
      cases ec
      exact .inl ⟨w2 (Nat.le_refl _), aft1 _ Hc locc relc.st (.ref (pre_get lc hDn)) exc lc1⟩
    · cases ec
abbrev _root_.L2.Cx.bl (X : Cx) (scope : Scope) (s : Shared) (H : Hp) (C : Addr) (cl : List (Str × Addr)) (fp : List Addr) : Cx := X.blk s H scope (compEnvC scope cl C X.env) fp
theorem r_lc {ifs : List Expr} {scope : Scope} {own : List (Str × Nat)} {it : CI} {t : CT} (hN : X.N.Nodup) (hi : EI X tg iter it) (ok : blkC X.N X.env.scope scope own = true)
    (hg : ∀ s H C cl fp, EGw (Cx.bl X scope s H C cl fp) (own.map (·.2)) tg g) (ht : ∀ s H C cl fp, TTs (Cx.bl X scope s H C cl fp) ifs t)
    (he : ∀ s H C cl fp, EV (Cx.bl X scope s H C cl fp) e ca) (hc : X.calm = true := by rfl) (hs : ∀ x, foldedSetIterable iter X.env x = pure x := by intro _; rfl) :
    EV X (.ListComp e [⟨tg, iter, ifs, 0⟩] scope pos) (eLc it g t ca (own.map (·.2))) :=
  (pe_lc hc hN hi (blkOk_by ok) hg ht he hs).mono fun σV H Q h => lc_aux h
theorem s_setLc (i : Nat) {y : Str} {py spos : Pos} {ifs : List Expr} {scope : Scope} {own : List (Str × Nat)} {it : CI} {t : CT} (hN : X.N.Nodup) (hi : EI X tg iter it) (ok : blkC X.N X.env.scope scope own = true)
    (hg : ∀ s H C cl fp, EGw (Cx.bl X scope s H C cl fp) (own.map (·.2)) tg g) (ht : ∀ s H C cl fp, TTs (Cx.bl X scope s H C cl fp) ifs t)
    (he : ∀ s H C cl fp, EV (Cx.bl X scope s H C cl fp) e ca) (hy : X.N[i]? = some y := by rfl) (hyl : X.env.scope.names.lookup y = some .local := by rfl)
    (ha : (scope.names.any fun (n, k) => n == y && (k == .local || k == .cell)) = false := by decide +kernel) (hk : X.env.scope.kind = .function := by rfl) (hl : (py.line == pos.line) = true := by rfl)
    (hc : X.calm = true := by rfl) (hs : ∀ x, foldedSetIterable iter X.env x = pure x := by intro _; rfl) :
    ES X (.Assign [.Name y py] (.ListComp e [⟨tg, iter, ifs, 0⟩] scope pos) spos) (sSet (gV i) (eLc it g t ca (own.map (·.2)))) :=
  (ps_setLc hc hN hy hyl (sw_true hk hyl hl ha) hi (blkOk_by ok) hg ht he hs).mono fun D σV H ⟨loc, σ, M, o, rel, e, aft⟩ => by
    obtain ⟨p, hp, e⟩ := bind_some e
    cases e
    exact lc_aux (run1 rel hp fun v H1 loc1 rel1 rd1 ex1 l1 => aft _ H1 loc1 (rel1.set rd1 i) ex1 l1)
end
end BF

set_option Elab.async false
set_option linter.all false
set_option autoImplicit false
set_option maxRecDepth 100000
/-! The operations lifted, and the rule for a def. -/
namespace BF
open PySem PySem.Spec
open PyProof.Rows L2

section
variable {K : KW}

theorem Lift2.or {r r' : R2} {g : Mem → W → W → Option (W × Mem)} (h : ∀ H loc M x y v u w M' Q, Store K H loc M → Rd K H loc v x → Rd K H loc u y → g M x y = some (w, M') → Aft K H loc w M' Q → r v u H Q ∨ r' v u H Q) :
    Lift2 K (fun x y H Q => r x y H Q ∨ r' x y H Q) g := h
/-- two ints in, a value out -/
theorem lift_int {C : Int → Int → Prop} {f : Int → Int → V} {f' : Int → Int → W} {g : Mem → W → W → Option (W × Mem)}
    (hg : ∀ M x y p, g M x y = some p → ∃ i j, x = .int i ∧ y = .int j ∧ C i j ∧ p = (f' i j, M)) (hf : ∀ H loc i j, Rd K H loc (f i j) (f' i j)) : Lift2 K (rI C f) g := by
  intro H loc M x y v u w M' Q s rx ry e aft
  obtain ⟨i, j, rfl, rfl, hC, e2⟩ := hg M x y _ e
  cases e2
  cases rx; cases ry
  exact ⟨i, j, rfl, rfl, hC, aft _ H loc s (hf H loc i j) .refl (List.prefix_refl _)⟩
theorem lift_int0 {f : Int → Int → V} {f' : Int → Int → W} {g : Mem → W → W → Option (W × Mem)}
    (hg : ∀ M x y p, g M x y = some p → ∃ i j, x = .int i ∧ y = .int j ∧ p = (f' i j, M)) (hf : ∀ H loc i j, Rd K H loc (f i j) (f' i j)) : Lift2 K (rI0 f) g := by
  intro H loc M x y v u w M' Q s rx ry e aft
  obtain ⟨i, j, rfl, rfl, e2⟩ := hg M x y _ e
  cases e2
  cases rx; cases ry
  exact ⟨i, j, rfl, rfl, aft _ H loc s (hf H loc i j) .refl (List.prefix_refl _)⟩
theorem l_sub : Lift2 K (rI0 fun i j => .int (i - j)) gSub := lift_int0 (f' := fun i j => .int (i - j)) (fun M x y p h => by
  unfold gSub at h; split at h
  · cases h; exact ⟨_, _, rfl, rfl, rfl⟩
  · cases h) fun _ _ _ _ => .int _
theorem l_lt : Lift2 K (rI0 fun i j => .bl (decide (i < j))) gLt := lift_int0 (f' := fun i j => .bl (decide (i < j))) (fun M x y p h => by
  unfold gLt at h; split at h
  · cases h; exact ⟨_, _, rfl, rfl, rfl⟩
  · cases h) fun _ _ _ _ => .bl _
theorem l_le : Lift2 K (rI0 fun i j => .bl (decide (i ≤ j))) gLe := lift_int0 (f' := fun i j => .bl (decide (i ≤ j))) (fun M x y p h => by
  unfold gLe at h; split at h
  · cases h; exact ⟨_, _, rfl, rfl, rfl⟩
  · cases h) fun _ _ _ _ => .bl _
theorem l_gt : Lift2 K (rI0 fun i j => .bl (decide (j < i))) gGt := lift_int0 (f' := fun i j => .bl (decide (j < i))) (fun M x y p h => by
  unfold gGt at h; split at h
  · cases h; exact ⟨_, _, rfl, rfl, rfl⟩
  · cases h) fun _ _ _ _ => .bl _
theorem l_ge : Lift2 K (rI0 fun i j => .bl (decide (j ≤ i))) gGe := lift_int0 (f' := fun i j => .bl (decide (j ≤ i))) (fun M x y p h => by
  unfold gGe at h; split at h
  · cases h; exact ⟨_, _, rfl, rfl, rfl⟩
  · cases h) fun _ _ _ _ => .bl _
theorem small64_iff {i : Int} (h : small64 i = true) : -(2 ^ 64) < i ∧ i < 2 ^ 64 := by
  have := Nat.le_of_ble_eq_true h
  omega
theorem l_mul : Lift2 K (rI CMul fun i j => .int (i * j)) gMul := lift_int (f' := fun i j => .int (i * j)) (fun M x y p h => by
  unfold gMul at h; split at h
  · split at h
    · rename_i hs
      cases h
      exact ⟨_, _, rfl, rfl, hs.elim (fun q => .inl (small64_iff q)) (fun q => .inr (small64_iff q)), rfl⟩
    · cases h
  · cases h) fun _ _ _ _ => .int _
theorem l_mod : Lift2 K (rI (fun _ j => 0 < j) fun i j => .int (i % j)) gMod := lift_int (f' := fun i j => .int (i % j)) (fun M x y p h => by
  unfold gMod at h; split at h
  · split at h
    · rename_i hs
      cases h
      exact ⟨_, _, rfl, rfl, hs, rfl⟩
    · cases h
  · cases h) fun _ _ _ _ => .int _
theorem l_div : Lift2 K (rI CDivW fun i j => .int (i / j)) gDiv := lift_int (f' := fun i j => .int (i / j)) (fun M x y p h => by
  unfold gDiv at h; split at h
  · split at h
    · rename_i hs
      cases h
      refine ⟨_, _, rfl, rfl, wide_div (b := 64) hs.1 (by have := small64_iff hs.2; omega) (by decide) (by decide), rfl⟩
    · cases h
  · cases h) fun _ _ _ _ => .int _
theorem l_pow : Lift2 K (rI CPow fun i j => .int (i ^ j.toNat)) gPow := lift_int (f' := fun i j => .int (i ^ j.toNat)) (fun M x y p h => by
  unfold gPow at h; split at h
  · split at h
    · rename_i hs
      cases h
      obtain ⟨h1, h2, h3⟩ := hs
      have h4 := small62_iff h3
      exact ⟨_, _, rfl, rfl, ⟨h1, by omega, by omega⟩, rfl⟩
    · cases h
  · cases h) fun _ _ _ _ => .int _
theorem l_neg : Lift1 K (rU fun i => .int (-i)) gNeg := by
  intro H loc M x v w M' Q s rx e aft
  unfold gNeg at e
  split at e
  · cases e
    cases rx
    exact ⟨_, rfl, aft _ H loc s (.int _) .refl (List.prefix_refl _)⟩
  · cases e
theorem strOk_append {a b : Str} (ha : PyData.strOk a = true) (hb : PyData.strOk b = true) : PyData.strOk (a ++ b) = true := by
  have e : (a ++ b).cps = a.cps ++ b.cps := rfl
  unfold PyData.strOk at *
  rw [e, Array.all_append, ha, hb]
  rfl
theorem length_append_str (a b : Str) : (a ++ b).length = a.length + b.length := by
  show (a.cps ++ b.cps).size = a.cps.size + b.cps.size
  rw [Array.size_append]
abbrev rAddW (K : KW) : R2 := fun x y H Q => rI0 (fun i j => .int (i + j)) x y H Q ∨ ((∃ i j, x = .str i ∧ y = .str j ∧ i.length + j.length ≤ sizeLine ∧ Q (.str (i ++ j)) H) ∨ (rCatA K x y H Q ∨ rCat x y H Q))
theorem o_add {X : Cx} : OpR X (binaryOp .Add) (rAddW X.KW) := op_add.or (op_add_str.or (op_catA.or op_cat))
theorem l_add : Lift2 K (rAddW K) gAdd := by
  intro H loc M x y v u w M' Q s rx ry e aft
  unfold gAdd at e
  split at e
  · cases e
    cases rx; cases ry
    exact .inl ⟨_, _, rfl, rfl, aft _ H loc s (.int _) .refl (List.prefix_refl _)⟩
  · split at e
    · rename_i hl
      cases e
      cases rx with
      | str a ha ha2 =>
        cases ry with
        | str b hb hb2 => exact .inr (.inl ⟨_, _, rfl, rfl, hl, aft _ H loc s (.str _ (strOk_append ha hb) (by rw [length_append_str]; exact hl)) .refl (List.prefix_refl _)⟩)
    · cases e
  · split at e
    · rename_i hl
      cases e
      cases rx with
      | @tup p xs ws sq rs =>
        cases ry with
        | @tup q ys zs sq' rs' =>
          refine .inr (.inr (.inl ⟨_, _, _, _, rfl, rfl, sq, sq', by rw [rs.length, rs'.length]; exact hl, fun z => ?_, fun z z' => ?_, fun z z' r hr => ?_⟩))
          · subst z
            cases rs
            exact aft _ H loc s (.tup sq' rs') .refl (List.prefix_refl _)
          · subst z'
            cases rs'
            rw [List.append_nil] at aft
            exact aft _ H loc s (.tup sq rs) .refl (List.prefix_refl _)
          · exact aft_tup s (rs.append rs') hr aft
    · cases e
  · split at e
    · rename_i hx hy
      split at e
      · rename_i hl
        cases e
        cases rx with
        | ref ha =>
          cases ry with
          | ref hb =>
            obtain ⟨us, h1, h2⟩ := s.ok _ _ _ ha hx
            obtain ⟨zs, h3, h4⟩ := s.ok _ _ _ hb hy
            exact .inr (.inr (.inr ⟨_, _, _, _, rfl, rfl, h1, h3, by rw [h2.length, h4.length]; exact hl, fun r hr => aft_lst s (h2.append h4) hr aft⟩))
      · cases e
    · cases e
  · cases e

/-! ### == -/
theorem mapO_get {α β : Type} {f : α → Option β} : ∀ {as : List α} {bs : List β}, mapO f as = some bs → Paired (fun a b => f a = some b) as bs
  | [], bs, h => by cases h; exact .nil
  | a :: as, bs, h => by
    rw [mapO] at h
    split at h
    · rename_i b bs' h1 h2
      cases h
      exact .cons h1 (mapO_get h2)
    · cases h
theorem toD_ok {H : Hp} {loc : List Addr} {M : Mem} (s : Store K H loc M) : ∀ (k : Nat) (v : V) (w : W) (d : PyData), Rd K H loc v w → toD M k w = some d → Dp K H v d ∧ d.canLay0 = true ∧ d.depth ≤ k
  | 0, _, _, _, _, h => by cases h
  | k + 1, v, w, d, r, h => by
    have all : ∀ (ws : List W) (vs : List V) (ds : List PyData), Rds K H loc vs ws → Paired (fun a b => toD M k a = some b) ws ds → DpAll K H vs ds ∧ PyData.canLayAll0 ds = true ∧ PyData.depthAll ds ≤ k := by
      intro ws
      induction ws with
      | nil =>
        intro vs ds r1 r2
        cases r1; cases r2
        exact ⟨.nil, rfl, Nat.zero_le _⟩
      | cons w ws ih =>
        intro vs ds r1 r2
        cases r1 with
        | cons a b =>
          cases r2 with
          | cons c d =>
            obtain ⟨g1, g2, g3⟩ := toD_ok s k _ _ _ a c
            obtain ⟨g4, g5, g6⟩ := ih _ _ b d
            refine ⟨.cons g1 g4, by rw [PyData.canLayAll0, g2, g5]; rfl, ?_⟩
            rw [PyData.depthAll]
            exact Nat.max_le.mpr ⟨g3, g6⟩
    cases r with
    | non => cases h; exact ⟨.non, by simp [PyData.canLay0], by simp [PyData.depth]⟩
    | bl b => cases h; exact ⟨.bl b, by simp [PyData.canLay0], by simp [PyData.depth]⟩
    | int i => cases h; exact ⟨.int i, by simp [PyData.canLay0], by simp [PyData.depth]⟩
    | str x hx => cases h; exact ⟨.str x, by simp [PyData.canLay0, hx], by simp [PyData.depth]⟩
    | @tup a xs ws sq rs =>
      rw [toD] at h
      obtain ⟨ds, h1, rfl⟩ := Option.map_eq_some_iff.mp h
      obtain ⟨g1, g2, g3⟩ := all ws xs ds rs (mapO_get h1)
      exact ⟨.tup sq g1, by rw [PyData.canLay0]; exact g2, by rw [PyData.depth]; omega⟩
    | @ref a n hn =>
      rw [toD] at h
      split at h
      · rename_i ws hw
        obtain ⟨ds, h1, rfl⟩ := Option.map_eq_some_iff.mp h
        obtain ⟨xs, q1, q2⟩ := s.ok _ _ _ hn hw
        obtain ⟨g1, g2, g3⟩ := all ws xs ds q2 (mapO_get h1)
        exact ⟨.lst (SqL.of q1) g1, by rw [PyData.canLay0]; exact g2, by rw [PyData.depth]; omega⟩
      · rename_i ws hw
        obtain ⟨ds, h1, rfl⟩ := Option.map_eq_some_iff.mp h
        obtain ⟨xs, q1, q2⟩ := s.ok _ _ _ hn hw
        obtain ⟨g1, g2, g3⟩ := all ws xs ds q2 (mapO_get h1)
        exact ⟨.lst q1.sq g1, by rw [PyData.canLay0]; exact g2, by rw [PyData.depth]; omega⟩
      · cases h
theorem eqW_ok {H : Hp} {loc : List Addr} {M : Mem} {v u : V} {x y : W} {b : Bool} (s : Store K H loc M) (rx : Rd K H loc v x) (ry : Rd K H loc u y) (h : eqW M x y = some b) :
    ∃ d e, Dp K H v d ∧ Dp K H u e ∧ SeqAt.shaped d = true ∧ SeqAt.shaped e = true ∧ PyData.eqv d e = b := by
  unfold eqW at h
  split at h
  · rename_i d e hd he
    cases h
    obtain ⟨g1, g2, g3⟩ := toD_ok s 64 v x d rx hd
    obtain ⟨g4, g5, g6⟩ := toD_ok s 64 u y e ry he
    exact ⟨d, e, g1, g4, by rw [SeqAt.shaped, g2, decide_eq_true g3]; rfl, by rw [SeqAt.shaped, g5, decide_eq_true g6]; rfl, rfl⟩
  · cases h
theorem l_eq : Lift2 K (rEqD K) gEq := by
  intro H loc M x y v u w M' Q s rx ry e aft
  obtain ⟨b, hb, e⟩ := Option.map_eq_some_iff.mp e
  cases e
  obtain ⟨d, d2, h1, h2, h3, h4, rfl⟩ := eqW_ok s rx ry hb
  exact ⟨d, d2, h1, h2, h3, h4, aft _ H loc s (.bl _) .refl (List.prefix_refl _)⟩
theorem l_ne : Lift2 K (rNeD K) gNe := by
  intro H loc M x y v u w M' Q s rx ry e aft
  obtain ⟨b, hb, e⟩ := Option.map_eq_some_iff.mp e
  cases e
  obtain ⟨d, d2, h1, h2, h3, h4, rfl⟩ := eqW_ok s rx ry hb
  exact ⟨d, d2, h1, h2, h3, h4, aft _ H loc s (.bl _) .refl (List.prefix_refl _)⟩

/-! ### items and slices -/
theorem ixW_eq (n : Nat) (i : Int) : ixW n i = ixN n i := rfl
theorem at_some {vs : List V} {ws : List W} {H : Hp} {loc : List Addr} {i : Int} {w : W} (r : Rds K H loc vs ws) (h : ((ixW ws.length i).bind fun j => ws[j]?) = some w) : ∃ v, atI vs i = some v ∧ Rd K H loc v w := by
  obtain ⟨j, h1, h2⟩ := bind_some h
  obtain ⟨v, g1, g2⟩ := r.get h2
  exact ⟨v, by unfold atI; rw [r.length, ← ixW_eq, h1]; exact g1, g2⟩
theorem l_ix : Lift2 K (rIx K) gIx := by
  intro H loc M x y v u w M' Q s rx ry e aft
  unfold gIx at e
  split at e
  · obtain ⟨z, hz, e⟩ := Option.map_eq_some_iff.mp e
    cases e
    cases ry
    cases rx with
    | @tup a xs ws sq rs =>
      obtain ⟨z', h1, h2⟩ := at_some rs hz
      exact .inr (.inl ⟨a, xs, _, z', rfl, rfl, sq, h1, aft _ H loc s h2 .refl (List.prefix_refl _)⟩)
  · cases ry
    cases rx with
    | @ref a n hn =>
      split at e
      · rename_i ws hw
        obtain ⟨z, hz, e⟩ := Option.map_eq_some_iff.mp e
        cases e
        obtain ⟨xs, q1, q2⟩ := s.ok _ _ _ hn hw
        obtain ⟨z', h1, h2⟩ := at_some q2 hz
        exact .inl ⟨a, xs, _, z', rfl, rfl, SqL.of q1, h1, aft _ H loc s h2 .refl (List.prefix_refl _)⟩
      · rename_i ws hw
        obtain ⟨z, hz, e⟩ := Option.map_eq_some_iff.mp e
        cases e
        obtain ⟨xs, q1, q2⟩ := s.ok _ _ _ hn hw
        obtain ⟨z', h1, h2⟩ := at_some q2 hz
        exact .inl ⟨a, xs, _, z', rfl, rfl, q1.sq, h1, aft _ H loc s h2 .refl (List.prefix_refl _)⟩
      · cases e
  · cases e
theorem sIx_eq (n d : Nat) (o : Option Int) : sIx n d o = HT.sIx n d o := by
  cases o <;> rfl
theorem Rds.cut {H : Hp} {loc : List Addr} {vs : List V} {ws : List W} (r : Rds K H loc vs ws) (lo hi : Option Int) : Rds K H loc (cutV vs lo hi) (cutW ws lo hi) := by
  unfold cutV cutW
  rw [← r.length, sIx_eq, sIx_eq]
  exact (r.drop _).take _
theorem cut_whole {α : Type} {xs : List α} {lo hi : Option Int} (h : sIx xs.length 0 lo = 0 ∧ sIx xs.length xs.length hi = xs.length) : cutW xs lo hi = xs := by
  unfold cutW
  rw [h.1, h.2, List.drop_zero, Nat.sub_zero, List.take_length]
abbrev rSlW (K : KW) : V → Option Int → Option Int → Hp → VK → Prop := fun x lo hi H Q => rSlA K x lo hi H Q ∨ rSlL K x lo hi H Q
theorem o_sl {X : Cx} : SlR X (rSlW X.KW) := sl_tupA.or sl_list
theorem l_sl : LiftS K (rSlW K) gSl := by
  intro H loc M x v lo hi w M' Q s rx e aft
  unfold gSl at e
  split at e
  · cases e
    cases rx with
    | @tup a xs ws sq rs =>
      refine .inl ⟨a, xs, rfl, sq, fun hw => ?_, fun _ p hp => aft_tup s (rs.cut lo hi) hp aft⟩
      rw [rs.length, ← sIx_eq, ← sIx_eq] at hw
      rw [cut_whole hw] at aft
      exact aft _ H loc s (.tup sq rs) .refl (List.prefix_refl _)
  · cases rx with
    | @ref a n hn =>
      split at e
      · rename_i ws hw
        cases e
        obtain ⟨xs, q1, q2⟩ := s.ok _ _ _ hn hw
        exact .inr ⟨a, xs, rfl, SqL.of q1, fun p hp => aft_lst s (q2.cut lo hi) hp aft⟩
      · cases e
  · cases e

/-! ### calls -/
theorem n_len : LiftN K (fun xs H Q => ∃ p ys, xs = [.ref p] ∧ (SqL K H p ys ∨ SqT K H p ys) ∧ Q (.int ys.length) H) pLen := by
  intro H loc M ws vs w M' Q s r e aft
  unfold pLen at e
  split at e
  · cases e
    match vs, r with
    | [_], .cons (.tup (a := a) (xs := xs) sq rs) .nil =>
      refine ⟨a, xs, rfl, .inr sq, ?_⟩
      rw [rs.length]
      exact aft _ H loc s (.int _) .refl (List.prefix_refl _)
  · match vs, r with
    | [_], .cons (.ref (a := a) hn) .nil =>
      split at e
      · rename_i zs hz
        cases e
        obtain ⟨xs, q1, q2⟩ := s.ok _ _ _ hn hz
        refine ⟨a, xs, rfl, .inl (SqL.of q1), ?_⟩
        rw [q2.length]
        exact aft _ H loc s (.int _) .refl (List.prefix_refl _)
      · rename_i zs hz
        cases e
        obtain ⟨xs, q1, q2⟩ := s.ok _ _ _ hn hz
        refine ⟨a, xs, rfl, .inl q1.sq, ?_⟩
        rw [q2.length]
        exact aft _ H loc s (.int _) .refl (List.prefix_refl _)
      · cases e
  · cases e
theorem n_min : LiftN K (fun xs H Q => ∃ i j, xs = [.int i, .int j] ∧ Q (.int (if j < i then j else i)) H) pMin := by
  intro H loc M ws vs w M' Q s r e aft
  unfold pMin at e
  split at e
  · cases e
    match vs, r with
    | [_, _], .cons (.int _) (.cons (.int _) .nil) => exact ⟨_, _, rfl, aft _ H loc s (.int _) .refl (List.prefix_refl _)⟩
  · cases e
theorem n_max : LiftN K (fun xs H Q => ∃ i j, xs = [.int i, .int j] ∧ Q (.int (if j > i then j else i)) H) pMax := by
  intro H loc M ws vs w M' Q s r e aft
  unfold pMax at e
  split at e
  · cases e
    match vs, r with
    | [_, _], .cons (.int _) (.cons (.int _) .nil) => exact ⟨_, _, rfl, aft _ H loc s (.int _) .refl (List.prefix_refl _)⟩
  · cases e
theorem n_abs : LiftN K (fun xs H Q => ∃ i, xs = [.int i] ∧ Q (.int (if i < 0 then -i else i)) H) pAbs := by
  intro H loc M ws vs w M' Q s r e aft
  unfold pAbs at e
  split at e
  · cases e
    match vs, r with
    | [_], .cons (.int _) .nil => exact ⟨_, rfl, aft _ H loc s (.int _) .refl (List.prefix_refl _)⟩
  · cases e
theorem n_list : LiftN K (fun xs H Q => ∃ p ys, xs = [.ref p] ∧ (SqL K H p ys ∨ SqT K H p ys) ∧ ∀ l, H l = none → Q (.ref l) (upd H l (.lst ys))) pList := by
  intro H loc M ws vs w M' Q s r e aft
  unfold pList at e
  split at e
  · cases e
    match vs, r with
    | [_], .cons (.tup (a := a) (xs := xs) sq rs) .nil => exact ⟨a, xs, rfl, .inr sq, fun l hl => aft_lst s rs hl aft⟩
  · match vs, r with
    | [_], .cons (.ref (a := a) hn) .nil =>
      split at e
      · rename_i zs hz
        cases e
        obtain ⟨xs, q1, q2⟩ := s.ok _ _ _ hn hz
        exact ⟨a, xs, rfl, .inl (SqL.of q1), fun l hl => aft_lst s q2 hl aft⟩
      · rename_i zs hz
        cases e
        obtain ⟨xs, q1, q2⟩ := s.ok _ _ _ hn hz
        exact ⟨a, xs, rfl, .inl q1.sq, fun l hl => aft_lst s q2 hl aft⟩
      · cases e
  · cases e
theorem n_tuple : LiftN K (fun xs H Q => ∃ p ys, xs = [.ref p] ∧ ((SqL K H p ys ∧ ∀ l, H l = none → Q (.ref l) (upd H l (.tup ys))) ∨ (SqT K H p ys ∧ Q (.ref p) H))) pTuple := by
  intro H loc M ws vs w M' Q s r e aft
  unfold pTuple at e
  split at e
  · cases e
    match vs, r with
    | [_], .cons (.tup (a := a) (xs := xs) sq rs) .nil => exact ⟨a, xs, rfl, .inr ⟨sq, aft _ H loc s (.tup sq rs) .refl (List.prefix_refl _)⟩⟩
  · match vs, r with
    | [_], .cons (.ref (a := a) hn) .nil =>
      split at e
      · rename_i zs hz
        cases e
        obtain ⟨xs, q1, q2⟩ := s.ok _ _ _ hn hz
        exact ⟨a, xs, rfl, .inl ⟨SqL.of q1, fun l hl => aft_tup s q2 hl aft⟩⟩
      · rename_i zs hz
        cases e
        obtain ⟨xs, q1, q2⟩ := s.ok _ _ _ hn hz
        exact ⟨a, xs, rfl, .inl ⟨q1.sq, fun l hl => aft_tup s q2 hl aft⟩⟩
      · cases e
  · cases e
/-- a list is changed: what is wanted behind it -/
theorem aft_put {H : Hp} {loc : List Addr} {M : Mem} {a : Addr} {n : Nat} {ws us : List W} {xs ys : List V} {w : W} {v : V} {Q : VK} (s : Store K H loc M) (hn : loc[n]? = some a) (hw : M[n]? = some (.lst ws)) (hx : H a = some (.lst xs))
    (ry : Rds K H loc ys us) (rv : Rd K H loc v w) (aft : Aft K H loc w (M.set n (.lst us)) Q) : Q v (upd H a (.lst ys)) := by
  have ex : Ext K H (upd H a (.lst ys)) := .upd hx trivial
  exact aft _ _ loc (s.put hn hw rfl rfl ⟨ys, upd_same, ry.mono ex (List.prefix_refl _)⟩) (rv.mono ex (List.prefix_refl _)) ex (List.prefix_refl _)
theorem m_append : LiftN K (fun vs H Q => ∃ v us, vs = v :: us ∧ rAppend v us H Q) mAppend := by
  intro H loc M ws vs w M' Q s r e aft
  unfold mAppend at e
  split at e
  · match vs, r with
    | [_, v], .cons (.ref (a := a) hn) (.cons rv .nil) =>
      split at e
      · rename_i zs hz
        split at e
        · rename_i hl
          cases e
          obtain ⟨xs, q1, q2⟩ := s.ok _ _ _ hn hz
          exact ⟨_, _, rfl, a, xs, v, rfl, rfl, q1, by rw [q2.length]; exact hl, aft_put s hn hz q1 (q2.append (.cons rv .nil)) .non aft⟩
        · cases e
      · cases e
  · cases e
theorem m_pop : LiftN K (fun vs H Q => ∃ v us, vs = v :: us ∧ rPop v us H Q) mPop := by
  intro H loc M ws vs w M' Q s r e aft
  unfold mPop at e
  split at e
  · match vs, r with
    | [_], .cons (.ref (a := a) hn) .nil =>
      split at e
      · rename_i zs hz
        obtain ⟨z, hz1, e⟩ := Option.map_eq_some_iff.mp e
        cases e
        obtain ⟨xs, q1, q2⟩ := s.ok _ _ _ hn hz
        obtain ⟨v, g1, g2⟩ := q2.get hz1
        rw [← q2.length] at g1
        exact ⟨_, _, rfl, a, xs, v, rfl, rfl, q1, g1, aft_put s hn hz q1 q2.dropLast g2 aft⟩
      · cases e
  · cases e
theorem m_popAt : LiftN K (fun vs H Q => ∃ v us, vs = v :: us ∧ rPopAt v us H Q) mPopAt := by
  intro H loc M ws vs w M' Q s r e aft
  unfold mPopAt at e
  split at e
  · match vs, r with
    | [_, _], .cons (.ref (a := a) hn) (.cons (.int i) .nil) =>
      split at e
      · rename_i zs hz
        split at e
        · rename_i h62
          obtain ⟨j, hj, e⟩ := bind_some e
          obtain ⟨z, hz1, e⟩ := Option.map_eq_some_iff.mp e
          cases e
          obtain ⟨xs, q1, q2⟩ := s.ok _ _ _ hn hz
          obtain ⟨v, g1, g2⟩ := q2.get hz1
          obtain ⟨b1, b2⟩ := small62_iff h62
          rw [ixW_eq] at hj
          obtain ⟨s1, _, _, _⟩ := ixN_seq hj
          exact ⟨_, _, rfl, a, xs, i, j, v, rfl, rfl, q1, by omega, by omega, by rw [q2.length]; exact s1, g1, aft_put s hn hz q1 (q2.erase j) g2 aft⟩
        · cases e
      · cases e
  · cases e
theorem p_lst : LiftP K rSetL putL := by
  intro H loc M x y z o i v M' Q s rx ry rz e h
  unfold putL at e
  split at e
  · cases ry
    cases rx with
    | @ref a n hn =>
      split at e
      · rename_i ws hw
        obtain ⟨j, hj, rfl⟩ := Option.map_eq_some_iff.mp e
        obtain ⟨xs, q1, q2⟩ := s.ok _ _ _ hn hw
        rw [ixW_eq, ← q2.length] at hj
        refine ⟨a, xs, _, j, rfl, rfl, q1, hj, ?_⟩
        have ex : Ext K H (upd H a (.lst (xs.set j v))) := .upd q1 trivial
        exact h _ loc (s.put hn hw rfl rfl ⟨_, upd_same, (q2.set rz j).mono ex (List.prefix_refl _)⟩) ex (List.prefix_refl _)
      · cases e
  · cases e

/-! ### a def -/
mutual
theorem Rd.closed {H : Hp} {loc : List Addr} : ∀ {v : V} {w : W}, Rd K H loc v w → w.closed loc.length = true
  | _, _, .non => by simp [W.closed]
  | _, _, .bl b => by simp [W.closed]
  | _, _, .int i => by simp [W.closed]
  | _, _, .str x _ _ => by simp [W.closed]
  | _, _, .tup _ r => by rw [W.closed]; exact Rds.closed r
  | _, _, .ref h => by rw [W.closed]; exact decide_eq_true (List.getElem?_eq_some_iff.mp h).1
theorem Rds.closed {H : Hp} {loc : List Addr} : ∀ {vs : List V} {ws : List W}, Rds K H loc vs ws → W.closeds loc.length ws = true
  | _, _, .nil => by simp [W.closeds]
  | _, _, .cons r rs => by rw [W.closeds, Rd.closed r, Rds.closed rs]; rfl
end
mutual
theorem Rd.cutLoc {H : Hp} {loc : List Addr} {k : Nat} : ∀ {v : V} {w : W}, Rd K H loc v w → w.closed k = true → Rd K H (loc.take k) v w
  | _, _, .non, _ => .non
  | _, _, .bl b, _ => .bl b
  | _, _, .int i, _ => .int i
  | _, _, .str x h h2, _ => .str x h h2
  | _, _, .tup h r, c => .tup h (Rds.cutLoc r (by rw [W.closed] at c; exact c))
  | _, _, .ref h, c => .ref (by rw [W.closed] at c; rw [List.getElem?_take, if_pos (of_decide_eq_true c)]; exact h)
theorem Rds.cutLoc {H : Hp} {loc : List Addr} {k : Nat} : ∀ {vs : List V} {ws : List W}, Rds K H loc vs ws → W.closeds k ws = true → Rds K H (loc.take k) vs ws
  | _, _, .nil, _ => .nil
  | _, _, .cons r rs, c => by
    rw [W.closeds, Bool.and_eq_true] at c
    exact .cons (Rd.cutLoc r c.1) (Rds.cutLoc rs c.2)
end
theorem closeds_mem {k : Nat} : ∀ {ws : List W} {w : W}, W.closeds k ws = true → w ∈ ws → w.closed k = true
  | [], _, _, h => by cases h
  | u :: ws, w, c, h => by
    rw [W.closeds, Bool.and_eq_true] at c
    rcases List.mem_cons.mp h with rfl | h
    · exact c.1
    · exact closeds_mem c.2 h
theorem closeds_of {k : Nat} : ∀ {ws : List W}, (∀ w ∈ ws, w.closed k = true) → W.closeds k ws = true
  | [], _ => rfl
  | u :: ws, h => by
    rw [W.closeds, Bool.and_eq_true]
    exact ⟨h u List.mem_cons_self, closeds_of fun w hw => h w (List.mem_cons_of_mem _ hw)⟩
theorem closed_vals {k : Nat} {ws : List (W × W)} (c : (MO.dK ws).closed k = true) : W.closeds k (ws.map (·.2)) = true := by
  rw [MO.closed, List.all_eq_true] at c
  refine closeds_of fun w hw => ?_
  obtain ⟨p, hp, rfl⟩ := List.mem_map.mp hw
  have := c p hp
  rw [Bool.and_eq_true] at this
  exact this.2
theorem closed_both {k : Nat} {ws : List (W × W)} (h1 : W.closeds k (ws.map (·.1)) = true) (h2 : W.closeds k (ws.map (·.2)) = true) : (ws.all fun p => p.1.closed k && p.2.closed k) = true := by
  rw [List.all_eq_true]
  intro p hp
  rw [Bool.and_eq_true]
  exact ⟨closeds_mem h1 (List.mem_map_of_mem hp), closeds_mem h2 (List.mem_map_of_mem hp)⟩
theorem closed_keyW {k : Nat} {kvs : List (Key × V)} {ws : List (W × W)} (h : kvs.map (fun p => keyW p.1) = ws.map (·.1)) : W.closeds k (ws.map (·.1)) = true := by
  rw [← h]
  refine closeds_of fun w hw => ?_
  obtain ⟨p, _, rfl⟩ := List.mem_map.mp hw
  cases p.1 <;> rfl
theorem closed_keys {k : Nat} {m : DM} {ws : List (W × W)} (c : (MO.dT m ws).closed k = true) : W.closeds k (ws.map (·.1)) = true ∧ W.closeds k (ws.map (·.2)) = true := by
  rw [MO.closed, List.all_eq_true] at c
  refine ⟨closeds_of fun w hw => ?_, closeds_of fun w hw => ?_⟩ <;> obtain ⟨p, hp, rfl⟩ := List.mem_map.mp hw <;> have := c p hp <;> rw [Bool.and_eq_true] at this
  · exact this.1
  · exact this.2
theorem MOk.closed {H : Hp} {loc : List Addr} {a : Addr} {mo : MO} (h : MOk K H loc a mo) : mo.closed loc.length = true := by
  cases mo with
  | lst ws => obtain ⟨xs, _, r⟩ := h; exact r.closed
  | ro ws => obtain ⟨xs, _, r⟩ := h; exact r.closed
  | dT m ws =>
    cases m with
    | nest => obtain ⟨es, h1, h2⟩ := h; exact closed_both h2.ks.closed h2.vs.closed
    | lockF => obtain ⟨o, es, h1, h2⟩ := h; exact closed_both (closed_keyW h2.keys) h2.vs.closed
    | lockN => obtain ⟨o, es, h1, h2⟩ := h; exact closed_both h2.ks.closed h2.vs.closed
  | dK ws =>
    obtain ⟨kvs, _, h2, _, r⟩ := h
    rw [MO.closed, List.all_eq_true]
    intro p hp
    rw [Bool.and_eq_true]
    refine ⟨?_, ?_⟩
    · have : p.1 ∈ ws.map (·.1) := List.mem_map_of_mem hp
      rw [← h2] at this
      obtain ⟨q, _, e⟩ := List.mem_map.mp this
      rw [← e]
      cases q.1 <;> rfl
    · exact closeds_mem r.closed (List.mem_map_of_mem hp)
theorem MOk.cutLoc {H : Hp} {loc : List Addr} {a : Addr} {mo : MO} {k : Nat} (h : MOk K H loc a mo) (c : mo.closed k = true) : MOk K H (loc.take k) a mo := by
  cases mo with
  | lst ws => obtain ⟨xs, h1, r⟩ := h; exact ⟨xs, h1, r.cutLoc c⟩
  | ro ws => obtain ⟨xs, h1, r⟩ := h; exact ⟨xs, h1, r.cutLoc c⟩
  | dT m ws =>
    obtain ⟨c1, c2⟩ := closed_keys c
    cases m with
    | nest => obtain ⟨es, h1, h2⟩ := h; exact ⟨es, h1, h2.keys, h2.dep, h2.ks.cutLoc c1, h2.vs.cutLoc c2⟩
    | lockF => obtain ⟨o, es, h1, h2⟩ := h; exact ⟨o, es, h1, h2.keys, h2.ok, h2.vs.cutLoc c2⟩
    | lockN => obtain ⟨o, es, h1, h2⟩ := h; exact ⟨o, es, h1, h2.keys, h2.dep, h2.ks.cutLoc c1, h2.vs.cutLoc c2⟩
  | dK ws => obtain ⟨kvs, h1, h2, h3, r⟩ := h; exact ⟨kvs, h1, h2, h3, r.cutLoc (closed_vals c)⟩
theorem Store.closed {H : Hp} {loc : List Addr} {M : Mem} (s : Store K H loc M) : Closed M := fun mo hm => by
  obtain ⟨i, hi⟩ := List.getElem?_of_mem hm
  obtain ⟨a, h1, h2⟩ := s.at hi
  rw [← s.len]
  exact h2.closed
theorem Rds.each {H : Hp} {loc : List Addr} {vs : List V} {ws : List W} (r : Rds K H loc vs ws) : ∀ x ∈ ws, x.closed loc.length = true := fun x hx => by
  obtain ⟨i, hi⟩ := List.getElem?_of_mem hx
  obtain ⟨v, _, h⟩ := r.get hi
  exact h.closed
/-- what was laid last is forgotten -/
theorem Store.cut {H : Hp} {loc : List Addr} {M g : Mem} (s : Store K H loc (M ++ g)) (c : Closed M) : Store K H (loc.take M.length) M := by
  have hl := s.len
  rw [List.length_append] at hl
  refine ⟨by rw [List.length_take]; omega, fun i a mo h1 h2 => ?_, fun i j a m n h1 h2 h3 h4 => ?_⟩
  · have hi : i < M.length := (List.getElem?_eq_some_iff.mp h2).1
    rw [List.getElem?_take, if_pos hi] at h1
    refine (s.ok i a mo h1 ?_).cutLoc (c mo (List.mem_of_getElem? h2))
    rw [List.getElem?_append_left hi]; exact h2
  · have hi : i < M.length := (List.getElem?_eq_some_iff.mp h3).1
    have hj : j < M.length := (List.getElem?_eq_some_iff.mp h4).1
    rw [List.getElem?_take, if_pos hi] at h1
    rw [List.getElem?_take, if_pos hj] at h2
    exact s.apart i j a m n h1 h2 (by rw [List.getElem?_append_left hi]; exact h3) (by rw [List.getElem?_append_left hj]; exact h4)
/-- the addresses by other ids -/
def renLoc (loc : List Addr) (r : Nat → Nat) (n : Nat) : List Addr := (List.range n).map fun i => loc.getD (r i) 0
theorem renLoc_get {loc : List Addr} {r : Nat → Nat} {n i : Nat} {a : Addr} (hi : i < n) (h : loc[r i]? = some a) : (renLoc loc r n)[i]? = some a := by
  unfold renLoc
  rw [List.getElem?_map, List.getElem?_range hi]
  show some (loc.getD (r i) 0) = some _
  rw [List.getD_eq_getElem?_getD, h]; rfl
mutual
theorem Rd.unren {H : Hp} {loc : List Addr} {r : Nat → Nat} {n : Nat} (look : ∀ i, i < n → ∃ a, loc[r i]? = some a) : ∀ {v : V} {w : W}, Rd K H loc v (w.ren r) → w.closed n = true → Rd K H (renLoc loc r n) v w
  | _, .non, h, _ => by rw [W.ren] at h; cases h; exact .non
  | _, .bl b, h, _ => by rw [W.ren] at h; cases h; exact .bl b
  | _, .int i, h, _ => by rw [W.ren] at h; cases h; exact .int i
  | _, .str x, h, _ => by rw [W.ren] at h; cases h with | str _ h1 h2 => exact .str x h1 h2
  | _, .tup ws, h, c => by
    rw [W.ren] at h
    rw [W.closed] at c
    cases h with
    | tup sq rs => exact .tup sq (Rds.unren look rs c)
  | _, .ref k, h, c => by
    rw [W.ren] at h
    rw [W.closed] at c
    cases h with
    | ref ha => exact .ref (renLoc_get (of_decide_eq_true c) ha)
theorem Rds.unren {H : Hp} {loc : List Addr} {r : Nat → Nat} {n : Nat} (look : ∀ i, i < n → ∃ a, loc[r i]? = some a) : ∀ {vs : List V} {ws : List W}, Rds K H loc vs (W.rens r ws) → W.closeds n ws = true → Rds K H (renLoc loc r n) vs ws
  | _, [], h, _ => by rw [W.rens] at h; cases h; exact .nil
  | _, w :: ws, h, c => by
    rw [W.rens] at h
    rw [W.closeds, Bool.and_eq_true] at c
    cases h with
    | cons a b => exact .cons (Rd.unren look a c.1) (Rds.unren look b c.2)
end
theorem isMut_ren (r : Nat → Nat) (mo : MO) : isMut (mo.ren r) = isMut mo := by
  cases mo with
  | dT m _ => cases m <;> rfl
  | _ => rfl
theorem isOwn_ren (r : Nat → Nat) (mo : MO) : isOwn (mo.ren r) = isOwn mo := by cases mo <;> rfl
mutual
theorem keyN_ren (r : Nat → Nat) : ∀ w : W, keyN (w.ren r) = keyN w
  | .non => rfl
  | .bl _ => rfl
  | .int _ => rfl
  | .str _ => rfl
  | .tup ws => by rw [W.ren, keyN, keyN, keyNs_ren r ws]
  | .ref _ => rfl
theorem keyNs_ren (r : Nat → Nat) : ∀ ws : List W, keyNs (W.rens r ws) = keyNs ws
  | [] => rfl
  | w :: ws => by rw [W.rens, keyNs, keyNs, keyN_ren r w, keyNs_ren r ws]
end
theorem rens_map {r : Nat → Nat} : ∀ ws : List W, W.rens r ws = ws.map (W.ren r)
  | [] => rfl
  | w :: ws => by rw [W.rens, rens_map ws]; rfl
theorem key_ren {r : Nat → Nat} {w : W} {k : Key} (h : keyW k = w.ren r) : keyW k = w := by
  cases k <;> cases w <;> simp [keyW, W.ren] at h ⊢ <;> exact h
theorem keys_ren {r : Nat → Nat} : ∀ {kvs : List (Key × V)} {ws : List (W × W)}, kvs.map (fun p => keyW p.1) = (ws.map fun p => (p.1.ren r, p.2.ren r)).map (·.1) → kvs.map (fun p => keyW p.1) = ws.map (·.1)
  | [], [], _ => rfl
  | [], _ :: _, h => by cases h
  | _ :: _, [], h => by cases h
  | p :: kvs, q :: ws, h => by
    simp only [List.map_cons, List.cons.injEq] at h ⊢
    exact ⟨key_ren h.1, keys_ren h.2⟩
theorem MOk.unren {H : Hp} {loc : List Addr} {r : Nat → Nat} {n : Nat} (look : ∀ i, i < n → ∃ a, loc[r i]? = some a) {a : Addr} {mo : MO} (h : MOk K H loc a (mo.ren r)) (c : mo.closed n = true) : MOk K H (renLoc loc r n) a mo := by
  cases mo with
  | lst ws => obtain ⟨xs, h1, h2⟩ := h; exact ⟨xs, h1, Rds.unren look h2 c⟩
  | ro ws => obtain ⟨xs, h1, h2⟩ := h; exact ⟨xs, h1, Rds.unren look h2 c⟩
  | dT m ws =>
    obtain ⟨c1, c2⟩ := closed_keys c
    have k1 : ∀ {es : NE}, NestOk K H loc es (ws.map fun p => (p.1.ren r, p.2.ren r)) → NestOk K H (renLoc loc r n) es ws := fun {es} q => by
      have q1 := q.ks
      have q2 := q.vs
      have q3 := q.keys
      rw [List.map_map] at q1 q2 q3
      refine ⟨q3.trans (List.map_congr_left fun p _ => keyN_ren r p.1), q.dep, Rds.unren look ?_ c1, Rds.unren look ?_ c2⟩
      · rw [rens_map, List.map_map]; exact q1
      · rw [rens_map, List.map_map]; exact q2
    cases m with
    | nest => obtain ⟨es, h1, h2⟩ := h; exact ⟨es, h1, k1 h2⟩
    | lockF =>
      obtain ⟨o, kvs, h1, h2⟩ := h
      refine ⟨o, kvs, h1, keys_ren h2.keys, h2.ok, Rds.unren look ?_ c2⟩
      have q2 := h2.vs
      rw [List.map_map] at q2
      rw [rens_map, List.map_map]; exact q2
    | lockN => obtain ⟨o, es, h1, h2⟩ := h; exact ⟨o, es, h1, k1 h2⟩
  | dK ws =>
    obtain ⟨kvs, h1, h2, h3, h4⟩ := h
    refine ⟨kvs, h1, ?_, h3, Rds.unren look ?_ (closed_vals c)⟩
    · exact keys_ren h2
    · rw [rens_map]
      rw [List.map_map] at h4 ⊢
      exact h4
theorem Store.ren {H : Hp} {loc : List Addr} {M M2 : Mem} {r : Nat → Nat} (s : Store K H loc M2) (c : Closed M) (hr : ∀ (i : Nat) (mo : MO), M[i]? = some mo → M2[r i]? = some (mo.ren r)) (inj : ∀ i j, i < M.length → j < M.length → r i = r j → i = j) :
    Store K H (renLoc loc r M.length) M := by
  have look : ∀ i, i < M.length → ∃ a, loc[r i]? = some a := fun i hi => by
    obtain ⟨a, ha, _⟩ := s.at (hr i _ (List.getElem?_eq_getElem hi))
    exact ⟨a, ha⟩
  refine ⟨by simp [renLoc], fun i a mo h1 h2 => ?_, fun i j a m n h1 h2 h3 h4 m1 m2 => ?_⟩
  · have hi := (List.getElem?_eq_some_iff.mp h2).1
    obtain ⟨b, hb⟩ := look i hi
    rw [renLoc_get hi hb] at h1
    cases h1
    exact MOk.unren look (s.ok _ _ _ hb (hr i mo h2)) (c mo (List.mem_of_getElem? h2))
  · have hi := (List.getElem?_eq_some_iff.mp h3).1
    have hj := (List.getElem?_eq_some_iff.mp h4).1
    obtain ⟨b, hb⟩ := look i hi
    obtain ⟨b', hb'⟩ := look j hj
    rw [renLoc_get hi hb] at h1
    rw [renLoc_get hj hb'] at h2
    cases h1; cases h2
    exact inj i j hi hj (s.apart _ _ _ _ _ hb hb' (hr i m h3) (hr j n h4) (by rw [isOwn_ren]; exact m1) (by rw [isOwn_ren]; exact m2))
end
end BF

set_option Elab.async false
set_option linter.all false
set_option autoImplicit false
set_option maxRecDepth 100000
/-! The rule for a def; three names at once; the law's own promise. -/
namespace BF
open PySem PySem.Spec
open PyProof.Rows L2

theorem hu64 {k : Nat} {A : Around} (hr : Room k A) : A.units + 64 < cLine := by have := hr.un; omega

section
variable {X : Cx} {a b c : Expr} {ca cb cc : CE} {pos : Pos}
/-- a, b, c = x, y, z of plain local names -/
theorem s_par3 (i j k : Nat) {x y z : Str} {px py pz pt : Pos} {kt k2 pt2} (hc : X.calm = true) (hN : X.N.Nodup) (ha : EA X [a, b, c] [ca, cb, cc]) (hi : X.N[i]? = some x := by rfl) (hj : X.N[j]? = some y := by rfl) (hk : X.N[k]? = some z := by rfl)
    (hx : X.env.scope.names.lookup x = some .local := by rfl) (hy : X.env.scope.names.lookup y = some .local := by rfl) (hz : X.env.scope.names.lookup z = some .local := by rfl) (hij : i ≠ j := by decide) (hik : i ≠ k := by decide) (hjk : j ≠ k := by decide)
    (hw : swappedStores [.Tuple [.Name x px, .Name y py, .Name z pz] kt pt] (.Tuple [a, b, c] k2 pt2) X.env = pure (some [x, y, z]) := by rfl)
    (hs : swapsWithSole [.Tuple [.Name x px, .Name y py, .Name z pz] kt pt] (.Tuple [a, b, c] k2 pt2) pos.line X.env = pure false := by rfl) :
    ES X (.Assign [.Tuple [.Name x px, .Name y py, .Name z pz] kt pt] (.Tuple [a, b, c] k2 pt2) pos) (sPar [i, j, k] [ca, cb, cc]) := by
  refine ⟨fun pins s σV H D I h => ?_⟩
  obtain ⟨loc, σ, M, o, rel, e, aft⟩ := h
  obtain ⟨p, hp, e⟩ := bind_some e
  have hl : p.1.length = 3 := eArgs_length hp
  obtain ⟨p1, M1⟩ := p
  match p1, hl with
  | [w1, w2, w3], _ =>
  cases e
  rw [exec_Assign_arm]
  refine wpAny_bind (wpAny_standAt ?_)
  rw [hs]
  refine wpAny_bind (wpAny_pure ?_)
  rw [if_neg (by decide)]
  refine wpAny_bind (Tuple_ ?_)
  refine thn (ha.run _ pins s σV H (fun vs H1 => ∃ v1 v2 v3, vs = [v1, v2, v3] ∧ ∀ σV', σV' = ((σV.set i (some v1)).set j (some v2)).set k (some v3) → D.nx σV' H1) I ?_) fun us s1 hus => ?_
  · refine runA rel hp fun vs H1 loc1 rel1 rd1 ex1 l1 => ?_
    match vs, rd1 with
    | [v1, v2, v3], .cons r1 (.cons r2 (.cons r3 .nil)) =>
      exact ⟨v1, v2, v3, rfl, fun σV' e' => by
        subst e'
        exact aft _ H1 loc1 (((rel1.set r1 i).set r2 j).set r3 k) ex1 l1⟩
  · obtain ⟨vs, H1, I1, r1, v1, v2, v3, e1, q1⟩ := hus
    subst e1
    obtain ⟨u1, u2, u3, e2, g1, g2, g3⟩ : ∃ u1 u2 u3, us = [u1, u2, u3] ∧ RelV v1 u1 ∧ RelV v2 u2 ∧ RelV v3 u3 := by
      cases r1 with
      | cons a1 t1 =>
        cases t1 with
        | cons a2 t2 =>
          cases t2 with
          | cons a3 t3 =>
            cases t3
            exact ⟨_, _, _, rfl, a1, a2, a3⟩
    subst e2
    refine wpAny_newObj_type ?_ (by show 3 ≤ sizeLine; decide)
    have I2 : Inv X pins σV H1 { s1 with heap := s1.heap.push { cls := .type "tuple", data := .seq [u1, u2, u3].toArray } } :=
      I1.kept (t' := s1.toks) fun b o e => Heap.get?_push_of_some _ e
    rw [hw]
    refine wpAny_bind (wpAny_pure ?_)
    show wpAny (model X.prog X.w) X.A (do
      rule "assign.swapped-stores"
      let items ← unpackItems (.ref s1.heap.objs.size) 3 none
      assignInOrder [fun v => bindName X.env z v, fun v => bindName X.env y v, fun v => bindName X.env x v] items.reverse
      pure Flow.next) _ _ _
    refine wpAny_bind (wpAny_rule (wpAny_bind (unpackItems_tuple (items := #[u1, u2, u3]) (I.ok.hd hc) (IsTup.new s1.heap _) fun h' hx' => ?_)))
    have I3 := I2.kept (h' := h') (t' := s1.toks) fun b o e => hx' b o (Nat.ne_of_lt (Heap.lt_size e)) e
    show wpAny _ _ (assignInOrder [fun v => bindName X.env z v, fun v => bindName X.env y v, fun v => bindName X.env x v] [u3, u2, u1] >>= fun _ => pure Flow.next) _ _ _
    refine wpAny_bind (assignInOrder_cons (wpAny_bindName (store_ok I3 hN hk (.inl hz) g3 (fun s2 I4 => ?_) (.inr hz))))
    refine assignInOrder_cons (wpAny_bindName (store_ok I4 hN hj (.inl hy) g2 (fun s3 I5 => ?_) (.inr hy)))
    refine assignInOrder_cons (wpAny_bindName (store_ok I5 hN hi (.inl hx) g1 (fun s4 I6 => assignInOrder_nil (wpAny_pure ?_)) (.inr hx)))
    refine ⟨_, H1, I6, q1 _ ?_⟩
    rw [List.set_comm _ _ (Ne.symm hij), List.set_comm _ _ (Ne.symm hik), List.set_comm _ _ (Ne.symm hjk)]
end

section
variable {P : Program} {w : World} {K : PySem.W.Frag} {mg : Str → Option Value} {base : Heap}
theorem rel_start {K : KW} {N : List Str} {loc : List Addr} {M : Mem} {H : Hp} {vs : List V} {ws : List W} (s : Store K H loc M) (r : Rds K H loc vs ws) : Rel K loc (ws.map some ++ List.replicate (N.length - ws.length) none) M (L2.start N vs) H := by
  have hl := r.length
  refine ⟨s, by unfold L2.start; simp [hl], fun i u e => ?_⟩
  by_cases hi : i < ws.length
  · rw [List.getElem?_append_left (by simpa using hi), List.getElem?_map] at e
    obtain ⟨z, hz, e⟩ := Option.map_eq_some_iff.mp e
    cases e
    obtain ⟨v, h1, h2⟩ := r.get hz
    refine ⟨v, ?_, h2⟩
    unfold L2.start
    rw [List.getElem?_append_left (by rw [List.length_map]; omega), List.getElem?_map, h1]
    rfl
  · rw [List.getElem?_append_right (by simpa using hi)] at e
    have := List.mem_of_getElem? e
    simp at this
/-- a def of one's own keeps the promise G: its text as der says, what it computes as hk says -/
theorem fn_ok {x qual : Str} {st : Stmt} {f : Addr} {fd : FuncData} {N ps : List Str} {k : Nat} {body : CS} {G : Fn} (F : Fun K x qual st f fd) (S : FnScope N ps (defScope st)) (hk : Keeps N.length body G)
    (der : ∀ (cdv : Value) (A : Around) (outer : List Env) (s : Shared) (H : Hp) (E : XK), Room k (A.deeper (envOfC qual (defScope st) s.heap.objs.size f cdv)) →
      ESs (cxOf CX0 P w K mg base N qual (defScope st) f cdv A outer s H E).nox (defBody st) body) : FnOk P w K mg base CX0 (k + 1) f fd ps (spF ⟨K, w⟩ ps.length G) := by
  refine F.ok S (fun vs H Q E h => h.1) fun cdv A outer s H vs Q E hr h => ⟨_, der cdv A outer s H E hr, ?_⟩
  obtain ⟨hl, loc, M, ws, u, M', st, rd, e, aft⟩ := h
  have hc := st.closed
  obtain ⟨r, M2, hor, hid, hr, hinj, hle, hcl, hcw⟩ := hk ws M u M' hc (by rw [← st.len]; exact rd.each) e
  have fin : Aft ⟨K, w⟩ H loc (u.ren r) M2 Q := fun v H' loc' s' r' ex l => by
    have look : ∀ i, i < M'.length → ∃ a, loc'[r i]? = some a := fun i hi => by
      obtain ⟨a, ha, _⟩ := s'.at (hr i _ (List.getElem?_eq_getElem hi))
      exact ⟨a, ha⟩
    have pre : loc <+: renLoc loc' r M'.length := by
      rw [List.prefix_iff_eq_take]
      refine List.ext_getElem? fun i => ?_
      by_cases hi : i < loc.length
      · have hi' : i < M.length := by rw [← st.len]; exact hi
        obtain ⟨a, ha⟩ := look i (by omega)
        rw [List.getElem?_take, if_pos hi, renLoc_get (by omega) ha]
        rw [hid i hi'] at ha
        have := pre_get l (List.getElem?_eq_getElem hi)
        rw [ha] at this
        rw [List.getElem?_eq_getElem hi, this]
      · rw [List.getElem?_take, if_neg hi, List.getElem?_eq_none (by omega)]
    refine aft v H' (renLoc loc' r M'.length) (s'.ren hcl hr hinj) (Rd.unren look r' hcw) ex pre
  rcases hor with hb | ⟨hu, σ', hb⟩
  · exact ⟨loc, _, M, _, rel_start st rd, hb, fin⟩
  · exact ⟨loc, _, M, _, rel_start st rd, hb, fun σV' H' loc' r' ex l => fin .non H' loc' r'.st (by rw [hu]; exact .non) ex l⟩

/-! ### the law -/
/-- the law at a script of ints answers True -/
def lawF : Fn := fun ws M => match ws, M with
  | [.ref 0], [.ro us] => match asInts us with
    | some ns => if ns.length ≤ 63 then some (.bl true, M) else none
    | none => none
  | _, _ => none
/-- to show: at each script the body answers True -/
theorem keeps_law {n : Nat} {body : CS} (h : ∀ ns : List Int, ns.length ≤ 63 → ∃ g, body (some (.ref 0) :: List.replicate (n - 1) none) [.ro (ns.map W.int)] = some (.rt (.bl true) (.ro (ns.map W.int) :: g))) : Keeps n body lawF := by
  refine KeepsP.keeps ?_
  intro ws M w M' hc _ e
  unfold lawF at e
  split at e
  · rename_i us
    split at e
    · rename_i ns hns
      split at e
      · rename_i hl
        cases e
        rw [asInts_some hns]
        obtain ⟨g, hg⟩ := h ns hl
        refine ⟨g, .inl hg, Nat.le_refl _, ?_, by simp [W.closed]⟩
        rw [← asInts_some hns]
        exact hc
      · cases e
    · cases e
  · cases e
def spLaw (K : PySem.W.Frag) : Sp := fun vs H Q _ => ∃ (a : Addr) (ns : List Int), vs = [V.ref a] ∧ Only H ∧ SqL K H a (ns.map V.int) ∧ ns.length ≤ 63 ∧ ∀ H', Q (.bl true) H'
theorem rds_ints {K : KW} {H : Hp} {loc : List Addr} (ns : List Int) : Rds K H loc (ns.map V.int) (ns.map W.int) := by
  induction ns with
  | nil => exact .nil
  | cons n ns ih => exact .cons (.int n) ih
theorem law_ok {f : Addr} {fd : FuncData} {ps : List Str} {k : Nat} (h1 : ps.length = 1) (F : FnOk P w K mg base CX0 k f fd ps (spF ⟨K, w⟩ ps.length lawF)) : FnOk P w K mg base CX0 k f fd ps (spLaw K) := by
  refine F.imp fun vs H Q E h => ?_
  obtain ⟨a, ns, rfl, ho, sq, hl, q⟩ := h
  have ro : RO ⟨K, w⟩ H a (ns.map V.int) := by
    rcases sq with (sq | sq) | sq
    · rcases ho a with h | ⟨o, xs, h⟩
      · rw [sq] at h; cases h
      · rw [sq] at h; cases h
    · exact .inl sq
    · exact .inr sq
  refine ⟨h1.symm, [a], [.ro (ns.map W.int)], [.ref 0], .bl true, [.ro (ns.map W.int)], ⟨rfl, fun i b mo h1 h2 => ?_, fun i j b m n _ _ h3 _ h5 _ => ?_⟩, .cons (.ref rfl) .nil, ?_, fun v H' loc' s' r' ex l => ?_⟩
  · match i, h1, h2 with
    | 0, h1, h2 =>
      cases h1; cases h2
      exact ⟨_, ro, rds_ints ns⟩
    | i + 1, h1, h2 => simp at h2
  · match i, h3 with
    | 0, h3 => cases h3; cases h5
    | i + 1, h3 => simp at h3
  · show lawF [.ref 0] [.ro (ns.map W.int)] = _
    unfold lawF
    simp only [asInts_map, if_pos hl]
  · cases r'
    exact q H'
end
end BF

set_option Elab.async false
set_option linter.all false
set_option autoImplicit false
set_option maxRecDepth 100000
/-! isinstance of a built-in class, or of a tuple of such. -/
namespace BF
open PySem PySem.Spec
open PyProof.Rows L2

section
variable {K : KW} {X : Cx} {e : Expr} {ca : CE} {p pos : Pos}
theorem tyX_of {H : Hp} {loc : List Addr} {M : Mem} {v : V} {w : W} {T : String} (s : Store K H loc M) (r : Rd K H loc v w) (h : tyW M w = some T) : TyX K H v (.type T) := by
  cases r with
  | non => cases h; exact .base .non
  | bl b => cases h; exact .base (.bl b)
  | int i => cases h; exact .base (.int i)
  | str x _ _ => cases h; exact .base (.str x)
  | @tup a xs ws sq rs =>
    cases h
    rcases sq with (sq | ⟨o, sq⟩) | ⟨o, its, n, hk, hc, _⟩
    · exact .base (.tup sq)
    · exact .fTuple sq
    · exact .kTuple hk hc
  | @ref a n hn =>
    simp only [tyW] at h
    split at h
    · rename_i ws hw
      cases h
      obtain ⟨xs, q1, _⟩ := s.ok _ _ _ hn hw
      exact .base (.lst q1)
    · rename_i ws hw
      cases h
      obtain ⟨xs, q1, _⟩ := s.ok _ _ _ hn hw
      rcases q1 with ⟨o, q1⟩ | ⟨o, its, n, hk, hc, _⟩
      · exact .base (.frz q1)
      · exact .kList hk hc
    · cases h
theorem kit_one {M : Mem} {w : W} {T : String} {C : String} (h : tyW M w = some T) (hC : C = "bool" ∨ C = "int" ∨ C = "str" ∨ C = "list" ∨ C = "tuple") : kitB T C = some (isTy C T) := by
  have hT : T = "NoneType" ∨ T = "bool" ∨ T = "int" ∨ T = "str" ∨ T = "tuple" ∨ T = "list" := by
    unfold tyW at h
    split at h
    · cases h; simp
    · cases h; simp
    · cases h; simp
    · cases h; simp
    · cases h; simp
    · split at h
      · cases h; simp
      · cases h; simp
      · cases h
  rcases hT with rfl | rfl | rfl | rfl | rfl | rfl <;> rcases hC with rfl | rfl | rfl | rfl | rfl <;> decide +kernel
/-- a built-in class as a value -/
theorem ty_val {x : Str} {T : String} {pos : Pos} (hg : Gl X x) (hm : X.mg x = none) (hv : bootBuiltins x = some (.type T)) (hn : x ≠ "__name__" := by decide) (hd : (x == ("__debug__" : Str)) = false := by decide) : PE X (.Name x pos) (tC (.ty T)) :=
  pe_bltn hg hm hv rfl hn hd
theorem r_isi (C : String) {x : Str} {p2 : Pos} (hC : C = "bool" ∨ C = "int" ∨ C = "str" ∨ C = "list" ∨ C = "tuple") (hg : Gl X "isinstance") (hm : X.mg "isinstance" = none) (hgC : Gl X x) (hmC : X.mg x = none) (hvC : bootBuiltins x = some (.type C)) (ha : EV X e ca) (hv : bootBuiltins "isinstance" = some (.builtin "isinstance") := by decide +kernel)
    (hn : x ≠ "__name__" := by decide) (hd : (x == ("__debug__" : Str)) = false := by decide)
    (he : starEach [e, .Name x p2] X.env = (false, eval e X.env) :: starEach [.Name x p2] X.env := by rfl) (hpl : (backTo pos (starEach [.Name x p2] X.env)).any (·.1) = false := by rfl) :
    EV X (.Call (.Name "isinstance" p) [e, .Name x p2] [] pos) (e1 (gIsi C) ca) :=
  (pe_callB call_isi hg hm hv (pa_cons ha (pa_cons (ty_val hgC hmC hvC hn hd) pa_nil) he) (by decide) (by decide) he hpl).mono fun σV H Q ⟨loc, σ, M, w, M', rel, e, aft⟩ => by
    obtain ⟨q, hq, e⟩ := bind_some e
    refine run1 rel hq fun v H1 loc1 rel1 rd1 ex1 l1 => ?_
    unfold gIsi at e
    obtain ⟨T, hT, e⟩ := Option.map_eq_some_iff.mp e
    cases e
    exact ⟨v, .ty C, .type T, .type C, _, rfl, .ty C, tyX_of rel1.st rd1 hT, kit_ty (kit_one hT hC), aft _ H1 loc1 rel1.st (.bl _) ex1 l1⟩
/-- isinstance(e, (C, D)) -/
theorem r_isi2 (C D : String) {x y : Str} {p2 p3 pt : Pos} {kt} (hC : C = "bool" ∨ C = "int" ∨ C = "str" ∨ C = "list" ∨ C = "tuple") (hD : D = "bool" ∨ D = "int" ∨ D = "str" ∨ D = "list" ∨ D = "tuple") (hg : Gl X "isinstance") (hm : X.mg "isinstance" = none)
    (hgC : Gl X x) (hmC : X.mg x = none) (hvC : bootBuiltins x = some (.type C)) (hgD : Gl X y) (hmD : X.mg y = none) (hvD : bootBuiltins y = some (.type D)) (ha : EV X e ca) (hv : bootBuiltins "isinstance" = some (.builtin "isinstance") := by decide +kernel)
    (hn : x ≠ "__name__" := by decide) (hd : (x == ("__debug__" : Str)) = false := by decide) (hn2 : y ≠ "__name__" := by decide) (hd2 : (y == ("__debug__" : Str)) = false := by decide)
    (hs : starEach [.Name x p2, .Name y p3] X.env = (false, eval (.Name x p2) X.env) :: starEach [.Name y p3] X.env := by rfl)
    (he : starEach [e, .Tuple [.Name x p2, .Name y p3] kt pt] X.env = (false, eval e X.env) :: starEach [.Tuple [.Name x p2, .Name y p3] kt pt] X.env := by rfl) (hpl : (backTo pos (starEach [.Tuple [.Name x p2, .Name y p3] kt pt] X.env)).any (·.1) = false := by rfl) :
    EV X (.Call (.Name "isinstance" p) [e, .Tuple [.Name x p2, .Name y p3] kt pt] [] pos) (e1 (gIsi2 C D) ca) :=
  (pe_callB call_isiT hg hm hv (pa_cons ha (pa_cons (pe_tup (pa_cons (ty_val hgC hmC hvC hn hd) (pa_cons (ty_val hgD hmD hvD hn2 hd2) pa_nil) hs)) pa_nil) he) (by decide) (by decide) he hpl).mono fun σV H Q ⟨loc, σ, M, w, M', rel, e, aft⟩ => by
    obtain ⟨q, hq, e⟩ := bind_some e
    refine run1 rel hq fun v H1 loc1 rel1 rd1 ex1 l1 => ?_
    refine ⟨by show 2 ≤ sizeLine; decide, fun t ht => ?_⟩
    unfold gIsi2 at e
    obtain ⟨T, hT, e⟩ := Option.map_eq_some_iff.mp e
    cases e
    have s2 : Store X.KW (upd H1 t (.tup [.ty C, .ty D])) loc1 q.2 := rel1.st.newT ht
    have ex2 : Ext X.KW H1 (upd H1 t (.tup [.ty C, .ty D])) := .new ht
    refine ⟨v, t, [.ty C, .ty D], .type T, [.type C, .type D], isTy C T || isTy D T, rfl, upd_same, .cons (.ty C) (.cons (.ty D) .nil), tyX_of s2 (rd1.mono ex2 (List.prefix_refl _)) hT, ?_, aft _ _ loc1 s2 (.bl _) (ex1.trans ex2) l1⟩
    exact kitAny_cons (kit_ty (kit_one hT hC)) (fun z => by
      rw [z, Bool.false_or]
      exact kitAny_cons (kit_ty (kit_one hT hD)) (fun z' => by rw [z']; exact kitAny_nil) fun z' => z') fun z => by rw [z]; rfl
end
end BF

set_option Elab.async false
set_option linter.all false
set_option autoImplicit false
set_option maxRecDepth 10000
/-! Plain facts: how the terms compute; texts; equality; encodings. -/
namespace BF
open PySem

theorem nr {α : Type} {a b : α} (h : a = b) : a = b := h
section
variable {σ : Sl} {M : Mem}
@[simp] theorem eV_eq (i : Nat) : eV i σ M = match σ.getD i none with
  | some w => some (w, M)
  | none => none := nr rfl
@[simp] theorem eL_eq (w : W) : eL w σ M = some (w, M) := nr rfl
@[simp] theorem e1_eq (f) (a : CE) : e1 f a σ M = (a σ M).bind fun p => f p.2 p.1 := nr rfl
@[simp] theorem e2_eq (f) (a b : CE) : e2 f a b σ M = (a σ M).bind fun p => (b σ p.2).bind fun q => f q.2 p.1 q.1 := nr rfl
@[simp] theorem eArgs_nil : eArgs [] σ M = some ([], M) := nr rfl
@[simp] theorem eArgs_cons (a : CE) (as : List CE) : eArgs (a :: as) σ M = (a σ M).bind fun p => (eArgs as σ p.2).bind fun q => some (p.1 :: q.1, q.2) := nr rfl
@[simp] theorem eN_eq (f : Fn) (as : List CE) : eN f as σ M = (eArgs as σ M).bind fun p => f p.1 p.2 := nr rfl
@[simp] theorem eTup_eq (as : List CE) : eTup as σ M = (eArgs as σ M).bind fun p => if p.1.length ≤ 16777216 then some (.tup p.1, p.2) else none := nr rfl
@[simp] theorem eLst_eq (as : List CE) : eLst as σ M = (eArgs as σ M).bind fun p => if p.1.length ≤ 16777216 then some (.ref p.2.length, p.2 ++ [.lst p.1]) else none := nr rfl
@[simp] theorem eIf_eq (t : CT) (a b : CE) : eIf t a b σ M = (t σ M).bind fun p => if p.1 = true then a σ p.2 else b σ p.2 := nr rfl
@[simp] theorem eAnd_eq (a b : CE) : eAnd a b σ M = (a σ M).bind fun p => match p.1 with
  | .bl true => b σ p.2
  | .bl false => some (.bl false, p.2)
  | _ => none := nr rfl
@[simp] theorem eOr_eq (a b : CE) : eOr a b σ M = (a σ M).bind fun p => match p.1 with
  | .bl true => some (.bl true, p.2)
  | .bl false => b σ p.2
  | _ => none := nr rfl
@[simp] theorem eNot_eq (a : CE) : eNot a σ M = (a σ M).bind fun p => match p.1 with
  | .bl c => some (.bl (!c), p.2)
  | _ => none := nr rfl
@[simp] theorem eChain_eq (f g) (a b c : CE) : eChain f g a b c σ M = (a σ M).bind fun p => (b σ p.2).bind fun q => (f q.2 p.1 q.1).bind fun r => match r.1 with
    | .bl true => (c σ r.2).bind fun t => g t.2 q.1 t.1
    | .bl false => some (.bl false, r.2)
    | _ => none := nr rfl
@[simp] theorem tB_eq (e : CE) : tB e σ M = (e σ M).bind fun p => match p.1 with
  | .bl c => some (c, p.2)
  | _ => none := nr rfl
@[simp] theorem tAnd_eq (a b : CT) : tAnd a b σ M = (a σ M).bind fun p => if p.1 = true then b σ p.2 else some (false, p.2) := nr rfl
@[simp] theorem tOr_eq (a b : CT) : tOr a b σ M = (a σ M).bind fun p => if p.1 = true then some (true, p.2) else b σ p.2 := nr rfl
@[simp] theorem tNot_eq (a : CT) : tNot a σ M = (a σ M).bind fun p => some (!p.1, p.2) := nr rfl
@[simp] theorem tTrue_eq : tTrue σ M = some (true, M) := nr rfl
@[simp] theorem gV_eq (i : Nat) (w : W) : gV i w σ = some (σ.set i (some w)) := nr rfl
@[simp] theorem gAll_nil : gAll [] [] σ = some σ := nr rfl
@[simp] theorem gAll_cons (g : CG) (gs : List CG) (w : W) (ws : List W) : gAll (g :: gs) (w :: ws) σ = (g w σ).bind fun σ1 => gAll gs ws σ1 := nr rfl
@[simp] theorem gT_eq (gs : List CG) (ws : List W) : gT gs (.tup ws) σ = gAll gs ws σ := nr rfl
@[simp] theorem sSet_eq (g : CG) (e : CE) : sSet g e σ M = (e σ M).bind fun p => (g p.1 σ).bind fun σ1 => some (.nx σ1 p.2) := nr rfl
@[simp] theorem sPar_eq (is : List Nat) (as : List CE) : sPar is as σ M = (eArgs as σ M).bind fun p =>
  if p.1.length = is.length then some (.nx ((is.zip p.1).foldl (fun σ q => σ.set q.1 (some q.2)) σ) p.2) else none := nr rfl
@[simp] theorem sAug_eq (i : Nat) (f) (e : CE) : sAug i f e σ M = match σ.getD i none with
  | some w => (e σ M).bind fun p => (f p.2 w p.1).bind fun q => some (.nx (σ.set i (some q.1)) q.2)
  | none => none := nr rfl
@[simp] theorem sPut_eq (f) (o k e : CE) : sPut f o k e σ M = (e σ M).bind fun p => (o σ p.2).bind fun q => (k σ q.2).bind fun r => (f r.2 q.1 r.1 p.1).bind fun M' => some (.nx σ M') := nr rfl
@[simp] theorem sExpr_eq (e : CE) : sExpr e σ M = (e σ M).bind fun p => some (.nx σ p.2) := nr rfl
@[simp] theorem sRet_eq (e : CE) : sRet e σ M = (e σ M).bind fun p => some (.rt p.1 p.2) := nr rfl
@[simp] theorem sNil_eq : sNil σ M = some (.nx σ M) := nr rfl
@[simp] theorem sBreak_eq : sBreak σ M = some (.bk σ M) := nr rfl
@[simp] theorem sSeq_eq (a b : CS) : sSeq a b σ M = (a σ M).bind fun o => match o with
  | .nx σ' M' => b σ' M'
  | .rt w M' => some (.rt w M')
  | .bk σ' M' => some (.bk σ' M')
  | .ct σ' M' => some (.ct σ' M') := nr rfl
@[simp] theorem sIf_eq (t : CT) (a b : CS) : sIf t a b σ M = (t σ M).bind fun p => if p.1 = true then a σ p.2 else b σ p.2 := nr rfl
@[simp] theorem sFor_eq (it : CI) (g : CG) (body : CS) : sFor it g body σ M = (it σ M).bind fun p => forL p.2.1 g body p.1 σ p.2.2 := nr rfl
@[simp] theorem eLc_eq (it : CI) (g : CG) (t : CT) (e : CE) (vs : List Nat) : eLc it g t e vs σ M = (it σ M).bind fun p =>
  (lcL p.2.1 g t e vs σ p.2.2.length p.1 (p.2.2 ++ [.lst []])).bind fun M' => some (.ref p.2.2.length, M') := nr rfl
@[simp] theorem iTup_eq (e : CE) : iTup e σ M = (e σ M).bind fun p => match p.1 with
  | .tup ws => some (ws, gdT, p.2)
  | _ => none := nr rfl
@[simp] theorem iLst_eq (e : CE) : iLst e σ M = (e σ M).bind fun p => match p.1 with
  | .ref n => match p.2[n]? with
    | some (.lst ws) => some (ws, fun M' => decide (M'[n]? = some (.lst ws)), p.2)
    | some (.ro ws) => some (ws, fun M' => decide (M'[n]? = some (.ro ws)), p.2)
    | _ => none
  | _ => none := nr rfl
@[simp] theorem iRange1_eq (e : CE) : iRange1 e σ M = (e σ M).bind fun p => match p.1 with
  | .int j => if small62 j = true then some (rangeW 0 j.toNat, gdT, p.2) else none
  | _ => none := nr rfl
@[simp] theorem iRange2_eq (a b : CE) : iRange2 a b σ M = (a σ M).bind fun p => (b σ p.2).bind fun q => match p.1, q.1 with
  | .int i, .int j => if small62 i = true ∧ small62 j = true then some (rangeW i (j - i).toNat, gdT, q.2) else none
  | _, _ => none := nr rfl
@[simp] theorem iEnumT_eq (e : CE) : iEnumT e σ M = (e σ M).bind fun p => match p.1 with
  | .tup ws => some (enumW ws, gdT, p.2)
  | _ => none := nr rfl
@[simp] theorem iEnumL_eq (e : CE) : iEnumL e σ M = (e σ M).bind fun p => match p.1 with
  | .ref n => match p.2[n]? with
    | some (.lst ws) => some (enumW ws, fun M' => decide (M'[n]? = some (.lst ws)), p.2)
    | _ => none
  | _ => none := nr rfl
@[simp] theorem iZipT_eq (a b : CE) : iZipT a b σ M = (a σ M).bind fun p => (b σ p.2).bind fun q => match p.1, q.1 with
  | .tup xs, .tup ys => some (zipW xs ys, gdT, q.2)
  | _, _ => none := nr rfl
@[simp] theorem gdT_eq : gdT M = true := nr rfl
@[simp] theorem eML_eq (f : Fn) (o : CE) (as : List CE) : eML f o as σ M = (o σ M).bind fun p => if isLst p.2 p.1 = true then (eArgs as σ p.2).bind fun q => f (p.1 :: q.1) q.2 else none := nr rfl
@[simp] theorem ePart_none : ePart none σ M = some (none, M) := nr rfl
@[simp] theorem ePart_some (c : CE) : ePart (some c) σ M = (c σ M).bind fun p => match p.1 with
    | .int i => some (some i, p.2)
    | _ => none := nr rfl
@[simp] theorem eSl_eq (e : CE) (lo hi : Option CE) : eSl e lo hi σ M = (e σ M).bind fun p => (ePart lo σ p.2).bind fun q => (ePart hi σ q.2).bind fun r => gSl r.2 p.1 q.1 r.1 := nr rfl

@[simp] theorem gAdd_int (i j : Int) : gAdd M (.int i) (.int j) = some (.int (i + j), M) := nr rfl
@[simp] theorem gAdd_tup (a b : List W) : gAdd M (.tup a) (.tup b) = if a.length + b.length ≤ 16777216 then some (.tup (a ++ b), M) else none := nr rfl
@[simp] theorem gAdd_str (a b : Str) : gAdd M (.str a) (.str b) = if a.length + b.length ≤ 16777216 then some (.str (a ++ b), M) else none := nr rfl
@[simp] theorem gAdd_ref (a b : Nat) : gAdd M (.ref a) (.ref b) = match M[a]?, M[b]? with
    | some (.lst xs), some (.lst ys) => if xs.length + ys.length ≤ 16777216 then some (.ref M.length, M ++ [.lst (xs ++ ys)]) else none
    | _, _ => none := nr rfl
@[simp] theorem gSub_int (i j : Int) : gSub M (.int i) (.int j) = some (.int (i - j), M) := nr rfl
@[simp] theorem gMul_int (i j : Int) : gMul M (.int i) (.int j) = if small64 i = true ∨ small64 j = true then some (.int (i * j), M) else none := nr rfl
@[simp] theorem gRep_tup (a : List W) (k : Int) : gRep M (.tup a) (.int k) = if a.length ≤ 1000 ∧ k ≤ 1000 then some (.tup (List.replicate k.toNat a).flatten, M) else none := nr rfl
@[simp] theorem gMod_int (i j : Int) : gMod M (.int i) (.int j) = if 0 < j then some (.int (i % j), M) else none := nr rfl
@[simp] theorem gDiv_int (i j : Int) : gDiv M (.int i) (.int j) = if 0 < j ∧ small64 j = true then some (.int (i / j), M) else none := nr rfl
@[simp] theorem gPow_int (i j : Int) : gPow M (.int i) (.int j) = if 0 ≤ j ∧ j ≤ 1000 ∧ small62 i = true then some (.int (i ^ j.toNat), M) else none := nr rfl
@[simp] theorem gNeg_int (i : Int) : gNeg M (.int i) = some (.int (-i), M) := nr rfl
@[simp] theorem gLt_int (i j : Int) : gLt M (.int i) (.int j) = some (.bl (decide (i < j)), M) := nr rfl
@[simp] theorem gLe_int (i j : Int) : gLe M (.int i) (.int j) = some (.bl (decide (i ≤ j)), M) := nr rfl
@[simp] theorem gGt_int (i j : Int) : gGt M (.int i) (.int j) = some (.bl (decide (j < i)), M) := nr rfl
@[simp] theorem gGe_int (i j : Int) : gGe M (.int i) (.int j) = some (.bl (decide (j ≤ i)), M) := nr rfl
@[simp] theorem gEq_eq (x y : W) : gEq M x y = (eqW M x y).map fun b => (.bl b, M) := nr rfl
@[simp] theorem gNe_eq (x y : W) : gNe M x y = (eqW M x y).map fun b => (.bl (!b), M) := nr rfl
@[simp] theorem gIsN_eq (x : W) : gIsN M x = some (.bl (isN x), M) := nr rfl
@[simp] theorem gNotN_eq (x : W) : gNotN M x = some (.bl (!isN x), M) := nr rfl
@[simp] theorem isN_non : isN .non = true := nr rfl
@[simp] theorem isN_bl (b) : isN (.bl b) = false := nr rfl
@[simp] theorem isN_int (i) : isN (.int i) = false := nr rfl
@[simp] theorem isN_str (i) : isN (.str i) = false := nr rfl
@[simp] theorem isN_tup (i) : isN (.tup i) = false := nr rfl
@[simp] theorem isN_ref (i) : isN (.ref i) = false := nr rfl
@[simp] theorem gIx_tup (a : List W) (i : Int) : gIx M (.tup a) (.int i) = ((ixW a.length i).bind fun j => a[j]?).map fun w => (w, M) := nr rfl
@[simp] theorem gIx_ref (n : Nat) (i : Int) : gIx M (.ref n) (.int i) = match M[n]? with
    | some (.lst a) => ((ixW a.length i).bind fun j => a[j]?).map fun w => (w, M)
    | some (.ro a) => ((ixW a.length i).bind fun j => a[j]?).map fun w => (w, M)
    | _ => none := nr rfl
@[simp] theorem gSl_tup (a : List W) (lo hi : Option Int) : gSl M (.tup a) lo hi = some (.tup (cutW a lo hi), M) := nr rfl
@[simp] theorem gSl_ref (n : Nat) (lo hi : Option Int) : gSl M (.ref n) lo hi = match M[n]? with
    | some (.lst a) => some (.ref M.length, M ++ [.lst (cutW a lo hi)])
    | _ => none := nr rfl
@[simp] theorem pLen_tup (a : List W) : pLen [.tup a] M = some (.int a.length, M) := nr rfl
@[simp] theorem pLen_ref (n : Nat) : pLen [.ref n] M = match M[n]? with
    | some (.lst a) => some (.int a.length, M)
    | some (.ro a) => some (.int a.length, M)
    | _ => none := nr rfl
@[simp] theorem pMin_eq (i j : Int) : pMin [.int i, .int j] M = some (.int (if j < i then j else i), M) := nr rfl
@[simp] theorem pMax_eq (i j : Int) : pMax [.int i, .int j] M = some (.int (if j > i then j else i), M) := nr rfl
@[simp] theorem pAbs_eq (i : Int) : pAbs [.int i] M = some (.int (if i < 0 then -i else i), M) := nr rfl
@[simp] theorem pList_tup (a : List W) : pList [.tup a] M = some (.ref M.length, M ++ [.lst a]) := nr rfl
@[simp] theorem pList_ref (n : Nat) : pList [.ref n] M = match M[n]? with
    | some (.lst a) => some (.ref M.length, M ++ [.lst a])
    | some (.ro a) => some (.ref M.length, M ++ [.lst a])
    | _ => none := nr rfl
@[simp] theorem pTuple_tup (a : List W) : pTuple [.tup a] M = some (.tup a, M) := nr rfl
@[simp] theorem pTuple_ref (n : Nat) : pTuple [.ref n] M = match M[n]? with
    | some (.lst a) => some (.tup a, M)
    | some (.ro a) => some (.tup a, M)
    | _ => none := nr rfl
@[simp] theorem isLst_ref (n : Nat) : isLst M (.ref n) = match M[n]? with
    | some (.lst _) => true
    | _ => false := nr rfl
@[simp] theorem mAppend_ref (n : Nat) (w : W) : mAppend [.ref n, w] M = match M[n]? with
    | some (.lst a) => if a.length < 16777216 then some (.non, M.set n (.lst (a ++ [w]))) else none
    | _ => none := nr rfl
@[simp] theorem mPop_ref (n : Nat) : mPop [.ref n] M = match M[n]? with
    | some (.lst a) => a[a.length - 1]?.map fun w => (w, M.set n (.lst a.dropLast))
    | _ => none := nr rfl
@[simp] theorem mPopAt_ref (n : Nat) (i : Int) : mPopAt [.ref n, .int i] M = match M[n]? with
    | some (.lst a) => if small62 i = true then (ixW a.length i).bind fun j => a[j]?.map fun w => (w, M.set n (.lst (a.eraseIdx j))) else none
    | _ => none := nr rfl
@[simp] theorem putL_ref (n : Nat) (i : Int) (w : W) : putL M (.ref n) (.int i) w = match M[n]? with
    | some (.lst a) => (ixW a.length i).map fun j => M.set n (.lst (a.set j w))
    | _ => none := nr rfl
end


theorem ite_le {α : Type} {n m : Nat} {a b : α} (h : n ≤ m) : (if n ≤ m then a else b) = a := if_pos h
theorem ite_lt {α : Type} {n m : Nat} {a b : α} (h : n < m) : (if n < m then a else b) = a := if_pos h

/-! ### texts -/
theorem ofString_cps (a : String) : (Str.ofString a).cps.toList = a.toList.map Char.toNat := by
  show ((cpsOfBytes 0 0 a.toByteArray.data.toList).toArray).toList = _
  rw [cpsOfBytes_string]
theorem ofString_inj {a b : String} (h : Str.ofString a = Str.ofString b) : a = b := by
  have e : a.toList.map Char.toNat = b.toList.map Char.toNat := by rw [← ofString_cps, ← ofString_cps, h]
  have inj : ∀ (l m : List Char), l.map Char.toNat = m.map Char.toNat → l = m := by
    intro l
    induction l with
    | nil => intro m h; cases m with
      | nil => rfl
      | cons _ _ => cases h
    | cons c l ih =>
      intro m h
      cases m with
      | nil => cases h
      | cons d m =>
        rw [List.map_cons, List.map_cons] at h
        injection h with h1 h2
        rw [ih m h2, Char.toNat_inj.mp h1]
  exact String.toList_inj.mp (inj _ _ e)
@[simp] theorem ofString_eq (a b : String) : (Str.ofString a = Str.ofString b) ↔ a = b := ⟨ofString_inj, fun h => h ▸ rfl⟩

/-! ### equality of list-free values -/
mutual
def eqP : W → W → Bool
  | .non, .non => true
  | .bl a, .bl b => a == b
  | .bl a, .int j => (if a then 1 else 0) == j
  | .int i, .bl b => i == (if b then 1 else 0)
  | .int i, .int j => i == j
  | .str x, .str y => x == y
  | .tup xs, .tup ys => eqPs xs ys
  | .ref _, _ | .tup _, .non | .tup _, .bl _ | .tup _, .int _ | .tup _, .str _ | .tup _, .ref _ => false
  | .non, .bl _ | .non, .int _ | .non, .str _ | .non, .tup _ | .non, .ref _ => false
  | .bl _, .non | .bl _, .str _ | .bl _, .tup _ | .bl _, .ref _ => false
  | .int _, .non | .int _, .str _ | .int _, .tup _ | .int _, .ref _ => false
  | .str _, .non | .str _, .bl _ | .str _, .int _ | .str _, .tup _ | .str _, .ref _ => false
def eqPs : List W → List W → Bool
  | [], [] => true
  | x :: xs, y :: ys => eqP x y && eqPs xs ys
  | [], _ :: _ => false
  | _ :: _, [] => false
end
/-- list-free and at most so deep -/
def okW : Nat → W → Bool
  | 0, _ => false
  | _ + 1, .ref _ => false
  | k + 1, .tup ws => ws.all (okW k)
  | _ + 1, .non | _ + 1, .bl _ | _ + 1, .int _ | _ + 1, .str _ => true
mutual
def dP : W → PyData
  | .non => .none
  | .bl b => .bool b
  | .int i => .int i
  | .str x => .str x
  | .tup ws => .tuple (dPs ws)
  | .ref _ => .none
def dPs : List W → List PyData
  | [] => []
  | w :: ws => dP w :: dPs ws
end
theorem toD_P (M : Mem) : ∀ (k : Nat) (w : W), okW k w = true → toD M k w = some (dP w)
  | 0, _, h => by cases h
  | k + 1, w, h => by
    cases w with
    | tup ws =>
      rw [okW] at h
      rw [toD, dP]
      have : mapO (toD M k) ws = some (dPs ws) := by
        induction ws with
        | nil => rfl
        | cons w ws ih =>
          rw [List.all_cons, Bool.and_eq_true] at h
          rw [mapO, toD_P M k w h.1, ih h.2, dPs]
      rw [this]; rfl
    | ref n => rw [okW] at h; cases h
    | non => rw [toD, dP]
    | bl b => rw [toD, dP]
    | int i => rw [toD, dP]
    | str x => rw [toD, dP]
theorem eqv_P : ∀ (k : Nat) (x y : W), okW k x = true → okW k y = true → PyData.eqv (dP x) (dP y) = eqP x y
  | 0, _, _, h, _ => by cases h
  | k + 1, x, y, hx, hy => by
    have all : ∀ (xs ys : List W), xs.all (okW k) = true → ys.all (okW k) = true → PyData.eqvAll (dPs xs) (dPs ys) = eqPs xs ys := by
      intro xs
      induction xs with
      | nil => intro ys _ _; cases ys <;> simp [dPs, PyData.eqvAll, eqPs]
      | cons x xs ih =>
        intro ys h1 h2
        cases ys with
        | nil => simp [dPs, PyData.eqvAll, eqPs]
        | cons y ys =>
          rw [List.all_cons, Bool.and_eq_true] at h1 h2
          rw [dPs, dPs, PyData.eqvAll, eqPs, eqv_P k x y h1.1 h2.1, ih ys h1.2 h2.2]
    cases x with
    | ref _ => rw [okW] at hx; cases hx
    | tup xs =>
      cases y with
      | tup ys => rw [okW] at hx hy; simp only [dP, PyData.eqv, eqP]; exact all xs ys hx hy
      | ref _ => rw [okW] at hy; cases hy
      | _ => simp [dP, PyData.eqv, eqP]
    | _ => cases y with
      | ref _ => rw [okW] at hy; cases hy
      | _ => simp [dP, PyData.eqv, eqP]
theorem eqW_P (M : Mem) {x y : W} (hx : okW 64 x = true) (hy : okW 64 y = true) : eqW M x y = some (eqP x y) := by
  unfold eqW
  rw [toD_P M 64 x hx, toD_P M 64 y hy]
  show some _ = some _
  rw [eqv_P 64 x y hx hy]
theorem okW_mono : ∀ (k : Nat) (w : W), okW k w = true → ∀ j, k ≤ j → okW j w = true
  | 0, _, h, _, _ => by cases h
  | k + 1, w, h, j, hj => by
    cases j with
    | zero => omega
    | succ j =>
      cases w with
      | tup ws =>
        rw [okW] at h ⊢
        rw [List.all_eq_true] at h ⊢
        exact fun w hw => okW_mono k w (h w hw) j (by omega)
      | ref _ => rw [okW] at h; cases h
      | _ => rfl

/-! ### encodings -/
class Enc (α : Type) where
  enc : α → W
  dec : W → Option α
  dec_enc : ∀ a, dec (enc a) = some a
  enc_dec : ∀ w a, dec w = some a → w = enc a
  dep : Nat
  ok : ∀ a, okW dep (enc a) = true
  eqE : ∀ a b : α, eqP (enc a) (enc b) = true ↔ a = b
end BF

set_option Elab.async false
set_option linter.all false
set_option autoImplicit false
set_option maxRecDepth 10000
/-! Encodings of our own types, and promises of pure defs. -/
namespace BF
open PySem Enc

theorem Enc.inj {α : Type} [Enc α] {a b : α} (h : (enc a : W) = enc b) : a = b := by
  have := dec_enc a
  rw [h, dec_enc b] at this
  exact (Option.some.inj this).symm
instance : Enc Int where
  enc i := .int i
  dec w := match w with
    | .int i => some i
    | _ => none
  dec_enc _ := rfl
  enc_dec w a h := by
    split at h
    · cases h; rfl
    · cases h
  dep := 1
  ok _ := rfl
  eqE a b := by simp [eqP]
instance : Enc Nat where
  enc i := .int (i : Int)
  dec w := match w with
    | .int i => if 0 ≤ i then some i.toNat else none
    | _ => none
  dec_enc a := by simp
  enc_dec w a h := by
    split at h
    · split at h
      · cases h; congr 1; omega
      · cases h
    · cases h
  dep := 1
  ok _ := rfl
  eqE a b := by simp [eqP]; omega
instance : Enc Bool where
  enc i := .bl i
  dec w := match w with
    | .bl i => some i
    | _ => none
  dec_enc _ := rfl
  enc_dec w a h := by
    split at h
    · cases h; rfl
    · cases h
  dep := 1
  ok _ := rfl
  eqE a b := by simp [eqP]
instance : Enc Str where
  enc i := .str i
  dec w := match w with
    | .str i => some i
    | _ => none
  dec_enc _ := rfl
  enc_dec w a h := by
    split at h
    · cases h; rfl
    · cases h
  dep := 1
  ok _ := rfl
  eqE a b := by simp [eqP]
theorem mapO_map {α β γ : Type} {f : β → Option γ} {g : α → β} {h : α → γ} (e : ∀ a, f (g a) = some (h a)) : ∀ l : List α, mapO f (l.map g) = some (l.map h)
  | [] => rfl
  | a :: l => by rw [List.map_cons, mapO, e a, mapO_map e l]; rfl
theorem mapO_enc {α : Type} [Enc α] : ∀ {ws : List W} {as : List α}, mapO dec ws = some as → ws = as.map enc
  | [], as, h => by cases h; rfl
  | w :: ws, as, h => by
    rw [mapO] at h
    split at h
    · rename_i b bs h1 h2
      cases h
      rw [List.map_cons, ← enc_dec w b h1, ← mapO_enc h2]
    · cases h
theorem eqPs_map {α : Type} [Enc α] : ∀ as bs : List α, eqPs (as.map enc) (bs.map enc) = true ↔ as = bs
  | [], [] => by simp [eqPs]
  | [], _ :: _ => by simp [eqPs]
  | _ :: _, [] => by simp [eqPs]
  | a :: as, b :: bs => by
    rw [List.map_cons, List.map_cons, eqPs, Bool.and_eq_true, eqE, eqPs_map as bs]
    simp
instance {α : Type} [Enc α] : Enc (List α) where
  enc l := .tup (l.map enc)
  dec w := match w with
    | .tup ws => mapO dec ws
    | _ => none
  dec_enc l := by
    show mapO dec (l.map enc) = some l
    rw [mapO_map (h := id) fun a => dec_enc a, List.map_id]
  enc_dec w a h := by
    split at h
    · rw [mapO_enc h]
    · cases h
  dep := dep α + 1
  ok l := by
    rw [okW, List.all_eq_true]
    intro w hw
    obtain ⟨a, _, rfl⟩ := List.mem_map.mp hw
    exact ok a
  eqE a b := by
    rw [eqP]
    exact eqPs_map a b
instance {α β : Type} [Enc α] [Enc β] : Enc (α × β) where
  enc p := .tup [enc p.1, enc p.2]
  dec w := match w with
    | .tup [a, b] => match (dec a : Option α), (dec b : Option β) with
      | some x, some y => some (x, y)
      | _, _ => none
    | _ => none
  dec_enc p := by simp only [dec_enc]
  enc_dec w a h := by
    split at h
    · split at h
      · rename_i h1 h2
        cases h
        rw [enc_dec _ _ h1, enc_dec _ _ h2]
      · cases h
    · cases h
  dep := max (dep α) (dep β) + 1
  ok p := by
    rw [okW]
    simp [okW_mono _ _ (ok p.1) (max (dep α) (dep β)) (Nat.le_max_left _ _), okW_mono _ _ (ok p.2) (max (dep α) (dep β)) (Nat.le_max_right _ _)]
  eqE p q := by
    simp only [eqP, eqPs, Bool.and_true, Bool.and_eq_true, eqE]
    exact ⟨fun h => Prod.ext h.1 h.2, fun h => by rw [h]; exact ⟨rfl, rfl⟩⟩
/-- a history: the pages, the place -/
structure Hist where
  ps : List Str
  at_ : Nat
  deriving DecidableEq
instance : Enc Hist where
  enc h := .tup [.tup (h.ps.map W.str), .int h.at_]
  dec w := (dec w : Option (List Str × Nat)).map fun p => ⟨p.1, p.2⟩
  dec_enc h := by
    have : (dec (.tup [.tup (h.ps.map W.str), .int h.at_]) : Option (List Str × Nat)) = some (h.ps, h.at_) := dec_enc (h.ps, h.at_)
    rw [this]; rfl
  enc_dec w a h := by
    obtain ⟨p, h1, h2⟩ := Option.map_eq_some_iff.mp h
    rw [enc_dec w p h1, ← h2]; rfl
  dep := 3
  ok h := ok (h.ps, h.at_)
  eqE a b := by
    have := eqE (a.ps, a.at_) (b.ps, b.at_)
    refine this.trans ?_
    cases a; cases b
    simp
theorem enc_hist (h : Hist) : (enc h : W) = .tup [.tup (h.ps.map W.str), .int h.at_] := rfl
/-- an action; go is the menus' -/
inductive Act where
  | visit (p : Str)
  | back
  | forward
  | go (i : Nat)
  deriving DecidableEq
def Act.enc : Act → W
  | .visit p => .tup [.str "visit", .str p]
  | .back => .tup [.str "back"]
  | .forward => .tup [.str "forward"]
  | .go i => .tup [.str "go", .int i]
def Act.dec : W → Option Act
  | .tup [.str a, .str p] => if a = "visit" then some (.visit p) else none
  | .tup [.str a] => if a = "back" then some .back else if a = "forward" then some .forward else none
  | .tup [.str a, .int i] => if a = "go" ∧ 0 ≤ i then some (.go i.toNat) else none
  | _ => none
instance : Enc Act where
  enc := Act.enc
  dec := Act.dec
  dec_enc a := by cases a <;> simp [Act.enc, Act.dec]
  enc_dec w a h := by
    unfold Act.dec at h
    split at h
    · split at h
      · rename_i e; cases h; subst e; rfl
      · cases h
    · split at h
      · rename_i e; cases h; subst e; rfl
      · split at h
        · rename_i e; cases h; subst e; rfl
        · cases h
    · split at h
      · rename_i e; cases h; obtain ⟨e, e2⟩ := e; subst e; simp [Act.enc]; omega
      · cases h
    · cases h
  dep := 2
  ok a := by cases a <;> rfl
  eqE a b := by cases a <;> cases b <;> simp [Act.enc, eqP, eqPs]; omega
@[simp] theorem enc_visit (p : Str) : (enc (Act.visit p) : W) = .tup [.str "visit", .str p] := rfl
@[simp] theorem enc_back : (enc Act.back : W) = .tup [.str "back"] := rfl
@[simp] theorem enc_forward : (enc Act.forward : W) = .tup [.str "forward"] := rfl
@[simp] theorem enc_go (i : Nat) : (enc (Act.go i) : W) = .tup [.str "go", .int i] := rfl
/-- a sighting -/
structure Sight where
  p : Str
  b : Bool
  f : Bool
  deriving DecidableEq
instance : Enc Sight where
  enc s := .tup [.str s.p, .bl s.b, .bl s.f]
  dec w := match w with
    | .tup [.str p, .bl b, .bl f] => some ⟨p, b, f⟩
    | _ => none
  dec_enc _ := rfl
  enc_dec w a h := by
    split at h
    · cases h; rfl
    · cases h
  dep := 2
  ok _ := rfl
  eqE a b := by cases a; cases b; simp [eqP, eqPs]
theorem enc_sight (s : Sight) : (enc s : W) = .tup [.str s.p, .bl s.b, .bl s.f] := rfl
@[simp] theorem enc_nat (n : Nat) : (enc n : W) = .int n := rfl
@[simp] theorem enc_int (n : Int) : (enc n : W) = .int n := rfl
@[simp] theorem enc_bool (n : Bool) : (enc n : W) = .bl n := rfl
@[simp] theorem enc_str (n : Str) : (enc n : W) = .str n := rfl
theorem enc_list {α : Type} [Enc α] (l : List α) : (enc l : W) = .tup (l.map enc) := rfl
theorem enc_pair {α β : Type} [Enc α] [Enc β] (a : α) (b : β) : (enc (a, b) : W) = .tup [enc a, enc b] := rfl

/-- == of encoded values -/
theorem eqW_enc {α : Type} [Enc α] [DecidableEq α] (M : Mem) (a b : α) (h : dep α ≤ 64 := by decide) : eqW M (enc a) (enc b) = some (decide (a = b)) := by
  rw [eqW_P M (okW_mono _ _ (ok a) 64 h) (okW_mono _ _ (ok b) 64 h)]
  congr 1
  rw [Bool.eq_iff_iff, eqE, decide_eq_true_eq]
@[simp] theorem eqW_str (M : Mem) (a b : Str) : eqW M (.str a) (.str b) = some (decide (a = b)) := eqW_enc M a b
@[simp] theorem eqW_int (M : Mem) (a b : Int) : eqW M (.int a) (.int b) = some (decide (a = b)) := eqW_enc M a b
@[simp] theorem eqW_bl (M : Mem) (a b : Bool) : eqW M (.bl a) (.bl b) = some (decide (a = b)) := eqW_enc M a b

theorem okW_closed : ∀ (k : Nat) (w : W), okW k w = true → ∀ n, w.closed n = true
  | 0, _, h, _ => by cases h
  | k + 1, w, h, n => by
    cases w with
    | tup ws =>
      rw [okW] at h
      rw [W.closed]
      induction ws with
      | nil => rfl
      | cons w ws ih =>
        rw [List.all_cons, Bool.and_eq_true] at h
        rw [W.closeds, okW_closed k w h.1 n, ih h.2]; rfl
    | ref _ => rw [okW] at h; cases h
    | _ => rfl
theorem enc_closed {α : Type} [Enc α] (a : α) (n : Nat) : (enc a : W).closed n = true := okW_closed _ _ (ok a) n

/-- promises of pure defs -/
def fn1 {α β : Type} [Enc α] [Enc β] (f : α → Option β) : Fn := fun ws M => match ws with
  | [x] => match (dec x : Option α) with
    | some a => (f a).map fun b => (enc b, M)
    | none => none
  | _ => none
def fn2 {α β γ : Type} [Enc α] [Enc β] [Enc γ] (f : α → β → Option γ) : Fn := fun ws M => match ws with
  | [x, y] => match (dec x : Option α), (dec y : Option β) with
    | some a, some b => (f a b).map fun c => (enc c, M)
    | _, _ => none
  | _ => none
def fn3 {α β γ δ : Type} [Enc α] [Enc β] [Enc γ] [Enc δ] (f : α → β → γ → Option δ) : Fn := fun ws M => match ws with
  | [x, y, z] => match (dec x : Option α), (dec y : Option β), (dec z : Option γ) with
    | some a, some b, some c => (f a b c).map fun d => (enc d, M)
    | _, _, _ => none
  | _ => none
theorem fn1_eq {α β : Type} [Enc α] [Enc β] (f : α → Option β) (a : α) (M : Mem) : fn1 f [enc a] M = (f a).map fun b => (enc b, M) := by
  unfold fn1; simp only [dec_enc]
theorem fn2_eq {α β γ : Type} [Enc α] [Enc β] [Enc γ] (f : α → β → Option γ) (a : α) (b : β) (M : Mem) : fn2 f [enc a, enc b] M = (f a b).map fun c => (enc c, M) := by
  unfold fn2; simp only [dec_enc]
theorem fn3_eq {α β γ δ : Type} [Enc α] [Enc β] [Enc γ] [Enc δ] (f : α → β → γ → Option δ) (a : α) (b : β) (c : γ) (M : Mem) : fn3 f [enc a, enc b, enc c] M = (f a b c).map fun d => (enc d, M) := by
  unfold fn3; simp only [dec_enc]
theorem keeps1 {α β : Type} [Enc α] [Enc β] {f : α → Option β} {n : Nat} {body : CS} (h : ∀ a b M, f a = some b → ∃ g, body (some (enc a) :: List.replicate (n - 1) none) M = some (.rt (enc b) (M ++ g))) : Keeps n body (fn1 f) := by
  refine KeepsP.keeps ?_
  intro ws M w M' hc hw e
  unfold fn1 at e
  split at e
  · split at e
    · rename_i x _ a ha
      obtain ⟨b, hb, e⟩ := Option.map_eq_some_iff.mp e
      cases e
      obtain ⟨g, hg⟩ := h a b M hb
      rw [enc_dec _ _ ha]
      exact ⟨g, .inl hg, Nat.le_refl _, hc, enc_closed b _⟩
    · cases e
  · cases e
theorem keeps2 {α β γ : Type} [Enc α] [Enc β] [Enc γ] {f : α → β → Option γ} {n : Nat} {body : CS}
    (h : ∀ a b c M, f a b = some c → ∃ g, body (some (enc a) :: some (enc b) :: List.replicate (n - 2) none) M = some (.rt (enc c) (M ++ g))) : Keeps n body (fn2 f) := by
  refine KeepsP.keeps ?_
  intro ws M w M' hc hw e
  unfold fn2 at e
  split at e
  · split at e
    · rename_i x y _ _ a b ha hb
      obtain ⟨c, hcc, e⟩ := Option.map_eq_some_iff.mp e
      cases e
      obtain ⟨g, hg⟩ := h a b c M hcc
      rw [enc_dec _ _ ha, enc_dec _ _ hb]
      exact ⟨g, .inl hg, Nat.le_refl _, hc, enc_closed c _⟩
    · cases e
  · cases e
theorem keeps3 {α β γ δ : Type} [Enc α] [Enc β] [Enc γ] [Enc δ] {f : α → β → γ → Option δ} {n : Nat} {body : CS}
    (h : ∀ a b c d M, f a b c = some d → ∃ g, body (some (enc a) :: some (enc b) :: some (enc c) :: List.replicate (n - 3) none) M = some (.rt (enc d) (M ++ g))) : Keeps n body (fn3 f) := by
  refine KeepsP.keeps ?_
  intro ws M w M' hc hw e
  unfold fn3 at e
  split at e
  · split at e
    · rename_i x y z _ _ _ a b c ha hb hcc
      obtain ⟨d, hd, e⟩ := Option.map_eq_some_iff.mp e
      cases e
      obtain ⟨g, hg⟩ := h a b c d M hd
      rw [enc_dec _ _ ha, enc_dec _ _ hb, enc_dec _ _ hcc]
      exact ⟨g, .inl hg, Nat.le_refl _, hc, enc_closed d _⟩
    · cases e
  · cases e

/-! ### items, slices, ranges in plain words -/
theorem ixW_nat {n j : Nat} (h : j < n) : ixW n (j : Int) = some j := by
  unfold ixW
  rw [if_pos (Int.natCast_nonneg j), if_pos (by omega)]
  simp
@[simp] theorem ixW_0 {n : Nat} : ixW (n + 1) 0 = some 0 := ixW_nat (j := 0) (by omega)
@[simp] theorem ixW_1 {n : Nat} : ixW (n + 2) 1 = some 1 := ixW_nat (j := 1) (by omega)
@[simp] theorem ixW_2 {n : Nat} : ixW (n + 3) 2 = some 2 := ixW_nat (j := 2) (by omega)
theorem sIx_nat (n d k : Nat) : sIx n d (some (k : Int)) = min k n := by
  unfold sIx
  simp only
  rw [if_neg (by omega)]
  simp
theorem cutW_lo {α : Type} (xs : List α) (k : Nat) : cutW xs (some (k : Int)) none = xs.drop k := by
  unfold cutW
  rw [sIx_nat]
  show (xs.drop (min k xs.length)).take (xs.length - min k xs.length) = _
  by_cases h : k ≤ xs.length
  · rw [Nat.min_eq_left h]
    exact List.take_of_length_le (by simp)
  · rw [Nat.min_eq_right (by omega), List.drop_length, List.drop_of_length_le (by omega)]
    simp
theorem cutW_hi {α : Type} (xs : List α) (k : Nat) : cutW xs none (some (k : Int)) = xs.take k := by
  unfold cutW
  rw [sIx_nat]
  show (xs.drop 0).take (min k xs.length - 0) = _
  rw [List.drop_zero, Nat.sub_zero]
  by_cases h : k ≤ xs.length
  · rw [Nat.min_eq_left h]
  · rw [Nat.min_eq_right (by omega), List.take_length, List.take_of_length_le (by omega)]
@[simp] theorem cutW_hi1 {α : Type} (xs : List α) (k : Nat) : cutW xs none (some ((k : Int) + 1)) = xs.take (k + 1) := cutW_hi xs (k + 1)
@[simp] theorem cutW_lo1 {α : Type} (xs : List α) (k : Nat) : cutW xs (some ((k : Int) + 1)) none = xs.drop (k + 1) := cutW_lo xs (k + 1)
@[simp] theorem cutW_hi0 {α : Type} (xs : List α) (k : Nat) : cutW xs none (some (k : Int)) = xs.take k := cutW_hi xs k
@[simp] theorem cutW_lo0 {α : Type} (xs : List α) (k : Nat) : cutW xs (some (k : Int)) none = xs.drop k := cutW_lo xs k
theorem cutW_map {α β : Type} (f : α → β) (xs : List α) (lo hi : Option Int) : cutW (xs.map f) lo hi = (cutW xs lo hi).map f := by
  unfold cutW
  simp [List.map_take, List.map_drop]
end BF

set_option Elab.async false
set_option linter.all false
set_option autoImplicit false
set_option maxRecDepth 10000
/-! Loops and comprehensions by an invariant; the tape. -/
namespace BF
open PySem Enc

theorem forL_ind {gd : Mem → Bool} {g : CG} {body : CS} (ws : List W) (P : Nat → Sl → Mem → Prop) {σ : Sl} {M : Mem} (h0 : P 0 σ M) (hg : ∀ i σ M, P i σ M → gd M = true)
    (step : ∀ i w σ M, ws[i]? = some w → P i σ M → ∃ σ1, g w σ = some σ1 ∧ ∃ σ2 M2, (body σ1 M = some (.nx σ2 M2) ∨ body σ1 M = some (.ct σ2 M2)) ∧ P (i + 1) σ2 M2) :
    ∃ σ' M', forL gd g body ws σ M = some (.nx σ' M') ∧ P ws.length σ' M' := by
  induction ws generalizing P σ M with
  | nil => exact ⟨σ, M, by rw [forL, if_pos (hg 0 σ M h0)], h0⟩
  | cons w ws ih =>
    obtain ⟨σ1, h1, σ2, M2, h2, h3⟩ := step 0 w σ M rfl h0
    obtain ⟨σ', M', e, p⟩ := ih (fun i => P (i + 1)) h3 (fun i => hg (i + 1)) fun i w' σ M hw hp => step (i + 1) w' σ M hw hp
    refine ⟨σ', M', ?_, p⟩
    rw [forL, if_pos (hg 0 σ M h0), h1]
    rcases h2 with h2 | h2
    · show (body σ1 M).bind _ = _
      rw [h2]; exact e
    · show (body σ1 M).bind _ = _
      rw [h2]; exact e
def contO (gd : Mem → Bool) (g : CG) (body : CS) (ws : List W) : Out → Option Out
  | .nx σ' M' => forL gd g body ws σ' M'
  | .ct σ' M' => forL gd g body ws σ' M'
  | .bk σ' M' => some (.nx σ' M')
  | .rt w M' => some (.rt w M')
theorem forL_cons {gd : Mem → Bool} {g : CG} {body : CS} {w : W} {ws : List W} {σ σ1 : Sl} {M : Mem} {o : Out} (h0 : gd M = true) (h1 : g w σ = some σ1) (h2 : body σ1 M = some o) : forL gd g body (w :: ws) σ M = contO gd g body ws o := by
  rw [forL, if_pos h0, h1]
  show (body σ1 M).bind _ = _
  rw [h2]
  cases o <;> rfl
theorem forL_nil {gd : Mem → Bool} {g : CG} {body : CS} {σ : Sl} {M : Mem} (h0 : gd M = true) : forL gd g body [] σ M = some (.nx σ M) := by rw [forL, if_pos h0]
/-- a loop whose turns may return -/
theorem forL_ret {gd : Mem → Bool} {g : CG} {body : CS} (ws : List W) (P : Nat → Sl → Mem → Prop) (R : W → Mem → Prop) {σ : Sl} {M : Mem} (h0 : P 0 σ M) (hg : ∀ i σ M, P i σ M → gd M = true)
    (step : ∀ i w σ M, ws[i]? = some w → P i σ M → ∃ σ1, g w σ = some σ1 ∧ ∃ o, body σ1 M = some o ∧ match o with
      | .nx σ2 M2 => P (i + 1) σ2 M2
      | .ct σ2 M2 => P (i + 1) σ2 M2
      | .bk _ _ => False
      | .rt v M2 => R v M2) :
    (∃ σ' M', forL gd g body ws σ M = some (.nx σ' M') ∧ P ws.length σ' M') ∨ ∃ v M', forL gd g body ws σ M = some (.rt v M') ∧ R v M' := by
  induction ws generalizing P σ M with
  | nil => exact .inl ⟨σ, M, by rw [forL, if_pos (hg 0 σ M h0)], h0⟩
  | cons w ws ih =>
    obtain ⟨σ1, h1, o, h2, h3⟩ := step 0 w σ M rfl h0
    rw [forL_cons (hg 0 σ M h0) h1 h2]
    cases o with
    | nx σ2 M2 => exact ih (fun i => P (i + 1)) h3 (fun i => hg (i + 1)) fun i w' σ M hw hp => step (i + 1) w' σ M hw hp
    | ct σ2 M2 => exact ih (fun i => P (i + 1)) h3 (fun i => hg (i + 1)) fun i w' σ M hw hp => step (i + 1) w' σ M hw hp
    | bk σ2 M2 => exact h3.elim
    | rt v M2 => exact .inr ⟨v, M2, rfl, h3⟩
theorem lcL_ind {gd : Mem → Bool} {g : CG} {t : CT} {e : CE} {vs : List Nat} {σ : Sl} {D : Nat} (ws : List W) (P : Nat → List W → Mem → Prop) {M : Mem} {acc0 : List W} (h0 : P 0 acc0 M) (hg : ∀ i acc M, P i acc M → gd M = true)
    (step : ∀ i w acc M, ws[i]? = some w → P i acc M → ∃ σ1, g w (wipe σ vs) = some σ1 ∧ ∃ b M1, t σ1 M = some (b, M1) ∧
      if b = true then ∃ x M2, e σ1 M1 = some (x, M2) ∧ M2[D]? = some (.lst acc) ∧ acc.length < 16777216 ∧ P (i + 1) (acc ++ [x]) (M2.set D (.lst (acc ++ [x]))) else P (i + 1) acc M1) :
    ∃ M' acc, lcL gd g t e vs σ D ws M = some M' ∧ P ws.length acc M' := by
  induction ws generalizing P M acc0 with
  | nil => exact ⟨M, acc0, by rw [lcL, if_pos (hg 0 acc0 M h0)], h0⟩
  | cons w ws ih =>
    obtain ⟨σ1, h1, b, M1, h2, h3⟩ := step 0 w acc0 M rfl h0
    have go : ∀ {M2 : Mem} {acc2 : List W}, P 1 acc2 M2 → ∃ M' acc, lcL gd g t e vs σ D ws M2 = some M' ∧ P (w :: ws).length acc M' := fun {M2 acc2} hp =>
      ih (fun i => P (i + 1)) hp (fun i => hg (i + 1)) fun i w' acc M hw hp => step (i + 1) w' acc M hw hp
    have e0 : lcL gd g t e vs σ D (w :: ws) M = (if b = true then
        (e σ1 M1).bind fun q => match q.2[D]? with
          | some (.lst acc) => if acc.length < 16777216 then lcL gd g t e vs σ D ws (q.2.set D (.lst (acc ++ [q.1]))) else none
          | _ => none
      else lcL gd g t e vs σ D ws M1) := by
      rw [lcL, if_pos (hg 0 acc0 M h0), h1]
      show (t σ1 M).bind _ = _
      rw [h2]; rfl
    rw [e0]
    split at h3
    · rename_i hb
      obtain ⟨x, M2, h4, h5, h6, h7⟩ := h3
      rw [if_pos hb, h4]
      show ∃ M' acc, (match M2[D]? with
        | some (.lst acc) => if acc.length < 16777216 then lcL gd g t e vs σ D ws (M2.set D (.lst (acc ++ [x]))) else none
        | _ => none) = some M' ∧ _
      rw [h5]
      simp only [if_pos h6]
      exact go h7
    · rename_i hb
      rw [if_neg hb]
      exact go h3
/-- items that change nothing: their values in a row -/
theorem lcL_pure {gd : Mem → Bool} {g : CG} {e : CE} {vs : List Nat} {σ : Sl} (ws : List W) (f : W → W) (M : Mem) (acc0 : List W) (hl : acc0.length + ws.length ≤ 16777216) (hg : ∀ l, gd (M ++ [.lst l]) = true)
    (h : ∀ w ∈ ws, ∀ l, ∃ σ1, g w (wipe σ vs) = some σ1 ∧ e σ1 (M ++ [.lst l]) = some (f w, M ++ [.lst l])) :
    lcL gd g tTrue e vs σ M.length ws (M ++ [.lst acc0]) = some (M ++ [.lst (acc0 ++ ws.map f)]) := by
  induction ws generalizing acc0 with
  | nil => rw [lcL, if_pos (hg _)]; simp
  | cons w ws ih =>
    obtain ⟨σ1, h1, h2⟩ := h w List.mem_cons_self acc0
    rw [lcL, if_pos (hg _), h1]
    simp only [List.length_cons] at hl
    simp only [Option.bind_some, tTrue_eq, if_true, h2]
    rw [show (M ++ [MO.lst acc0])[M.length]? = some (.lst acc0) by simp]
    simp only [if_pos (show acc0.length < 16777216 by omega)]
    rw [show (M ++ [MO.lst acc0]).set M.length (.lst (acc0 ++ [f w])) = M ++ [.lst (acc0 ++ [f w])] by simp]
    rw [ih (acc0 ++ [f w]) (by simp; omega) fun w' hw l => h w' (List.mem_cons_of_mem _ hw) l]
    simp
/-- .. with a test -/
theorem lcL_filter {gd : Mem → Bool} {g : CG} {t : CT} {e : CE} {vs : List Nat} {σ : Sl} (ws : List W) (f : W → W) (p : W → Bool) (M : Mem) (acc0 : List W) (hl : acc0.length + ws.length ≤ 16777216) (hg : ∀ l, gd (M ++ [.lst l]) = true)
    (h : ∀ w ∈ ws, ∀ l, ∃ σ1, g w (wipe σ vs) = some σ1 ∧ t σ1 (M ++ [.lst l]) = some (p w, M ++ [.lst l]) ∧ (p w = true → e σ1 (M ++ [.lst l]) = some (f w, M ++ [.lst l]))) :
    lcL gd g t e vs σ M.length ws (M ++ [.lst acc0]) = some (M ++ [.lst (acc0 ++ (ws.filter p).map f)]) := by
  induction ws generalizing acc0 with
  | nil => rw [lcL, if_pos (hg _)]; simp
  | cons w ws ih =>
    obtain ⟨σ1, h1, h2, h3⟩ := h w List.mem_cons_self acc0
    rw [lcL, if_pos (hg _), h1]
    simp only [List.length_cons] at hl
    simp only [Option.bind_some, h2]
    by_cases hp : p w = true
    · rw [if_pos hp, h3 hp]
      simp only [Option.bind_some]
      rw [show (M ++ [MO.lst acc0])[M.length]? = some (.lst acc0) by simp]
      simp only [if_pos (show acc0.length < 16777216 by omega)]
      rw [show (M ++ [MO.lst acc0]).set M.length (.lst (acc0 ++ [f w])) = M ++ [.lst (acc0 ++ [f w])] by simp]
      rw [ih (acc0 ++ [f w]) (by simp; omega) fun w' hw l => h w' (List.mem_cons_of_mem _ hw) l, List.filter_cons_of_pos hp]
      simp
    · rw [if_neg hp, ih acc0 (by omega) fun w' hw l => h w' (List.mem_cons_of_mem _ hw) l, List.filter_cons_of_neg hp]

/-! ### the tape -/
/-- the place and the rest of the tape -/
abbrev Dr := Int × Int
def mixT (cell i : Int) : Int :=
  let c := (cell + 1000003 * i) % 2305843009213693951
  let c := (c * c + 1181783497276652981 * c + 2049848353892358983) % 2305843009213693951
  (c * c + 1442695040888963407) % 2305843009213693951
def nextT (ns : List Int) (i : Int) : Int :=
  let cell := if 0 < ns.length then ns.getD (i % ns.length).toNat 0 else 0
  if (ns.length : Int) ≤ i ∨ cell < 10 ^ 18 then mixT cell i else cell
def drawD (ns : List Int) (many : Nat) (s : Dr) : Nat × Dr :=
  let s := if s.2 < many then (s.1 + 1, nextT ns s.1) else s
  ((s.2 % many).toNat, (s.1, s.2 / many))
theorem drawD_lt (ns : List Int) {many : Nat} (s : Dr) (h : 0 < many) : (drawD ns many s).1 < many := by
  unfold drawD
  simp only
  have h1 := Int.emod_nonneg (if s.2 < (many : Int) then (s.1 + 1, nextT ns s.1) else s).2 (show (many : Int) ≠ 0 by omega)
  have h2 := Int.emod_lt_of_pos (if s.2 < (many : Int) then (s.1 + 1, nextT ns s.1) else s).2 (show (0 : Int) < many by omega)
  omega
/-- the memory while a law runs: the script, its copy, the tape -/
def TM (ns : List Int) (s : Dr) (g : Mem) : Mem := .ro (ns.map W.int) :: .lst (ns.map W.int) :: .lst [.ref 1, .int s.1, .int s.2] :: g
/-- promises of defs that draw -/
def withTM {α : Type} (M : Mem) (f : List Int → Dr → Mem → Option α) : Option α := match M with
  | .ro us :: .lst vs :: .lst [.ref 1, .int i, .int c] :: g => match asInts us, asInts vs with
    | some ns, some ms => if ns = ms then f ns (i, c) g else none
    | _, _ => none
  | _ => none
theorem withTM_eq {α : Type} (ns : List Int) (s : Dr) (g : Mem) (f : List Int → Dr → Mem → Option α) : withTM (TM ns s g) f = f ns s g := by
  unfold withTM TM
  simp only [asInts_map, if_true]
theorem withTM_some {α : Type} {M : Mem} {f : List Int → Dr → Mem → Option α} {a : α} (h : withTM M f = some a) : ∃ ns s g, M = TM ns s g ∧ f ns s g = some a := by
  unfold withTM at h
  split at h
  · split at h
    · rename_i h1 h2
      split at h
      · rename_i e
        subst e
        exact ⟨_, _, _, by rw [asInts_some h1, asInts_some h2]; rfl, h⟩
      · cases h
    · cases h
  · cases h
def fnT1 {α β : Type} [Enc α] [Enc β] (f : α → List Int → Dr → Option (β × Dr)) : Fn := fun ws M => match ws with
  | [.ref 2, x] => match (dec x : Option α) with
    | some a => withTM M fun ns s g => (f a ns s).map fun p => (enc p.1, TM ns p.2 g)
    | none => none
  | _ => none
def fnT2 {α β γ : Type} [Enc α] [Enc β] [Enc γ] (f : α → β → List Int → Dr → Option (γ × Dr)) : Fn := fun ws M => match ws with
  | [.ref 2, x, y] => match (dec x : Option α), (dec y : Option β) with
    | some a, some b => withTM M fun ns s g => (f a b ns s).map fun p => (enc p.1, TM ns p.2 g)
    | _, _ => none
  | _ => none
def fnT3 {α β γ δ : Type} [Enc α] [Enc β] [Enc γ] [Enc δ] (f : α → β → γ → List Int → Dr → Option (δ × Dr)) : Fn := fun ws M => match ws with
  | [.ref 2, x, y, z] => match (dec x : Option α), (dec y : Option β), (dec z : Option γ) with
    | some a, some b, some c => withTM M fun ns s g => (f a b c ns s).map fun p => (enc p.1, TM ns p.2 g)
    | _, _, _ => none
  | _ => none
theorem fnT1_eq {α β : Type} [Enc α] [Enc β] (f : α → List Int → Dr → Option (β × Dr)) (a : α) (ns : List Int) (s : Dr) (g : Mem) : fnT1 f [.ref 2, enc a] (TM ns s g) = (f a ns s).map fun p => (enc p.1, TM ns p.2 g) := by
  unfold fnT1
  simp only [dec_enc, withTM_eq]
theorem fnT2_eq {α β γ : Type} [Enc α] [Enc β] [Enc γ] (f : α → β → List Int → Dr → Option (γ × Dr)) (a : α) (b : β) (ns : List Int) (s : Dr) (g : Mem) : fnT2 f [.ref 2, enc a, enc b] (TM ns s g) = (f a b ns s).map fun p => (enc p.1, TM ns p.2 g) := by
  unfold fnT2
  simp only [dec_enc, withTM_eq]
theorem fnT3_eq {α β γ δ : Type} [Enc α] [Enc β] [Enc γ] [Enc δ] (f : α → β → γ → List Int → Dr → Option (δ × Dr)) (a : α) (b : β) (c : γ) (ns : List Int) (s : Dr) (g : Mem) : fnT3 f [.ref 2, enc a, enc b, enc c] (TM ns s g) = (f a b c ns s).map fun p => (enc p.1, TM ns p.2 g) := by
  unfold fnT3
  simp only [dec_enc, withTM_eq]
theorem closeds_ints (ns : List Int) (k : Nat) : W.closeds k (ns.map W.int) = true := by
  induction ns with
  | nil => rfl
  | cons n ns ih => rw [List.map_cons, W.closeds, ih]; rfl
theorem closed_TM {ns : List Int} {s s' : Dr} {g : Mem} (h : Closed (TM ns s g)) : Closed (TM ns s' g) := by
  intro mo hm
  have hl : (TM ns s' g).length = (TM ns s g).length := rfl
  rw [hl]
  rcases List.mem_cons.mp hm with rfl | hm
  · exact closeds_ints ns _
  rcases List.mem_cons.mp hm with rfl | hm
  · exact closeds_ints ns _
  rcases List.mem_cons.mp hm with rfl | hm
  · show W.closeds _ [.ref 1, .int s'.1, .int s'.2] = true
    simp [W.closeds, W.closed, TM]
  · exact h mo (List.mem_cons_of_mem _ (List.mem_cons_of_mem _ (List.mem_cons_of_mem _ hm)))
@[simp high] theorem TM_get0 (ns : List Int) (s : Dr) (g : Mem) : (TM ns s g)[0]? = some (.ro (ns.map W.int)) := nr rfl
@[simp high] theorem TM_get1 (ns : List Int) (s : Dr) (g : Mem) : (TM ns s g)[1]? = some (.lst (ns.map W.int)) := nr rfl
@[simp high] theorem TM_get2 (ns : List Int) (s : Dr) (g : Mem) : (TM ns s g)[2]? = some (.lst [.ref 1, .int s.1, .int s.2]) := nr rfl
@[simp high] theorem TM_get3 (ns : List Int) (s : Dr) (g : Mem) (n : Nat) : (TM ns s g)[n + 3]? = g[n]? := nr rfl
@[simp] theorem TM_set3 (ns : List Int) (s : Dr) (g : Mem) (n : Nat) (x : MO) : (TM ns s g).set (n + 3) x = TM ns s (g.set n x) := nr rfl
@[simp] theorem TM_prefix (ns : List Int) (s : Dr) (g g' : Mem) : TM ns s g <+: TM ns s (g ++ g') := ⟨g', rfl⟩
@[simp] theorem TM_append (ns : List Int) (s : Dr) (g g' : Mem) : TM ns s g ++ g' = TM ns s (g ++ g') := nr rfl
@[simp] theorem TM_length (ns : List Int) (s : Dr) (g : Mem) : (TM ns s g).length = g.length + 3 := nr rfl
theorem keepsT1 {α β : Type} [Enc α] [Enc β] {f : α → List Int → Dr → Option (β × Dr)} {n : Nat} {body : CS}
    (h : ∀ a ns s g b s', f a ns s = some (b, s') → ∃ g', body (some (.ref 2) :: some (enc a) :: List.replicate (n - 2) none) (TM ns s g) = some (.rt (enc b) (TM ns s' (g ++ g')))) : Keeps n body (fnT1 f) := by
  refine KeepsP.keeps ?_
  intro ws M w M' hc hw e
  unfold fnT1 at e
  split at e
  · split at e
    · rename_i x _ a ha
      obtain ⟨ns, s, g, eM, e2⟩ := withTM_some e
      subst eM
      obtain ⟨⟨b, s'⟩, hb, e3⟩ := Option.map_eq_some_iff.mp e2
      cases e3
      obtain ⟨g', hg⟩ := h a ns s g b s' hb
      rw [enc_dec _ _ ha]
      exact ⟨g', .inl hg, Nat.le_refl _, closed_TM hc, enc_closed b _⟩
    · cases e
  · cases e
theorem keepsT2 {α β γ : Type} [Enc α] [Enc β] [Enc γ] {f : α → β → List Int → Dr → Option (γ × Dr)} {n : Nat} {body : CS}
    (h : ∀ a b ns s g c s', f a b ns s = some (c, s') → ∃ g', body (some (.ref 2) :: some (enc a) :: some (enc b) :: List.replicate (n - 3) none) (TM ns s g) = some (.rt (enc c) (TM ns s' (g ++ g')))) : Keeps n body (fnT2 f) := by
  refine KeepsP.keeps ?_
  intro ws M w M' hc hw e
  unfold fnT2 at e
  split at e
  · split at e
    · rename_i x y _ _ a b ha hb
      obtain ⟨ns, s, g, eM, e2⟩ := withTM_some e
      subst eM
      obtain ⟨⟨c, s'⟩, hcc, e3⟩ := Option.map_eq_some_iff.mp e2
      cases e3
      obtain ⟨g', hg⟩ := h a b ns s g c s' hcc
      rw [enc_dec _ _ ha, enc_dec _ _ hb]
      exact ⟨g', .inl hg, Nat.le_refl _, closed_TM hc, enc_closed c _⟩
    · cases e
  · cases e
theorem keepsT3 {α β γ δ : Type} [Enc α] [Enc β] [Enc γ] [Enc δ] {f : α → β → γ → List Int → Dr → Option (δ × Dr)} {n : Nat} {body : CS}
    (h : ∀ a b c ns s g d s', f a b c ns s = some (d, s') → ∃ g', body (some (.ref 2) :: some (enc a) :: some (enc b) :: some (enc c) :: List.replicate (n - 4) none) (TM ns s g) = some (.rt (enc d) (TM ns s' (g ++ g')))) : Keeps n body (fnT3 f) := by
  refine KeepsP.keeps ?_
  intro ws M w M' hc hw e
  unfold fnT3 at e
  split at e
  · split at e
    · rename_i x y z _ _ _ a b c ha hb hz
      obtain ⟨ns, s, g, eM, e2⟩ := withTM_some e
      subst eM
      obtain ⟨⟨d, s'⟩, hcc, e3⟩ := Option.map_eq_some_iff.mp e2
      cases e3
      obtain ⟨g', hg⟩ := h a b c ns s g d s' hcc
      rw [enc_dec _ _ ha, enc_dec _ _ hb, enc_dec _ _ hz]
      exact ⟨g', .inl hg, Nat.le_refl _, closed_TM hc, enc_closed d _⟩
    · cases e
  · cases e

/-! ### lists of encoded values -/
theorem toD_lst {α : Type} [Enc α] (M : Mem) (n : Nat) (as : List α) (h : M[n]? = some (.lst (as.map enc)) ∨ M[n]? = some (.ro (as.map enc))) (hd : dep α ≤ 63) : toD M 64 (.ref n) = some (.list (as.map fun a => dP (enc a))) := by
  have e : mapO (toD M 63) (as.map enc) = some (as.map fun a => dP (enc a)) := mapO_map (fun a => toD_P M 63 _ (okW_mono _ _ (ok a) 63 hd)) as
  rw [toD]
  rcases h with h | h
  · rw [h]; simp only [e]; rfl
  · rw [h]; simp only [e]; rfl
theorem eqvAll_map {α : Type} [Enc α] (hd : dep α ≤ 63) : ∀ as bs : List α, PyData.eqvAll (as.map fun a => dP (enc a)) (bs.map fun a => dP (enc a)) = true ↔ as = bs
  | [], [] => by simp [PyData.eqvAll]
  | [], _ :: _ => by simp [PyData.eqvAll]
  | _ :: _, [] => by simp [PyData.eqvAll]
  | a :: as, b :: bs => by
    rw [List.map_cons, List.map_cons, PyData.eqvAll, Bool.and_eq_true, eqvAll_map hd as bs, eqv_P 63 _ _ (okW_mono _ _ (ok a) 63 hd) (okW_mono _ _ (ok b) 63 hd), eqE]
    simp
theorem eqW_lst {α : Type} [Enc α] [DecidableEq α] (M : Mem) (n m : Nat) (as bs : List α) (h1 : M[n]? = some (.lst (as.map enc))) (h2 : M[m]? = some (.lst (bs.map enc))) (hd : dep α ≤ 63 := by decide) : eqW M (.ref n) (.ref m) = some (decide (as = bs)) := by
  unfold eqW
  rw [toD_lst M n as (.inl h1) hd, toD_lst M m bs (.inl h2) hd]
  show some (PyData.eqv (.list _) (.list _)) = some _
  congr 1
  simp only [PyData.eqv]
  rw [Bool.eq_iff_iff, eqvAll_map hd, decide_eq_true_eq]

/-! ### sequences: a list or a tuple -/
def seqW (M : Mem) : W → Option (Bool × List W)
  | .tup ws => some (false, ws)
  | .ref n => match M[n]? with
    | some (.lst ws) => some (true, ws)
    | some (.ro ws) => some (true, ws)
    | _ => none
  | _ => none
def isScal : W → Bool
  | .non | .bl _ | .int _ | .str _ => true
  | _ => false
def isBl : W → Bool
  | .bl _ => true
  | _ => false
section
variable {M : Mem} {x : W} {b : Bool} {ws : List W}
theorem seqW_cases (h : seqW M x = some (b, ws)) : (x = .tup ws ∧ b = false) ∨ ∃ n, x = .ref n ∧ b = true ∧ (M[n]? = some (.lst ws) ∨ M[n]? = some (.ro ws)) := by
  unfold seqW at h
  split at h
  · cases h; exact .inl ⟨rfl, rfl⟩
  · split at h
    · rename_i e; cases h; exact .inr ⟨_, rfl, rfl, .inl e⟩
    · rename_i e; cases h; exact .inr ⟨_, rfl, rfl, .inr e⟩
    · cases h
  · cases h
theorem get_app {g : Mem} {n : Nat} {mo : MO} (h : M[n]? = some mo) : (M ++ g)[n]? = some mo := by
  rw [List.getElem?_append_left (List.getElem?_eq_some_iff.mp h).1]; exact h
theorem seqW_app {g : Mem} (h : seqW M x = some (b, ws)) : seqW (M ++ g) x = some (b, ws) := by
  rcases seqW_cases h with ⟨rfl, rfl⟩ | ⟨n, rfl, rfl, h | h⟩
  · rfl
  · simp [seqW, get_app h]
  · simp [seqW, get_app h]
theorem isi2_seq (h : seqW M x = some (b, ws)) : gIsi2 "list" "tuple" M x = some (.bl true, M) := by
  rcases seqW_cases h with ⟨rfl, rfl⟩ | ⟨n, rfl, rfl, h | h⟩
  · rfl
  · simp [gIsi2, tyW, h, isTy]
  · simp [gIsi2, tyW, h, isTy]
theorem isiL_seq (h : seqW M x = some (b, ws)) : gIsi "list" M x = some (.bl b, M) := by
  rcases seqW_cases h with ⟨rfl, rfl⟩ | ⟨n, rfl, rfl, h | h⟩
  · rfl
  · simp [gIsi, tyW, h, isTy]
  · simp [gIsi, tyW, h, isTy]
theorem isiT_seq (h : seqW M x = some (b, ws)) : gIsi "tuple" M x = some (.bl (!b), M) := by
  rcases seqW_cases h with ⟨rfl, rfl⟩ | ⟨n, rfl, rfl, h | h⟩
  · rfl
  · simp [gIsi, tyW, h, isTy]
  · simp [gIsi, tyW, h, isTy]
theorem len_seq (h : seqW M x = some (b, ws)) : pLen [x] M = some (.int ws.length, M) := by
  rcases seqW_cases h with ⟨rfl, rfl⟩ | ⟨n, rfl, rfl, h | h⟩
  · rfl
  · simp [h]
  · simp [h]
theorem ix_seq' (h : seqW M x = some (b, ws)) {k : Nat} {w : W} (hk : ws[k]? = some w) : gIx M x (.int k) = some (w, M) := by
  have hlt : k < ws.length := (List.getElem?_eq_some_iff.mp hk).1
  rcases seqW_cases h with ⟨rfl, rfl⟩ | ⟨n, rfl, rfl, h | h⟩
  · simp [ixW_nat hlt, hk]
  · simp [h, ixW_nat hlt, hk]
  · simp [h, ixW_nat hlt, hk]
theorem isi2_scal (h : isScal x = true) : gIsi2 "list" "tuple" M x = some (.bl false, M) := by cases x <;> first | rfl | cases h
theorem isiL_scal (h : isScal x = true) : gIsi "list" M x = some (.bl false, M) := by cases x <;> first | rfl | cases h
theorem isiT_scal (h : isScal x = true) : gIsi "tuple" M x = some (.bl false, M) := by cases x <;> first | rfl | cases h
theorem isiB_scal (h : isScal x = true) : gIsi "bool" M x = some (.bl (isBl x), M) := by cases x <;> first | rfl | cases h
end
theorem mapO_at {α β : Type} {f : α → Option β} : ∀ {as : List α} {bs : List β}, mapO f as = some bs → bs.length = as.length ∧ ∀ (i : Nat) (a : α), as[i]? = some a → ∃ b, bs[i]? = some b ∧ f a = some b
  | [], bs, h => by cases h; exact ⟨rfl, fun i a h => by simp at h⟩
  | a :: as, bs, h => by
    rw [mapO] at h
    split at h
    · rename_i b bs' h1 h2
      cases h
      obtain ⟨l, e⟩ := mapO_at h2
      refine ⟨by simp [l], fun i a' hi => ?_⟩
      cases i with
      | zero => simp at hi; subst hi; exact ⟨b, rfl, h1⟩
      | succ i => simpa using e i a' (by simpa using hi)
    · cases h
theorem rangeW_mem {lo : Int} {n : Nat} {w : W} (h : w ∈ rangeW lo n) : ∃ i, i < n ∧ w = .int (lo + (i : Nat)) := by
  unfold rangeW at h
  obtain ⟨i, hi, rfl⟩ := List.mem_map.mp h
  exact ⟨i, List.mem_range.mp hi, rfl⟩

/-! ### promises of defs that hand back a new list -/
mutual
theorem W.closed_mono {k j : Nat} (h : k ≤ j) : ∀ w : W, w.closed k = true → w.closed j = true
  | .ref n, c => by rw [W.closed] at c ⊢; exact decide_eq_true (Nat.lt_of_lt_of_le (of_decide_eq_true c) h)
  | .tup ws, c => by rw [W.closed] at c ⊢; exact W.closeds_mono h ws c
  | .non, _ => rfl
  | .bl _, _ => rfl
  | .int _, _ => rfl
  | .str _, _ => rfl
theorem W.closeds_mono {k j : Nat} (h : k ≤ j) : ∀ ws : List W, W.closeds k ws = true → W.closeds j ws = true
  | [], _ => rfl
  | w :: ws, c => by
    rw [W.closeds, Bool.and_eq_true] at c ⊢
    exact ⟨W.closed_mono h w c.1, W.closeds_mono h ws c.2⟩
end
theorem closed_mono {k j : Nat} {mo : MO} (c : mo.closed k = true) (h : k ≤ j) : mo.closed j = true := by
  cases mo with
  | lst ws => exact W.closeds_mono h ws c
  | ro ws => exact W.closeds_mono h ws c
  | dT m kvs =>
    rw [MO.closed, List.all_eq_true] at c ⊢
    intro p hp
    have := c p hp
    rw [Bool.and_eq_true] at this ⊢
    exact ⟨W.closed_mono h _ this.1, W.closed_mono h _ this.2⟩
  | dK kvs =>
    rw [MO.closed, List.all_eq_true] at c ⊢
    intro p hp
    have := c p hp
    rw [Bool.and_eq_true] at this ⊢
    exact ⟨W.closed_mono h _ this.1, W.closed_mono h _ this.2⟩
theorem closeds_enc {γ : Type} [Enc γ] (cs : List γ) (k : Nat) : W.closeds k (cs.map enc) = true := by
  induction cs with
  | nil => rfl
  | cons c cs ih => rw [List.map_cons, W.closeds, enc_closed, ih]; rfl
theorem closed_app {M g : Mem} (h : Closed M) (hg : ∀ mo ∈ g, mo.closed (M ++ g).length = true) : Closed (M ++ g) := by
  intro mo hm
  rcases List.mem_append.mp hm with hm | hm
  · exact closed_mono (h mo hm) (by simp)
  · exact hg mo hm
/-- the new list stands at n among what the body has laid -/
theorem keeps_new {γ : Type} [Enc γ] {n : Nat} {body : CS} {F : Fn} (h : ∀ ws M w M', F ws M = some (w, M') → ∃ cs : List γ, w = .ref M.length ∧ M' = M ++ [.lst (cs.map enc)] ∧
    ∃ k g, body (ws.map some ++ List.replicate (n - ws.length) none) M = some (.rt (.ref k) (M ++ g)) ∧ M.length ≤ k ∧ (M ++ g)[k]? = some (.lst (cs.map enc))) : Keeps n body F := by
  intro ws M w M' hc _ e
  obtain ⟨cs, rfl, rfl, k, g, h1, h2, h3⟩ := h ws M w M' e
  have hid : ∀ i < M.length, (fun i => if i < M.length then i else k) i = i := fun i hi => if_pos hi
  refine ⟨fun i => if i < M.length then i else k, M ++ g, .inl ?_, hid, fun i mo hi => ?_, fun i j hi hj e => ?_, by simp, ?_, ?_⟩
  · rw [W.ren, if_neg (Nat.lt_irrefl _)]; exact h1
  · by_cases hl : i < M.length
    · rw [List.getElem?_append_left hl] at hi
      rw [MO.ren_eq hid (hc mo (List.mem_of_getElem? hi))]
      show (M ++ g)[if i < M.length then i else k]? = _
      rw [if_pos hl, List.getElem?_append_left hl]; exact hi
    · have e0 : i = M.length := by
        have := (List.getElem?_eq_some_iff.mp hi).1
        simp at this; omega
      subst e0
      simp at hi
      subst hi
      show (M ++ g)[if M.length < M.length then M.length else k]? = _
      rw [if_neg (Nat.lt_irrefl _), MO.ren_eq hid (mo := .lst (cs.map enc)) (closeds_enc cs _)]
      exact h3
  · simp only at e
    simp at hi hj
    split at e <;> split at e <;> omega
  · exact closed_app hc fun mo hm => by
      rw [List.mem_singleton] at hm
      subst hm
      exact closeds_enc cs _
  · rw [W.closed]; simp
def fnL1 {α γ : Type} [Enc α] [Enc γ] (f : α → Option (List γ)) : Fn := fun ws M => match ws with
  | [x] => match (dec x : Option α) with
    | some a => (f a).map fun c => (.ref M.length, M ++ [.lst (c.map enc)])
    | none => none
  | _ => none
def fnL2 {α β γ : Type} [Enc α] [Enc β] [Enc γ] (f : α → β → Option (List γ)) : Fn := fun ws M => match ws with
  | [x, y] => match (dec x : Option α), (dec y : Option β) with
    | some a, some b => (f a b).map fun c => (.ref M.length, M ++ [.lst (c.map enc)])
    | _, _ => none
  | _ => none
def fnL3 {α β δ γ : Type} [Enc α] [Enc β] [Enc δ] [Enc γ] (f : α → β → δ → Option (List γ)) : Fn := fun ws M => match ws with
  | [x, y, z] => match (dec x : Option α), (dec y : Option β), (dec z : Option δ) with
    | some a, some b, some d => (f a b d).map fun c => (.ref M.length, M ++ [.lst (c.map enc)])
    | _, _, _ => none
  | _ => none
theorem fnL1_eq {α γ : Type} [Enc α] [Enc γ] (f : α → Option (List γ)) (a : α) (M : Mem) : fnL1 f [enc a] M = (f a).map fun c => (.ref M.length, M ++ [.lst (c.map enc)]) := by
  unfold fnL1; simp only [dec_enc]
theorem fnL2_eq {α β γ : Type} [Enc α] [Enc β] [Enc γ] (f : α → β → Option (List γ)) (a : α) (b : β) (M : Mem) : fnL2 f [enc a, enc b] M = (f a b).map fun c => (.ref M.length, M ++ [.lst (c.map enc)]) := by
  unfold fnL2; simp only [dec_enc]
theorem fnL3_eq {α β δ γ : Type} [Enc α] [Enc β] [Enc δ] [Enc γ] (f : α → β → δ → Option (List γ)) (a : α) (b : β) (d : δ) (M : Mem) : fnL3 f [enc a, enc b, enc d] M = (f a b d).map fun c => (.ref M.length, M ++ [.lst (c.map enc)]) := by
  unfold fnL3; simp only [dec_enc]
theorem keepsL1 {α γ : Type} [Enc α] [Enc γ] {f : α → Option (List γ)} {n : Nat} {body : CS}
    (h : ∀ a cs M, f a = some cs → ∃ k g, body (some (enc a) :: List.replicate (n - 1) none) M = some (.rt (.ref k) (M ++ g)) ∧ M.length ≤ k ∧ (M ++ g)[k]? = some (.lst (cs.map enc))) : Keeps n body (fnL1 f) := by
  refine keeps_new (γ := γ) fun ws M w M' e => ?_
  unfold fnL1 at e
  split at e
  · split at e
    · rename_i x _ a ha
      obtain ⟨c, hcc, e2⟩ := Option.map_eq_some_iff.mp e
      cases e2
      rw [enc_dec _ _ ha]
      exact ⟨c, rfl, rfl, h a c M hcc⟩
    · cases e
  · cases e
theorem keepsL2 {α β γ : Type} [Enc α] [Enc β] [Enc γ] {f : α → β → Option (List γ)} {n : Nat} {body : CS}
    (h : ∀ a b cs M, f a b = some cs → ∃ k g, body (some (enc a) :: some (enc b) :: List.replicate (n - 2) none) M = some (.rt (.ref k) (M ++ g)) ∧ M.length ≤ k ∧ (M ++ g)[k]? = some (.lst (cs.map enc))) : Keeps n body (fnL2 f) := by
  refine keeps_new (γ := γ) fun ws M w M' e => ?_
  unfold fnL2 at e
  split at e
  · split at e
    · rename_i x y _ _ a b ha hb
      obtain ⟨c, hcc, e2⟩ := Option.map_eq_some_iff.mp e
      cases e2
      rw [enc_dec _ _ ha, enc_dec _ _ hb]
      exact ⟨c, rfl, rfl, h a b c M hcc⟩
    · cases e
  · cases e
theorem keepsL3 {α β δ γ : Type} [Enc α] [Enc β] [Enc δ] [Enc γ] {f : α → β → δ → Option (List γ)} {n : Nat} {body : CS}
    (h : ∀ a b d cs M, f a b d = some cs → ∃ k g, body (some (enc a) :: some (enc b) :: some (enc d) :: List.replicate (n - 3) none) M = some (.rt (.ref k) (M ++ g)) ∧ M.length ≤ k ∧ (M ++ g)[k]? = some (.lst (cs.map enc))) : Keeps n body (fnL3 f) := by
  refine keeps_new (γ := γ) fun ws M w M' e => ?_
  unfold fnL3 at e
  split at e
  · split at e
    · rename_i x y z _ _ _ a b d ha hb hd
      obtain ⟨c, hcc, e2⟩ := Option.map_eq_some_iff.mp e
      cases e2
      rw [enc_dec _ _ ha, enc_dec _ _ hb, enc_dec _ _ hd]
      exact ⟨c, rfl, rfl, h a b d c M hcc⟩
    · cases e
  · cases e

/-! ### .. with what was laid left open -/
theorem keeps1p {α β : Type} [Enc α] [Enc β] {f : α → Option β} {n : Nat} {body : CS} (h : ∀ a b M, f a = some b → ∃ M2, body (some (enc a) :: List.replicate (n - 1) none) M = some (.rt (enc b) M2) ∧ M <+: M2) : Keeps n body (fn1 f) :=
  keeps1 fun a b M e => by
    obtain ⟨M2, h1, g, rfl⟩ := h a b M e
    exact ⟨g, h1⟩
theorem keeps2p {α β γ : Type} [Enc α] [Enc β] [Enc γ] {f : α → β → Option γ} {n : Nat} {body : CS}
    (h : ∀ a b c M, f a b = some c → ∃ M2, body (some (enc a) :: some (enc b) :: List.replicate (n - 2) none) M = some (.rt (enc c) M2) ∧ M <+: M2) : Keeps n body (fn2 f) :=
  keeps2 fun a b c M e => by
    obtain ⟨M2, h1, g, rfl⟩ := h a b c M e
    exact ⟨g, h1⟩
theorem keeps3p {α β γ δ : Type} [Enc α] [Enc β] [Enc γ] [Enc δ] {f : α → β → γ → Option δ} {n : Nat} {body : CS}
    (h : ∀ a b c d M, f a b c = some d → ∃ M2, body (some (enc a) :: some (enc b) :: some (enc c) :: List.replicate (n - 3) none) M = some (.rt (enc d) M2) ∧ M <+: M2) : Keeps n body (fn3 f) :=
  keeps3 fun a b c d M e => by
    obtain ⟨M2, h1, g, rfl⟩ := h a b c d M e
    exact ⟨g, h1⟩
theorem TM_pre {ns : List Int} {s : Dr} {g M2 : Mem} (h : TM ns s g <+: M2) : ∃ g', M2 = TM ns s (g ++ g') := by
  obtain ⟨g', rfl⟩ := h
  exact ⟨g', rfl⟩
theorem keepsT1p {α β : Type} [Enc α] [Enc β] {f : α → List Int → Dr → Option (β × Dr)} {n : Nat} {body : CS}
    (h : ∀ a ns s g b s', f a ns s = some (b, s') → ∃ M2, body (some (.ref 2) :: some (enc a) :: List.replicate (n - 2) none) (TM ns s g) = some (.rt (enc b) M2) ∧ TM ns s' g <+: M2) : Keeps n body (fnT1 f) :=
  keepsT1 fun a ns s g b s' e => by
    obtain ⟨M2, h1, h2⟩ := h a ns s g b s' e
    obtain ⟨g', rfl⟩ := TM_pre h2
    exact ⟨g', h1⟩
theorem keepsT2p {α β γ : Type} [Enc α] [Enc β] [Enc γ] {f : α → β → List Int → Dr → Option (γ × Dr)} {n : Nat} {body : CS}
    (h : ∀ a b ns s g c s', f a b ns s = some (c, s') → ∃ M2, body (some (.ref 2) :: some (enc a) :: some (enc b) :: List.replicate (n - 3) none) (TM ns s g) = some (.rt (enc c) M2) ∧ TM ns s' g <+: M2) : Keeps n body (fnT2 f) :=
  keepsT2 fun a b ns s g c s' e => by
    obtain ⟨M2, h1, h2⟩ := h a b ns s g c s' e
    obtain ⟨g', rfl⟩ := TM_pre h2
    exact ⟨g', h1⟩
theorem keepsT3p {α β γ δ : Type} [Enc α] [Enc β] [Enc γ] [Enc δ] {f : α → β → γ → List Int → Dr → Option (δ × Dr)} {n : Nat} {body : CS}
    (h : ∀ a b c ns s g d s', f a b c ns s = some (d, s') → ∃ M2, body (some (.ref 2) :: some (enc a) :: some (enc b) :: some (enc c) :: List.replicate (n - 4) none) (TM ns s g) = some (.rt (enc d) M2) ∧ TM ns s' g <+: M2) : Keeps n body (fnT3 f) :=
  keepsT3 fun a b c ns s g d s' e => by
    obtain ⟨M2, h1, h2⟩ := h a b c ns s g d s' e
    obtain ⟨g', rfl⟩ := TM_pre h2
    exact ⟨g', h1⟩
end BF

set_option Elab.async false
set_option linter.all false
set_option autoImplicit false
set_option maxRecDepth 10000
/-! Defs that stand at the top of the text. -/
namespace BF
open PySem PySem.Spec
open PyProof.Rows L2
/-- this def stands under this name -/
def DefAt (K : PySem.W.Frag) (mg : Str → Option Value) (x : Str) (st : Stmt) : Prop := ∃ f fd, Fun K x x st f fd ∧ mg x = some (.ref f)
/-- .. and keeps this promise -/
def Known (P : Program) (w : World) (K : PySem.W.Frag) (mg : Str → Option Value) (base : Heap) (k : Nat) (x : Str) (ps : List Str) (F : Fn) : Prop :=
  ∃ f fd, FnOk P w K mg base CX0 k f fd ps (spF ⟨K, w⟩ ps.length F) ∧ mg x = some (.ref f) ∧ PySem.W.keepIn K (.ref f) = true ∧ Binds K fd ps []
/-- what binding one's arguments by place gives -/
abbrev BindsAll (x : Str) (st : Stmt) (ps : List Str) : Prop := ∀ (kV doc pm : Value) (an : Option Addr) (cdv ct : Value) (us : List Value), us.length = ps.length → bindArgs (PySem.W.fnOf x x (defArgs st) (defBody st) (defScope st) .none kV doc pm an cdv ct) ⟨us, []⟩ = pure (ps.zip us)
section
variable {P : Program} {w : World} {K : PySem.W.Frag} {mg : Str → Option Value} {base : Heap} {x : Str} {st : Stmt} {N ps : List Str} {k : Nat} {body : CS} {G : Fn}
theorem known (D : DefAt K mg x st) (S : FnScope N ps (defScope st)) (hb : BindsAll x st ps) (hk : Keeps N.length body G)
    (der : ∀ (f : Addr) (cdv : Value) (A : Around) (outer : List Env) (s : Shared) (H : Hp) (E : XK), Room k (A.deeper (envOfC x (defScope st) s.heap.objs.size f cdv)) →
      ESs (cxOf CX0 P w K mg base N x (defScope st) f cdv A outer s H E).nox (defBody st) body) : Known P w K mg base (k + 1) x ps G := by
  obtain ⟨f, fd, F, g⟩ := D
  exact ⟨f, fd, fn_ok F S hk (der f), g, F.kp, F.binds hb⟩
/-- a promise of nothing -/
theorem known0 (D : DefAt K mg x st) (S : FnScope N ps (defScope st)) (hb : BindsAll x st ps) (hG : ∀ ws M, G ws M = none) : Known P w K mg base (k + 1) x ps G := by
  obtain ⟨f, fd, F, g⟩ := D
  refine ⟨f, fd, F.ok S (fun vs H Q E h => h.1) (fun cdv A outer s H vs Q E hr h => ?_), g, F.kp, F.binds hb⟩
  obtain ⟨_, _, _, _, _, _, _, _, e, _⟩ := h
  rw [hG] at e
  cases e
theorem defAt {h : Heap} {f : Addr} {oc : Value} {od an : Option Addr} {osl : Array (Option Value)} {kV doc pm cdv ct : Value} (X : K.In h) (G : h.Ns mainGlobals mg)
    (a : PySem.W.nsIn K mainGlobals x = some (some (.ref f))) (l : K.lookup f = some ⟨oc, od, .func (PySem.W.fnOf x x (defArgs st) (defBody st) (defScope st) .none kV doc pm an cdv ct), osl⟩)
    (c : PySem.W.codeIn K cdv x = true) (k : PySem.W.keepIn K (.ref f) = true) : DefAt K mg x st := ⟨_, _, fun_mk l c k, PySem.W.mg_of X G a⟩
end
section
variable {X : Cx} {x : Str} {p pos : Pos} {e : Expr} {es : List Expr} {cs : List CE}
theorem r_callK {F : Fn} {k : Nat} {ps : List Str} (G : Known X.prog X.w X.K X.mg X.base k x ps F) (hr : Room k X.A) (hg : Gl X x)
    (ha : EA X (e :: es) cs) (hn : cs.length = ps.length := by rfl) (hdb : (x == ("__debug__" : Str)) = false := by decide) (he : starEach (e :: es) X.env = (false, eval e X.env) :: starEach es X.env := by rfl) (hpl : (backTo pos (starEach es X.env)).any (·.1) = false := by rfl) :
    EV X (.Call (.Name x p) (e :: es) [] pos) (eN F cs) := by
  obtain ⟨f, fd, G, hm, hk, hb⟩ := G
  exact r_call G hr hg hm hk hb ha hn hdb he hpl
end
/-- the head's part of a law -/
theorem law_head {l : PySem.W.OpenLaw} {w : World} {K : PySem.W.Frag} {h : Heap} {mg : Str → Option Value} {fa f : Addr} {k : Nat} {st : Stmt} {oc : Value} {od an : Option Addr} {osl : Array (Option Value)} {kV doc pm cdv ct : Value} (X : K.In h) (G : h.Ns mainGlobals mg) (hfa : mg "law" = some (.ref fa))
    (a : PySem.W.nsIn K mainGlobals "law" = some (some (.ref f))) (lk : K.lookup f = some ⟨oc, od, .func (PySem.W.fnOf "law" "law" (defArgs st) (defBody st) (defScope st) .none kV doc pm an cdv ct), osl⟩) (c : PySem.W.codeIn K cdv "law" = true) (kp : PySem.W.keepIn K (.ref f) = true)
    (hb : BindsAll "law" st ["script"]) (ok : ∀ (base : Heap) (fd : FuncData), Fun K "law" "law" st fa fd → FnOk l.prog w K mg base CX0 k fa fd ["script"] (spF ⟨K, w⟩ (["script"] : List Str).length lawF)) :
    ∃ fd : FuncData, (∀ (s : Shared) (v : Value), BindsTo s fd ⟨[v], []⟩ [("script", v)]) ∧ ∀ base : Heap, K.In base → base.Ns mainGlobals mg → FnOk l.prog w K mg base CX0 k fa fd ["script"] (spLaw K) := by
  have e := hfa.symm.trans (PySem.W.mg_of X G a)
  cases e
  exact ⟨PySem.W.fnOf "law" "law" (defArgs st) (defBody st) (defScope st) .none kV doc pm an cdv ct, fun s v => .of_eq (hb kV doc pm an cdv ct [v] rfl), fun base _ _ => law_ok rfl (ok base _ (fun_mk lk c kp))⟩
end BF

set_option Elab.async false
set_option linter.all false
set_option autoImplicit false
set_option maxRecDepth 10000
/-! More operations. -/
namespace BF
open PySem PySem.Spec
open PyProof.Rows L2
/-- x += y of ints -/
def gAdd1 (M : Mem) (x y : W) : Option (W × Mem) := match x, y with
  | .int i, .int j => some (.int (i + j), M)
  | _, _ => none
@[simp] theorem gAdd1_int {M : Mem} (i j : Int) : gAdd1 M (.int i) (.int j) = some (.int (i + j), M) := nr rfl
/-- the least of ints -/
def minI : Int → List Int → Int
  | m, [] => m
  | m, x :: xs => minI (if x < m then x else m) xs
theorem minI_spec : ∀ (xs : List Int) (m : Int), minI m xs ∈ m :: xs ∧ ∀ y ∈ m :: xs, minI m xs ≤ y
  | [], m => ⟨List.mem_cons_self, fun y hy => by
      rcases List.mem_cons.mp hy with rfl | h
      · exact Int.le_refl _
      · cases h⟩
  | x :: xs, m => by
    obtain ⟨h1, h2⟩ := minI_spec xs (if x < m then x else m)
    rw [minI]
    refine ⟨?_, fun y hy => ?_⟩
    · rcases List.mem_cons.mp h1 with h | h
      · rw [h]; split
        · exact List.mem_cons_of_mem _ List.mem_cons_self
        · exact List.mem_cons_self
      · exact List.mem_cons_of_mem _ (List.mem_cons_of_mem _ h)
    · have h0 := h2 _ List.mem_cons_self
      rcases List.mem_cons.mp hy with rfl | hy
      · refine Int.le_trans h0 ?_
        split <;> omega
      rcases List.mem_cons.mp hy with rfl | hy
      · refine Int.le_trans h0 ?_
        split <;> omega
      · exact h2 y (List.mem_cons_of_mem _ hy)
theorem minI_eq {m x : Int} {xs : List Int} (h1 : m ∈ x :: xs) (h2 : ∀ y ∈ x :: xs, m ≤ y) : minI x xs = m := by
  obtain ⟨h3, h4⟩ := minI_spec xs x
  have := h2 _ h3
  have := h4 _ h1
  omega
/-- the ints of a list or a tuple -/
def intsAt (M : Mem) : W → Option (List Int)
  | .ref n => match M[n]? with
    | some (.lst ws) => asInts ws
    | some (.ro ws) => asInts ws
    | _ => none
  | _ => none
def pMinL : Fn := fun ws M => match ws with
  | [w] => match intsAt M w with
    | some (m :: ms) => some (.int (minI m ms), M)
    | _ => none
  | _ => none
@[simp] theorem pMinL_eq {M : Mem} (w : W) : pMinL [w] M = match intsAt M w with
    | some (m :: ms) => some (.int (minI m ms), M)
    | _ => none := nr rfl
@[simp] theorem intsAt_eq {M : Mem} (n : Nat) : intsAt M (.ref n) = match M[n]? with
    | some (.lst ws) => asInts ws
    | some (.ro ws) => asInts ws
    | _ => none := nr rfl
def pSum : Fn := fun ws M => match ws with
  | [w] => match intsAt M w with
    | some ms => some (.int ms.sum, M)
    | _ => none
  | _ => none
@[simp] theorem pSum_eq {M : Mem} (w : W) : pSum [w] M = match intsAt M w with
    | some ms => some (.int ms.sum, M)
    | _ => none := nr rfl
@[simp high] theorem pMin_nat {M : Mem} (i j : Nat) : pMin [.int i, .int j] M = some (.int ((min i j : Nat) : Int), M) := by
  rw [pMin_eq]
  congr 3
  split <;> omega
@[simp high] theorem pMax_nat {M : Mem} (i j : Nat) : pMax [.int i, .int j] M = some (.int ((max i j : Nat) : Int), M) := by
  unfold pMax
  simp only
  congr 3
  split <;> omega
@[simp] theorem gLt_nat {M : Mem} (i j : Nat) : gLt M (.int i) (.int j) = some (.bl (decide (i < j)), M) := by
  show some (W.bl (decide ((i : Int) < j)), M) = _
  congr 3
  exact decide_eq_decide.mpr (by omega)
instance : Enc (Option Int) where
  enc o := match o with
    | none => .non
    | some i => .int i
  dec w := match w with
    | .non => some none
    | .int i => some (some i)
    | _ => none
  dec_enc a := by cases a <;> rfl
  enc_dec w a h := by
    split at h
    · cases h; rfl
    · cases h; rfl
    · cases h
  dep := 1
  ok a := by cases a <;> rfl
  eqE a b := by cases a <;> cases b <;> simp [eqP]
@[simp] theorem enc_on : (Enc.enc (none : Option Int) : W) = .non := rfl
@[simp] theorem enc_os (i : Int) : (Enc.enc (some i : Option Int) : W) = .int i := rfl
theorem map_encS (l : List Str) : l.map (Enc.enc : Str → W) = l.map W.str := rfl
@[simp] theorem eqW_strs (M : Mem) (a b : List Str) : eqW M (.tup (a.map W.str)) (.tup (b.map W.str)) = some (decide (a = b)) := eqW_enc (α := List Str) M a b
@[simp] theorem eqW_hist (M : Mem) (a b : List Str) (i j : Nat) : eqW M (.tup [.tup (a.map W.str), .int i]) (.tup [.tup (b.map W.str), .int j]) = some (decide (a = b ∧ i = j)) := by
  have := eqW_enc (α := Hist) M ⟨a, i⟩ ⟨b, j⟩
  rw [show decide (a = b ∧ i = j) = decide ((⟨a, i⟩ : Hist) = ⟨b, j⟩) from decide_eq_decide.mpr (by simp)]
  exact this
theorem map_encI (l : List Int) : l.map (Enc.enc : Int → W) = l.map W.int := rfl
@[simp] theorem small62s : small62 0 = true ∧ small62 1 = true ∧ small62 2 = true ∧ small62 3 = true ∧ small62 4 = true ∧ small62 5 = true ∧ small62 6 = true ∧ small62 7 = true ∧ small62 8 = true ∧ small62 9 = true ∧ small62 10 = true ∧ small62 11 = true ∧ small62 12 = true ∧ small62 13 = true ∧ small62 14 = true ∧ small62 15 = true ∧ small62 16 = true ∧ small62 17 = true ∧ small62 18 = true ∧ small62 19 = true ∧ small62 20 = true ∧ small62 21 = true ∧ small62 22 = true ∧ small62 23 = true ∧ small62 24 = true ∧ small62 25 = true ∧ small62 26 = true ∧ small62 27 = true ∧ small62 28 = true ∧ small62 29 = true ∧ small62 30 = true ∧ small62 31 = true ∧ small62 32 = true ∧ small62 33 = true ∧ small62 34 = true ∧ small62 35 = true ∧ small62 36 = true ∧ small62 37 = true ∧ small62 38 = true ∧ small62 39 = true ∧ small62 40 = true ∧ small62 41 = true ∧ small62 42 = true ∧ small62 43 = true ∧ small62 44 = true ∧ small62 45 = true ∧ small62 46 = true ∧ small62 47 = true ∧ small62 48 = true ∧ small62 49 = true ∧ small62 50 = true ∧ small62 51 = true ∧ small62 52 = true ∧ small62 53 = true ∧ small62 54 = true ∧ small62 55 = true ∧ small62 56 = true ∧ small62 57 = true ∧ small62 58 = true ∧ small62 59 = true ∧ small62 60 = true ∧ small62 61 = true ∧ small62 62 = true ∧ small62 63 = true ∧ small62 64 = true := by
  refine ⟨?_, ?_, ?_, ?_, ?_, ?_, ?_, ?_, ?_, ?_, ?_, ?_, ?_, ?_, ?_, ?_, ?_, ?_, ?_, ?_, ?_, ?_, ?_, ?_, ?_, ?_, ?_, ?_, ?_, ?_, ?_, ?_, ?_, ?_, ?_, ?_, ?_, ?_, ?_, ?_, ?_, ?_, ?_, ?_, ?_, ?_, ?_, ?_, ?_, ?_, ?_, ?_, ?_, ?_, ?_, ?_, ?_, ?_, ?_, ?_, ?_, ?_, ?_, ?_, ?_⟩ <;> rfl
@[simp] theorem small64s : small64 0 = true ∧ small64 1 = true ∧ small64 2 = true ∧ small64 3 = true ∧ small64 4 = true ∧ small64 5 = true ∧ small64 6 = true ∧ small64 7 = true ∧ small64 8 = true ∧ small64 9 = true ∧ small64 10 = true ∧ small64 11 = true ∧ small64 12 = true ∧ small64 13 = true ∧ small64 14 = true ∧ small64 15 = true ∧ small64 16 = true ∧ small64 17 = true ∧ small64 18 = true ∧ small64 19 = true ∧ small64 20 = true ∧ small64 21 = true ∧ small64 22 = true ∧ small64 23 = true ∧ small64 24 = true ∧ small64 25 = true ∧ small64 26 = true ∧ small64 27 = true ∧ small64 28 = true ∧ small64 29 = true ∧ small64 30 = true ∧ small64 31 = true ∧ small64 32 = true := by
  refine ⟨?_, ?_, ?_, ?_, ?_, ?_, ?_, ?_, ?_, ?_, ?_, ?_, ?_, ?_, ?_, ?_, ?_, ?_, ?_, ?_, ?_, ?_, ?_, ?_, ?_, ?_, ?_, ?_, ?_, ?_, ?_, ?_, ?_⟩ <;> rfl
@[simp] theorem ite_sub_nat (a b : Nat) : (if b < a then (a : Int) - b else 0) = ((a - b : Nat) : Int) := by split <;> omega
@[simp high] theorem pMax_sub {M : Mem} (m a b : Nat) : pMax [.int m, .int ((a : Int) - b)] M = some (.int ((max m (a - b) : Nat) : Int), M) := by
  unfold pMax
  simp only
  congr 3
  split <;> omega
/-- a while loop, turn by turn -/
theorem whileL_on {t : CT} {body : CS} {n : Nat} {σ σ' : Sl} {M M1 M' : Mem} (h1 : t σ M = some (true, M1)) (h2 : body σ M1 = some (.nx σ' M')) : whileL t body (n + 1) σ M = whileL t body n σ' M' := by
  rw [whileL, h1]
  simp only [Option.bind_some, if_true, h2]
theorem whileL_off {t : CT} {body : CS} {n : Nat} {σ : Sl} {M M1 : Mem} (h1 : t σ M = some (false, M1)) : whileL t body (n + 1) σ M = some (.nx σ M1) := by
  rw [whileL, h1]
  rfl
section
variable {K : KW}
theorem l_iadd : Lift2 K (rI0 fun i j => .int (i + j)) gAdd1 := lift_int0 (f' := fun i j => .int (i + j)) (fun M x y p h => by
  unfold gAdd1 at h; split at h
  · cases h; exact ⟨_, _, rfl, rfl, rfl⟩
  · cases h) fun _ _ _ _ => .int _
theorem rds_asInts {H : Hp} {loc : List Addr} : ∀ {ns : List Int} {xs : List V}, Rds K H loc xs (ns.map W.int) → xs = ns.map V.int
  | [], [], _ => rfl
  | n :: ns, x :: xs, r => by
    cases r with
    | cons h t =>
      cases h
      rw [rds_asInts t]; rfl
theorem intsAt_seq {H : Hp} {loc : List Addr} {M : Mem} {v : V} {w : W} {ns : List Int} (s : Store K H loc M) (r : Rd K H loc v w) (h : intsAt M w = some ns) : ∃ a, v = .ref a ∧ SqL K H a (ns.map V.int) := by
  unfold intsAt at h
  split at h
  · cases r with
    | ref hn =>
      split at h
      · rename_i zs hz
        obtain ⟨xs, q1, q2⟩ := s.ok _ _ _ hn hz
        have e := rds_asInts (by rw [← asInts_some h]; exact q2)
        subst e
        exact ⟨_, rfl, SqL.of q1⟩
      · rename_i zs hz
        obtain ⟨xs, q1, q2⟩ := s.ok _ _ _ hn hz
        have e := rds_asInts (by rw [← asInts_some h]; exact q2)
        subst e
        exact ⟨_, rfl, q1.sq⟩
      · cases h
  · cases h
theorem n_minL : LiftN K (rMin K) pMinL := by
  intro H loc M ws vs w M' Q s r e aft
  unfold pMinL at e
  split at e
  · split at e
    · rename_i w0 _ m ms hm
      cases e
      match vs, r with
      | [_], .cons r1 .nil =>
        obtain ⟨a, rfl, sq⟩ := intsAt_seq s r1 hm
        refine ⟨a, _, rfl, sq, Nat.zero_lt_succ _, fun z h1 h2 => ?_⟩
        rw [← minI_eq h1 h2]
        exact aft _ H loc s (.int _) .refl (List.prefix_refl _)
    · cases e
  · cases e
theorem n_sum : LiftN K (rSum K) pSum := by
  intro H loc M ws vs w M' Q s r e aft
  unfold pSum at e
  split at e
  · split at e
    · rename_i w0 _ ms hm
      cases e
      match vs, r with
      | [_], .cons r1 .nil =>
        obtain ⟨a, rfl, sq⟩ := intsAt_seq s r1 hm
        exact ⟨a, _, rfl, sq, aft _ H loc s (.int _) .refl (List.prefix_refl _)⟩
    · cases e
  · cases e
end
end BF

set_option Elab.async false
set_option linter.all false
set_option autoImplicit false
set_option maxRecDepth 100000
set_option maxHeartbeats 4000000
/-! A tuple so many times, at any count. -/
namespace BF
open PySem PySem.Spec
open PyProof.Rows L2
theorem mul_none (l : Addr) (items : Array Value) (n : Nat) (dd : Option Addr) (sl : Array (Option Value)) (x : Int) (u : Tok) (c0 : (decide (x < -(2 ^ 63)) || decide (x ≥ 2 ^ 63)) = false) (c1 : (items.isEmpty || x == 1) = false) (c2 : (decide (x ≤ 0) || items.isEmpty) = true) :
    Meets (Builtin.«tuple.__mul__» ⟨[.ref l, .int x u], []⟩) (fun _ R s => s.heap.get? l = some { cls := .type "tuple", dict := dd, data := .seq items n, slots := sl } ∧
      R (.ok (.ret (Value.ref s.heap.objs.size))) { s with heap := s.heap.push { cls := Value.type "tuple", data := Data.seq #[] }, toks := s.toks }) :=
  .of_wp fun prog w A R s h => by
    obtain ⟨hp, g, d, tk, os⟩ := s
    obtain ⟨hl, h⟩ := h
    have f1 := AutoSeq1.idx_int
    wp_walk using wpAny_loadPart' hl
    repeat (first
      | (refine wpAny_ite_false (decide_eq_false (by rw [c0]; exact Bool.false_ne_true)) ?_; wp_walk using wpAny_loadPart' hl)
      | (refine wpAny_ite_false (decide_eq_false (by rw [c1]; exact Bool.false_ne_true)) ?_; wp_walk using wpAny_loadPart' hl)
      | (refine wpAny_ite_true (decide_eq_true c2) ?_; wp_walk using wpAny_loadPart' hl))
    exact ⟨_, rfl, h⟩
theorem mul_once (l : Addr) (items : Array Value) (n : Nat) (dd : Option Addr) (sl : Array (Option Value)) (x : Int) (u : Tok) (c0 : (decide (x < -(2 ^ 63)) || decide (x ≥ 2 ^ 63)) = false) (c1 : (items.isEmpty || x == 1) = true) :
    Meets (Builtin.«tuple.__mul__» ⟨[.ref l, .int x u], []⟩) (fun _ R s => s.heap.get? l = some { cls := .type "tuple", dict := dd, data := .seq items n, slots := sl } ∧
      R (.ok (.ret (Value.ref l))) s) :=
  .of_wp fun prog w A R s h => by
    obtain ⟨hp, g, d, tk, os⟩ := s
    obtain ⟨hl, h⟩ := h
    have f1 := AutoSeq1.idx_int
    wp_walk using wpAny_loadPart' hl
    repeat (first
      | (refine wpAny_ite_false (decide_eq_false (by rw [c0]; exact Bool.false_ne_true)) ?_; wp_walk using wpAny_loadPart' hl)
      | (refine wpAny_ite_true (decide_eq_true c1) ?_; wp_walk using wpAny_loadPart' hl))
    exact ⟨_, rfl, h⟩
def rRepA (K : KW) : R2 := fun x y H Q => ∃ l k xs, x = .ref l ∧ y = .int k ∧ SqT K H l xs ∧ -1000 ≤ k ∧ k ≤ 1000 ∧ xs.length ≤ 1000 ∧ (xs = [] ∨ k = 1 → Q (.ref l) H) ∧ (¬ (xs = [] ∨ k = 1) → ∀ p, H p = none → Q (.ref p) (upd H p (.tup (List.replicate k.toNat xs).flatten)))
section
variable {X : Cx}
theorem op_repA : OpR X (binaryOp .Mult) (rRepA X.KW) := by
  intro pins s σ H x y v u Q I rx ry h
  obtain ⟨l, k, xs, rfl, rfl, hT, h0, h1, hz, q1, q2⟩ := h
  by_cases hk : 2 ≤ k ∧ xs ≠ []
  · exact op_repT pins s σ H _ _ v u Q I rx ry ⟨l, k, xs, rfl, rfl, hT, hk.2, hk.1, h1, hz, q2 (fun z => z.elim hk.2 (fun z => by omega))⟩
  cases rx
  obtain ⟨t, rfl⟩ := ry
  obtain ⟨its, r, ⟨⟨cls, dd, data, sl⟩, ho, hc, n, hd⟩, hs⟩ := I.tuple hT
  simp only at hc hd
  subst hc hd
  have hle : its.length = xs.length := r.length.symm
  have c0 : (decide (k < -(2 ^ 63)) || decide (k ≥ 2 ^ 63)) = false := by
    rw [decide_eq_false (by omega), decide_eq_false (by omega)] <;> rfl
  have hem : its.toArray.isEmpty = decide (xs = []) := by
    cases its with
    | nil => cases xs with
      | nil => rfl
      | cons _ _ => cases hle
    | cons _ _ => cases xs with
      | nil => cases hle
      | cons _ _ => rfl
  by_cases hc1 : xs = [] ∨ k = 1
  · have c1 : (its.toArray.isEmpty || k == 1) = true := by
      rw [hem]
      rcases hc1 with z | z
      · rw [z]; rfl
      · rw [z]; simp
    refine wpAny_binaryOp_repeat_ref (T := "tuple") (U := "int") (by decide) ⟨_, ho, rfl⟩ (fun s' => typeIs_int s' k t) noFill_tuple_mul F.fills_int_mul F.slot_int_rmul repeat_tuple F.slot_int_index.lookup
      (call_meets F.slot_int_rmul (typeIs_int s k t) F.entry_int_rmul (F.args_int_rmul_2 _ _) (int_rmul_tuple k t l its.toArray n dd sl)
        ⟨ho, rfl, ⟨_, ho, rfl⟩, call_meets F.slot_tuple_mul ⟨_, ho, rfl⟩ F.entry_tuple_mul (F.args_tuple_mul_2 _ _) (mul_once l its.toArray n dd sl k t c0 c1) ⟨ho, ?_⟩⟩)
    exact ⟨.ref l, _, I, rfl, q1 hc1⟩
  · have hk0 : k ≤ 0 := by
      by_cases hx : xs = []
      · exact absurd (.inl hx) hc1
      · by_cases h2 : 2 ≤ k
        · exact absurd ⟨h2, hx⟩ hk
        · have : k ≠ 1 := fun z => hc1 (.inr z)
          omega
    have hx : xs ≠ [] := fun z => hc1 (.inl z)
    have c1 : (its.toArray.isEmpty || k == 1) = false := by
      rw [hem, decide_eq_false hx, Bool.false_or]
      exact beq_eq_false_iff_ne.mpr (by omega)
    have c2 : (decide (k ≤ 0) || its.toArray.isEmpty) = true := by rw [decide_eq_true hk0]; rfl
    refine wpAny_binaryOp_repeat_ref (T := "tuple") (U := "int") (by decide) ⟨_, ho, rfl⟩ (fun s' => typeIs_int s' k t) noFill_tuple_mul F.fills_int_mul F.slot_int_rmul repeat_tuple F.slot_int_index.lookup
      (call_meets F.slot_int_rmul (typeIs_int s k t) F.entry_int_rmul (F.args_int_rmul_2 _ _) (int_rmul_tuple k t l its.toArray n dd sl)
        ⟨ho, rfl, ⟨_, ho, rfl⟩, call_meets F.slot_tuple_mul ⟨_, ho, rfl⟩ F.entry_tuple_mul (F.args_tuple_mul_2 _ _) (mul_none l its.toArray n dd sl k t c0 c1 c2) ⟨ho, ?_⟩⟩)
    have qn := q2 hc1
    rw [show k.toNat = 0 by omega] at qn
    refine ⟨.ref s.heap.objs.size, _, I.laid (t' := s.toks) (o := .tup []) (fun b ob q => Heap.get?_push_of_some _ q) (Nat.le_refl _) ?_, rfl, qn _ (I.hok.fresh (Nat.le_refl _))⟩
    exact ⟨Nat.zero_le _, [], .nil, IsTup.new _ _⟩
end
/-- a tuple so many times -/
def gRepA (M : Mem) (x y : W) : Option (W × Mem) := match x, y with
  | .tup a, .int k => if a.length ≤ 1000 ∧ k ≤ 1000 ∧ -1000 ≤ k then some (.tup (List.replicate k.toNat a).flatten, M) else none
  | _, _ => none
@[simp] theorem gRepA_tup {M : Mem} (a : List W) (k : Int) : gRepA M (.tup a) (.int k) = if a.length ≤ 1000 ∧ k ≤ 1000 ∧ -1000 ≤ k then some (.tup (List.replicate k.toNat a).flatten, M) else none := nr rfl
theorem rds_rep {K : KW} {H : Hp} {loc : List Addr} {xs : List V} {ws : List W} (r : Rds K H loc xs ws) : ∀ k : Nat, Rds K H loc (List.replicate k xs).flatten (List.replicate k ws).flatten
  | 0 => .nil
  | k + 1 => by
    rw [List.replicate_succ, List.replicate_succ, List.flatten_cons, List.flatten_cons]
    exact r.append (rds_rep r k)
theorem l_rep {K : KW} : Lift2 K (rRepA K) gRepA := by
  intro H loc M x y v u w M' Q s rx ry e aft
  unfold gRepA at e
  split at e
  · rename_i a k
    split at e
    · rename_i hz
      cases e
      cases ry
      cases rx with
      | tup sq rs =>
        rename_i p xs
        refine ⟨p, k, xs, rfl, rfl, sq, hz.2.2, hz.2.1, by rw [rs.length]; exact hz.1, fun hc => ?_, fun hc l hl => aft_tup s (rds_rep rs k.toNat) hl aft⟩
        refine aft _ H loc s ?_ .refl (List.prefix_refl _)
        have e1 : (List.replicate k.toNat a).flatten = a := by
          rcases hc with hc | hc
          · subst hc
            cases rs
            induction k.toNat with
            | zero => rfl
            | succ n ih => rw [List.replicate_succ, List.flatten_cons, ih]; rfl
          · rw [hc]; simp
        rw [e1]
        exact .tup sq rs
    · cases e
  · cases e
/-- int(x) of an int or a truth value -/
def pInt : Fn := fun ws M => match ws with
  | [.int i] => some (.int i, M)
  | [.bl k] => some (.int (if k then 1 else 0), M)
  | _ => none
@[simp] theorem pInt_bl {M : Mem} (k : Bool) : pInt [.bl k] M = some (.int (if k = true then 1 else 0), M) := nr rfl
theorem n_int {K : KW} : LiftN K (fun xs H Q => (∃ i, xs = [.int i] ∧ Q (.int i) H) ∨ ∃ k, xs = [.bl k] ∧ Q (.int (if k then 1 else 0)) H) pInt := by
  intro H loc M ws vs w M' Q s r e aft
  unfold pInt at e
  split at e
  · cases e
    match vs, r with
    | [_], .cons (.int _) .nil => exact .inl ⟨_, rfl, aft _ H loc s (.int _) .refl (List.prefix_refl _)⟩
  · cases e
    match vs, r with
    | [_], .cons (.bl _) .nil => exact .inr ⟨_, rfl, aft _ H loc s (.int _) .refl (List.prefix_refl _)⟩
  · cases e
end BF

set_option Elab.async false
set_option linter.all false
set_option autoImplicit false
set_option maxRecDepth 100000
/-! The letters of a text; constants of the module; all(..); is of truth values. -/
namespace BF
open PySem PySem.Spec
open PyProof.Rows L2
def charsW (x : Str) : List W := x.cps.toList.map fun c => .str ⟨#[c]⟩
def iStr (e : CE) : CI := fun σ M => (e σ M).bind fun p => match p.1 with
  | .str x => some (charsW x, gdT, p.2)
  | _ => none
@[simp] theorem iStr_eq {σ : Sl} {M : Mem} (e : CE) : iStr e σ M = (e σ M).bind fun p => match p.1 with
  | .str x => some (charsW x, gdT, p.2)
  | _ => none := nr rfl
/-- a letter in a text -/
def gInS (M : Mem) (x y : W) : Option (W × Mem) := match x, y with
  | .str a, .str z => match a.cps.toList with
    | [c] => some (.bl (decide (c ∈ z.cps.toList)), M)
    | _ => none
  | _, _ => none
def gNotInS (M : Mem) (x y : W) : Option (W × Mem) := match x, y with
  | .str a, .str z => match a.cps.toList with
    | [c] => some (.bl (!decide (c ∈ z.cps.toList)), M)
    | _ => none
  | _, _ => none
@[simp] theorem gInS_one {M : Mem} (c : Nat) (z : Str) : gInS M (.str ⟨#[c]⟩) (.str z) = some (.bl (decide (c ∈ z.cps.toList)), M) := nr rfl
@[simp] theorem gNotInS_one {M : Mem} (c : Nat) (z : Str) : gNotInS M (.str ⟨#[c]⟩) (.str z) = some (.bl (!decide (c ∈ z.cps.toList)), M) := nr rfl
/-- truth values only -/
def asBls : List W → Option (List Bool)
  | [] => some []
  | .bl b :: ws => (asBls ws).map (b :: ·)
  | _ :: _ => none
theorem asBls_map : ∀ bs : List Bool, asBls (bs.map W.bl) = some bs
  | [] => rfl
  | b :: bs => by rw [List.map_cons, asBls, asBls_map bs]; rfl
theorem asBls_some : ∀ {ws : List W} {bs : List Bool}, asBls ws = some bs → ws = bs.map W.bl
  | [], bs, h => by cases h; rfl
  | .bl b :: ws, bs, h => by
    rw [asBls] at h
    obtain ⟨cs, h1, rfl⟩ := Option.map_eq_some_iff.mp h
    rw [List.map_cons, ← asBls_some h1]
  | .non :: _, _, h => by cases h
  | .int _ :: _, _, h => by cases h
  | .str _ :: _, _, h => by cases h
  | .tup _ :: _, _, h => by cases h
  | .ref _ :: _, _, h => by cases h
def pAll : Fn := fun ws M => match ws with
  | [.ref n] => match M[n]? with
    | some (.lst ws) => (asBls ws).map fun bs => (.bl (bs.all id), M)
    | _ => none
  | _ => none
@[simp] theorem pAll_ref {M : Mem} (n : Nat) : pAll [.ref n] M = match M[n]? with
    | some (.lst ws) => (asBls ws).map fun bs => (.bl (bs.all id), M)
    | _ => none := nr rfl
def gIsB (M : Mem) (x y : W) : Option (W × Mem) := match x, y with
  | .bl a, .bl b => some (.bl (decide (a = b)), M)
  | _, _ => none
def gNotB (M : Mem) (x y : W) : Option (W × Mem) := match x, y with
  | .bl a, .bl b => some (.bl (!decide (a = b)), M)
  | _, _ => none
@[simp] theorem gIsB_eq {M : Mem} (a b : Bool) : gIsB M (.bl a) (.bl b) = some (.bl (decide (a = b)), M) := nr rfl
@[simp] theorem gNotB_eq {M : Mem} (a b : Bool) : gNotB M (.bl a) (.bl b) = some (.bl (!decide (a = b)), M) := nr rfl
/-- the length of a text -/
def pLenS : Fn := fun ws M => match ws with
  | [.str x] => some (.int x.length, M)
  | _ => none
@[simp] theorem pLenS_eq {M : Mem} (x : Str) : pLenS [.str x] M = some (.int x.length, M) := nr rfl
section
variable {K : KW}
theorem n_lenS : LiftN K (fun xs H Q => ∃ z, xs = [.str z] ∧ z.length ≤ sizeLine ∧ Q (.int z.length) H) pLenS := by
  intro H loc M ws vs w M' Q s r e aft
  unfold pLenS at e
  split at e
  · cases e
    match vs, r with
    | [_], .cons (.str z h1 h2) .nil => exact ⟨z, rfl, by rw [sizeLine_eq]; omega, aft _ H loc s (.int _) .refl (List.prefix_refl _)⟩
  · cases e
theorem l_inS : Lift2 K rInS gInS := by
  intro H loc M x y v u w M' Q s rx ry e aft
  unfold gInS at e
  split at e
  · rename_i a z
    split at e
    · rename_i c hc
      cases e
      cases rx; cases ry
      have : a = ⟨#[c]⟩ := by
        obtain ⟨cs⟩ := a
        congr 1
        exact Array.toList_inj.mp hc
      exact ⟨c, z, by rw [this], rfl, aft _ H loc s (.bl _) .refl (List.prefix_refl _)⟩
    · cases e
  · cases e
theorem l_notInS : Lift2 K rNotInS gNotInS := by
  intro H loc M x y v u w M' Q s rx ry e aft
  unfold gNotInS at e
  split at e
  · rename_i a z
    split at e
    · rename_i c hc
      cases e
      cases rx; cases ry
      have : a = ⟨#[c]⟩ := by
        obtain ⟨cs⟩ := a
        congr 1
        exact Array.toList_inj.mp hc
      exact ⟨c, z, by rw [this], rfl, aft _ H loc s (.bl _) .refl (List.prefix_refl _)⟩
    · cases e
  · cases e
theorem l_isB : Lift2 K rIsB gIsB := by
  intro H loc M x y v u w M' Q s rx ry e aft
  unfold gIsB at e
  split at e
  · cases e
    cases rx; cases ry
    exact ⟨_, _, rfl, rfl, aft _ H loc s (.bl _) .refl (List.prefix_refl _)⟩
  · cases e
theorem l_notB : Lift2 K rNotB gNotB := by
  intro H loc M x y v u w M' Q s rx ry e aft
  unfold gNotB at e
  split at e
  · cases e
    cases rx; cases ry
    exact ⟨_, _, rfl, rfl, aft _ H loc s (.bl _) .refl (List.prefix_refl _)⟩
  · cases e
theorem rds_bls {H : Hp} {loc : List Addr} : ∀ {bs : List Bool} {xs : List V}, Rds K H loc xs (bs.map W.bl) → xs = bs.map V.bl
  | [], [], _ => rfl
  | b :: bs, x :: xs, r => by
    cases r with
    | cons h t =>
      cases h
      rw [rds_bls t]; rfl
theorem n_all : LiftN K (rAll K) pAll := by
  intro H loc M ws vs w M' Q s r e aft
  unfold pAll at e
  split at e
  · split at e
    · rename_i zs hz
      obtain ⟨bs, hb, e⟩ := Option.map_eq_some_iff.mp e
      cases e
      match vs, r with
      | [_], .cons (.ref (a := a) hn) .nil =>
        obtain ⟨xs, q1, q2⟩ := s.ok _ _ _ hn hz
        have e := rds_bls (by rw [← asBls_some hb]; exact q2)
        subst e
        exact ⟨a, bs, rfl, SqL.of q1, aft _ H loc s (.bl _) .refl (List.prefix_refl _)⟩
    · cases e
  · cases e
theorem walk_of_str {H : Hp} {loc : List Addr} {x : Str} (hx : PyData.strOk x = true) : WalkW K H loc (Its x) (charsW x) gdT :=
  fun i H1 loc1 M s ex l _ => ⟨fun w hw => by
    unfold charsW at hw
    rw [List.getElem?_map] at hw
    obtain ⟨c, hc, rfl⟩ := Option.map_eq_some_iff.mp hw
    have hc2 : x.cps[i]? = some c := by rw [← Array.getElem?_toList]; exact hc
    have hi : i < x.cps.size := by
      have := (List.getElem?_eq_some_iff.mp hc).1
      simpa using this
    refine ⟨hi, fun v H2 y => ?_⟩
    obtain ⟨rfl, d, hd, rfl⟩ := y
    rw [hc2] at hd
    cases hd
    have hcl : c < 0x110000 := by
      have h2 := hx
      unfold PyData.strOk at h2
      rw [Array.all_eq_true] at h2
      obtain ⟨h3, h4⟩ := Array.getElem?_eq_some_iff.mp hc2
      have := h2 i h3
      rw [h4] at this
      exact of_decide_eq_true this
    exact ⟨.str _ (by simpa [PyData.strOk] using hcl) (by show 1 ≤ _; decide), s, .refl⟩, fun hl => by
      unfold charsW at hl
      show x.cps.size ≤ i
      simpa using hl⟩
end
section
variable {X : Cx} {tg iter : Expr} {ca : CE}
theorem i_str (h : EV X iter ca) : EI X tg iter (iStr ca) := (pi_str h).mono fun σV H R ⟨loc, σ, M, ws, gd, M', rel, e, aft⟩ => by
  obtain ⟨p, hp, e⟩ := bind_some e
  refine run1 rel hp fun v H1 loc1 rel1 rd1 ex1 l1 => ?_
  split at e
  · rename_i zs hz
    cases e
    rw [hz] at rd1
    cases rd1 with
    | str _ h1 h2 => exact ⟨_, rfl, aft _ H1 loc1 rel1.st ex1 l1 (walk_of_str h1)⟩
  · cases e
/-- a constant of the module -/
def GlobV (mg : Str → Option Value) (x : Str) (v : V) : Prop := ∃ u, mg x = some u ∧ RelV v u
theorem r_globI {x : Str} {i : Int} {pos : Pos} (hg : Gl X x) (hm : GlobV X.mg x (.int i)) (hd : (x == ("__debug__" : Str)) = false := by decide) : EV X (.Name x pos) (eL (.int i)) := by
  obtain ⟨u, h1, h2⟩ := hm
  exact lit_aux (fun _ _ => .int i) (pe_glob hg h1 h2 hd)
theorem r_globS {x z : Str} {pos : Pos} (hg : Gl X x) (hm : GlobV X.mg x (.str z)) (h : PyData.strOk z = true := by decide +kernel) (h2 : z.length ≤ 16777216 := by decide +kernel) (hd : (x == ("__debug__" : Str)) = false := by decide) : EV X (.Name x pos) (eL (.str z)) := by
  obtain ⟨u, h1, h3⟩ := hm
  exact lit_aux (fun _ _ => .str z h h2) (pe_glob hg h1 h3 hd)
end
end BF

set_option Elab.async false
set_option linter.all false
set_option autoImplicit false
set_option maxRecDepth 100000
/-! tuple(range(n)). -/
namespace BF
open PySem PySem.Spec
open PyProof.Rows L2
def pTupRg : Fn := fun ws M => match ws with
  | [.int n] => if n.natAbs ≤ 16777216 then some (.tup (rangeW 0 n.toNat), M) else none
  | _ => none
@[simp] theorem pTupRg_eq {M : Mem} (n : Int) : pTupRg [.int n] M = if n.natAbs ≤ 16777216 then some (.tup (rangeW 0 n.toNat), M) else none := nr rfl
theorem rds_map {K : KW} {H : Hp} {loc : List Addr} {f : Nat → V} {g : Nat → W} (h : ∀ i, Rd K H loc (f i) (g i)) : ∀ l : List Nat, Rds K H loc (l.map f) (l.map g)
  | [] => .nil
  | a :: l => .cons (h a) (rds_map h l)
theorem r_tupRg {X : Cx} {e : Expr} {ca : CE} {p p2 pos pos2 : Pos} (hg : Gl X "tuple") (hm : X.mg "tuple" = none) (hg2 : Gl X "range") (hm2 : X.mg "range" = none) (ha : EV X e ca) (hc : X.calm = true := by rfl)
    (na2 : starEach [e] X.env = (false, eval e X.env) :: starEach [] X.env := by rfl) (na : starEach [.Call (.Name "range" p2) [e] [] pos2] X.env = (false, eval (.Call (.Name "range" p2) [e] [] pos2) X.env) :: starEach [] X.env := by rfl) :
    EV X (.Call (.Name "tuple" p) [.Call (.Name "range" p2) [e] [] pos2] [] pos) (eN pTupRg [ca]) :=
  (pe_tupRg hc hg hm (prg_1 hg2 hm2 ha na2) na).mono fun σV H Q ⟨loc, σ, M, w, M', rel, e, aft⟩ => by
    obtain ⟨q, hq, e⟩ := bind_some e
    obtain ⟨r, hr, hq⟩ := bind_some hq
    obtain ⟨t, ht, hq⟩ := bind_some hq
    cases ht
    cases hq
    refine run1 rel hr fun v H1 loc1 rel1 rd1 ex1 l1 => ?_
    unfold pTupRg at e
    simp only at e
    split at e
    · rename_i n hn
      split at e
      · rename_i hz
        cases e
        obtain ⟨hn1, _⟩ := List.cons.inj hn
        rw [hn1] at rd1
        cases rd1
        refine ⟨n, rfl, ⟨by omega, by omega, by omega, by omega, by omega⟩, fun l hl => ?_⟩
        refine aft_tup rel1.st ?_ hl (aft.after ex1 l1)
        unfold rgV rangeW
        rw [Int.sub_zero]
        exact rds_map (fun i => .int _) _
      · cases e
    · cases e
end BF

set_option Elab.async false
set_option linter.all false
set_option autoImplicit false
set_option maxRecDepth 100000
/-! sum(..) of a list or of a tuple. -/
namespace BF
open PySem PySem.Spec
open PyProof.Rows L2
def rSumT (K : KW) : List V → Hp → VK → Prop := fun vs H Q => ∃ (a : Addr) (ns : List Int), vs = [V.ref a] ∧ SqT K H a (ns.map V.int) ∧ Q (.int ns.sum) H
theorem cr_sumT {X : Cx} (hc : X.calm = true) : CallR X (.builtin "sum") (rSumT X.KW) := by
  intro pins s σ H vs us Q I r h
  obtain ⟨a, ns, rfl, hs, q⟩ := h
  obtain ⟨its, rv, hl, _⟩ := I.tuple hs
  rw [Vals.ref1 r]
  have hi := rv.ints
  obtain ⟨xs, e⟩ := hi.allInts.items
  have hn : numsOf (intItems xs).toList = ns := by rw [← e]; exact hi.numsOf
  rw [nums_intItems] at hn
  rw [e] at hl
  refine PySem.W.ktm_sumG (I.ok.hd hc) hl fun h' tk t' hk => ?_
  rw [preSum_eq, List.take_of_length_le (by simp), hn]
  exact ⟨.int _, H, I.kept hk, ⟨_, rfl⟩, q⟩
theorem cr_sumW {X : Cx} (hc : X.calm = true) : CallR X (.builtin "sum") (fun vs H Q => rSum X.KW vs H Q ∨ rSumT X.KW vs H Q) := by
  intro pins s σ H vs us Q I r h
  rcases h with h | h
  · exact cr_sum hc pins s σ H vs us Q I r h
  · exact cr_sumT hc pins s σ H vs us Q I r h
def pSumW : Fn := fun ws M => match ws with
  | [.tup us] => (asInts us).map fun ns => (.int ns.sum, M)
  | [.ref n] => (intsAt M (.ref n)).map fun ns => (.int ns.sum, M)
  | _ => none
@[simp] theorem pSumW_tup {M : Mem} (us : List W) : pSumW [.tup us] M = (asInts us).map fun ns => (.int ns.sum, M) := nr rfl
@[simp] theorem pSumW_ref {M : Mem} (n : Nat) : pSumW [.ref n] M = (intsAt M (.ref n)).map fun ns => (.int ns.sum, M) := nr rfl
theorem n_sumW {K : KW} : LiftN K (fun vs H Q => rSum K vs H Q ∨ rSumT K vs H Q) pSumW := by
  intro H loc M ws vs w M' Q s r e aft
  unfold pSumW at e
  split at e
  · rename_i us
    obtain ⟨ns, hn, e⟩ := Option.map_eq_some_iff.mp e
    cases e
    match vs, r with
    | [_], .cons (.tup sq rs) .nil =>
      have e := rds_asInts (by rw [← asInts_some hn]; exact rs)
      subst e
      exact .inr ⟨_, ns, rfl, sq, aft _ H loc s (.int _) .refl (List.prefix_refl _)⟩
  · obtain ⟨ns, hn, e⟩ := Option.map_eq_some_iff.mp e
    cases e
    match vs, r with
    | [_], .cons r1 .nil =>
      obtain ⟨a, rfl, sq⟩ := intsAt_seq s r1 hn
      exact .inl ⟨a, ns, rfl, sq, aft _ H loc s (.int _) .refl (List.prefix_refl _)⟩
  · cases e
end BF

set_option Elab.async false
set_option linter.all false
set_option autoImplicit false
set_option maxRecDepth 100000
/-! Dicts whose keys are numbers and texts. -/
namespace BF
open PySem PySem.Spec
open PyProof.Rows L2
theorem hu1 {k : Nat} {A : Around} (hr : Room k A) : A.units + 1 < cLine := by have := hr.un; omega
def keyOf : W → Option Key
  | .int i => some (.inl i)
  | .str x => some (.inr x)
  | _ => none
@[simp] theorem keyOf_keyW (k : Key) : keyOf (keyW k) = some k := by cases k <;> rfl
theorem keyOf_some {w : W} {k : Key} (h : keyOf w = some k) : w = keyW k := by
  cases w <;> simp [keyOf] at h <;> subst h <;> rfl
/-- what stands at the key -/
def valW : List (W × W) → Key → Option W
  | [], _ => none
  | p :: ps, k => if keyOf p.1 = some k then some p.2 else valW ps k
/-- in its place, or at the end -/
def putW (ws : List (W × W)) (k : Key) (w : W) : List (W × W) :=
  if (ws.any fun p => decide (keyOf p.1 = some k)) = true then ws.map fun p => if keyOf p.1 = some k then (p.1, w) else p else ws ++ [(keyW k, w)]
section
variable {K : KW} {H : Hp} {loc : List Addr}
theorem rd_key {v : V} {w : W} {k : Key} (r : Rd K H loc v w) (h : keyOf w = some k) : v = kV k := by
  cases r <;> simp [keyOf] at h <;> subst h <;> rfl
theorem val_rel : ∀ {kvs : List (Key × V)} {ws : List (W × W)} {k : Key}, kvs.map (fun p => keyW p.1) = ws.map (·.1) → Rds K H loc (kvs.map (·.2)) (ws.map (·.2)) →
    (valW ws k = none → valV kvs k = none) ∧ ∀ w, valW ws k = some w → ∃ v, valV kvs k = some v ∧ Rd K H loc v w
  | [], [], k, _, _ => ⟨fun _ => rfl, fun w h => by cases h⟩
  | [], _ :: _, _, h, _ => by cases h
  | _ :: _, [], _, h, _ => by cases h
  | p :: kvs, q :: ws, k, h, r => by
    simp only [List.map_cons, List.cons.injEq] at h
    cases r with
    | cons r1 r2 =>
      obtain ⟨h1, h2⟩ := val_rel (k := k) h.2 r2
      have hk : keyOf q.1 = some p.1 := by rw [← h.1, keyOf_keyW]
      rw [valW, hk]
      by_cases e : p.1 = k
      · rw [if_pos (by rw [e]), valV_pos e]
        exact ⟨fun z => (by cases z), fun w z => (by cases z; exact ⟨_, rfl, r1⟩)⟩
      · rw [if_neg (by simpa using e), valV_neg e]
        exact ⟨h1, h2⟩
end
/-- {} -/
def eDict : CE := fun _ M => some (.ref M.length, M ++ [.dK []])
@[simp] theorem eDict_eq {σ : Sl} {M : Mem} : eDict σ M = some (.ref M.length, M ++ [.dK []]) := nr rfl
/-- d[k] -/
def gGet (M : Mem) (x y : W) : Option (W × Mem) := match x, keyOf y with
  | .ref n, some k => match M[n]? with
    | some (.dK ws) => (valW ws k).map fun w => (w, M)
    | some (.dT .lockF ws) => (valW ws k).map fun w => (w, M)
    | _ => none
  | _, _ => none
section
variable {X : Cx} {a b : Expr} {ca cb : CE} {pos : Pos}
theorem r_dict : EV X (.Dict [] [] pos) eDict := pe_dnewK.mono fun σV H Q ⟨loc, σ, M, w, M', rel, e, aft⟩ => by
  cases e
  intro p hp
  refine aft _ _ (loc ++ [p]) (rel.st.new hp ⟨[], upd_same, rfl, fun _ h => (by cases h), .nil⟩) (.ref (last_get rel.st.len.symm)) (.new hp) (List.prefix_append _ _)
theorem r_get (hu : X.A.units + 1 < cLine) (ha : EV X a ca) (hb : EV X b cb) (hs : NoSl b) : EV X (.Subscript a b pos) (e2 gGet ca cb) := (pe_dget hu ha hb hs).mono fun σV H Q ⟨loc, σ, M, w, M', rel, e, aft⟩ => by
  obtain ⟨p, hp, e⟩ := bind_some e
  obtain ⟨q, hq, e⟩ := bind_some e
  refine run1 rel hp fun v H1 loc1 rel1 rd1 ex1 l1 => run1 rel1 hq fun u H2 loc2 rel2 rd2 ex2 l2 => ?_
  unfold gGet at e
  split at e
  · rename_i n k hn hk
    split at e
    · rename_i ws hw
      obtain ⟨x, hx, e⟩ := Option.map_eq_some_iff.mp e
      cases e
      rw [hn] at rd1
      cases rd1 with
      | ref hl =>
        obtain ⟨kvs, h1, h2, h3, h4⟩ := rel2.st.ok _ _ _ (pre_get l2 hl) hw
        obtain ⟨v2, g1, g2⟩ := (val_rel h2 h4).2 _ hx
        exact ⟨_, v2, rfl, .inl ⟨kvs, k, .inl h1, rd_key rd2 hk, g1.symm⟩, aft _ H2 loc2 rel2.st g2 (ex1.trans ex2) (l1.trans l2)⟩
    · rename_i ws hw
      obtain ⟨x, hx, e⟩ := Option.map_eq_some_iff.mp e
      cases e
      rw [hn] at rd1
      cases rd1 with
      | ref hl =>
        obtain ⟨od, kvs, h1, h2⟩ := rel2.st.ok _ _ _ (pre_get l2 hl) hw
        obtain ⟨v2, g1, g2⟩ := (val_rel h2.keys h2.vs).2 _ hx
        exact ⟨_, v2, rfl, .inl ⟨kvs, k, .inr ⟨od, h1⟩, rd_key rd2 hk, g1.symm⟩, aft _ H2 loc2 rel2.st g2 (ex1.trans ex2) (l1.trans l2)⟩
    · cases e
  · cases e
/-- a display of three texts -/
def eDisp3 (k1 v1 k2 v2 k3 v3 : Str) : CE := fun _ M => some (.ref M.length, M ++ [.dK [(.str k1, .str v1), (.str k2, .str v2), (.str k3, .str v3)]])
@[simp] theorem eDisp3_eq {σ : Sl} {M : Mem} (k1 v1 k2 v2 k3 v3 : Str) : eDisp3 k1 v1 k2 v2 k3 v3 σ M = some (.ref M.length, M ++ [.dK [(.str k1, .str v1), (.str k2, .str v2), (.str k3, .str v3)]]) := nr rfl
theorem upd_again {H : Hp} {p : Addr} {a b : HO} : upd (upd H p a) p b = upd H p b := by
  funext x
  by_cases h : x = p
  · subst h; rw [upd_same, upd_same]
  · rw [upd_ne h, upd_ne h, upd_ne h]
theorem merge3 {k1 k2 k3 : Str} {v1 v2 v3 : V} (h12 : k1 ≠ k2) (h13 : k1 ≠ k3) (h23 : k2 ≠ k3) : mergeK [] [(.inr k1, v1), (.inr k2, v2), (.inr k3, v3)] = [((.inr k1 : Key), v1), (.inr k2, v2), (.inr k3, v3)] := by
  have e12 : ¬ ((Sum.inr k1 : Key) = Sum.inr k2) := fun z => h12 (Sum.inr.inj z)
  have e13 : ¬ ((Sum.inr k1 : Key) = Sum.inr k3) := fun z => h13 (Sum.inr.inj z)
  have e23 : ¬ ((Sum.inr k2 : Key) = Sum.inr k3) := fun z => h23 (Sum.inr.inj z)
  simp [mergeK, putK, h12, h13, h23]
theorem r_disp3 {k1 v1 k2 v2 k3 v3 : Str} {i1 i2 i3 j1 j2 j3 p1 p2 p3 q1 q2 q3} (h12 : k1 ≠ k2 := by decide +kernel) (h13 : k1 ≠ k3 := by decide +kernel) (h23 : k2 ≠ k3 := by decide +kernel)
    (o1 : KeyOk (.inr k1) := by exact ⟨by decide +kernel, by decide +kernel⟩) (o2 : KeyOk (.inr k2) := by exact ⟨by decide +kernel, by decide +kernel⟩) (o3 : KeyOk (.inr k3) := by exact ⟨by decide +kernel, by decide +kernel⟩)
    (w1 : KeyOk (.inr v1) := by exact ⟨by decide +kernel, by decide +kernel⟩) (w2 : KeyOk (.inr v2) := by exact ⟨by decide +kernel, by decide +kernel⟩) (w3 : KeyOk (.inr v3) := by exact ⟨by decide +kernel, by decide +kernel⟩) :
    EV X (.Dict [some (.Constant (.str k1) i1 p1), some (.Constant (.str k2) i2 p2), some (.Constant (.str k3) i3 p3)] [.Constant (.str v1) j1 q1, .Constant (.str v2) j2 q2, .Constant (.str v3) j3 q3] pos) (eDisp3 k1 v1 k2 v2 k3 v3) :=
  (pe_disp (pps_cons pe_str pe_str (pps_cons pe_str pe_str (pps_cons pe_str pe_str pps_nil))) rfl rfl (by simp) (by simp)).mono fun σV H Q ⟨loc, σ, M, w, M', rel, e, aft⟩ => by
    cases e
    intro p hp
    refine ⟨upd_same, [(.inr k1, .str v1), (.inr k2, .str v2), (.inr k3, .str v3)], rfl, by simp, ?_⟩
    rw [upd_again, merge3 h12 h13 h23]
    refine aft _ _ (loc ++ [p]) (rel.st.new hp ⟨_, upd_same, rfl, fun q hq => ?_, .cons (.str _ w1.1 w1.2) (.cons (.str _ w2.1 w2.2) (.cons (.str _ w3.1 w3.2) .nil))⟩) (.ref (last_get rel.st.len.symm)) (.new hp) (List.prefix_append _ _)
    rcases List.mem_cons.mp hq with rfl | hq
    · exact o1
    rcases List.mem_cons.mp hq with rfl | hq
    · exact o2
    rw [List.mem_singleton] at hq
    rw [hq]; exact o3
end
end BF

set_option Elab.async false
set_option linter.all false
set_option autoImplicit false
set_option maxRecDepth 100000
/-! Dicts whose keys are nested tuples. -/
namespace BF
open PySem PySem.Spec
open PyProof.Rows L2
/-- a tuple as such a key -/
def keyT (w : W) : Option NestedKey := match w with
  | .tup ws => match keyNs ws with
    | some ks => if (NestedKey.tup ks).depth ≤ 8 then some (.tup ks) else none
    | none => none
  | _ => none
theorem keyT_some {w : W} {k : NestedKey} (h : keyT w = some k) : keyN w = some k ∧ k.depth ≤ 8 ∧ ∃ ws, w = .tup ws := by
  unfold keyT at h
  split at h
  · split at h
    · rename_i ks hk
      split at h
      · rename_i hd
        cases h
        exact ⟨by rw [keyN, hk]; rfl, hd, _, rfl⟩
      · cases h
    · cases h
  · cases h
/-- what stands at the key -/
def valN (ws : List (W × W)) (k : NestedKey) : Option W := (ws.find? fun p => decide (keyN p.1 = some k)).map (·.2)
/-- in its place, or at the end -/
def putN (ws : List (W × W)) (k : NestedKey) (x w : W) : List (W × W) :=
  if (valN ws k).isSome = true then ws.map fun p => if keyN p.1 = some k then (p.1, w) else p else ws ++ [(x, w)]
def valE (es : NE) (k : NestedKey) : Option V := (es.find? fun e => decide (e.1 = k)).map (·.2.2)
def putE (es : NE) (k : NestedKey) (b : Addr) (v : V) : NE :=
  if (valE es k).isSome = true then es.map fun e => if e.1 = k then (e.1, e.2.1, v) else e else es ++ [(k, b, v)]
theorem paired_get? {α β : Type} {G : α → β → Prop} {l₁ : List α} {l₂ : List β} (h : Paired G l₁ l₂) {i : Nat} {b : β} (e : l₂[i]? = some b) : ∃ a, l₁[i]? = some a ∧ G a b := by
  induction h generalizing i with
  | nil => simp at e
  | cons r t ih =>
    cases i with
    | zero => simp only [List.getElem?_cons_zero, Option.some.injEq] at e; subst e; exact ⟨_, rfl, r⟩
    | succ i => simp only [List.getElem?_cons_succ] at e ⊢; exact ih e
section
variable {X : Cx} {pins : List (Addr × Obj)} {σ : L2.St} {H : Hp} {s : Shared} {loc : List Addr}
mutual
theorem nest_is (I : Inv X pins σ H s) : ∀ {w : W} {v : V} {u : Value} {k : NestedKey}, Rd X.KW H loc v w → keyN w = some k → RelV v u → NestedIs s.heap k u
  | .non, _, _, _, r, e, q => by cases r; cases e; cases q; exact .none
  | .bl b, _, _, _, r, e, q => by cases r; cases e; cases q; exact .bool rfl
  | .int i, _, _, _, r, e, q => by cases r; cases e; obtain ⟨t, rfl⟩ := q; exact .int i t
  | .str x, _, _, _, r, e, q => by cases r; cases e; obtain ⟨t, rfl⟩ := q; exact .text x t
  | .tup ws, _, _, _, r, e, q => by
    cases r with
    | tup sq rs =>
      rw [keyN] at e
      obtain ⟨ks, hk, rfl⟩ := Option.map_eq_some_iff.mp e
      cases (show _ = Value.ref _ from q)
      obtain ⟨its, rv, ⟨o, ho, hc, n, hd⟩, _⟩ := I.tuple sq
      exact .tup ho hc hd (by rw [List.toList_toArray]; exact nest_all I rs hk rv)
  | .ref _, _, _, _, r, e, q => by cases e
theorem nest_all (I : Inv X pins σ H s) : ∀ {ws : List W} {vs : List V} {us : List Value} {ks : List NestedKey}, Rds X.KW H loc vs ws → keyNs ws = some ks → Vals vs us → NestedAll s.heap ks us
  | [], _, _, _, r, e, q => by cases r; cases e; cases q; exact .nil
  | w :: ws, _, _, _, r, e, q => by
    cases r with
    | cons r1 r2 =>
      cases q with
      | cons q1 q2 =>
        rw [keyNs] at e
        split at e
        · rename_i k ks h1 h2
          cases e
          exact .cons (nest_is I r1 h1 q1) (nest_all I r2 h2 q2)
        · cases e
end
theorem nest_key (I : Inv X pins σ H s) {w : W} {v : V} {u : Value} {k : NestedKey} (r : Rd X.KW H loc v w) (h : keyT w = some k) (q : RelV v u) : ∃ a, v = .ref a ∧ u = .ref a ∧ (nestedKind X.prog X.w).is s.heap k a := by
  obtain ⟨h1, h2, ws, rfl⟩ := keyT_some h
  have n := nest_is I r h1 q
  cases r with
  | @tup a xs _ sq rs =>
    cases (show _ = Value.ref _ from q)
    exact ⟨a, rfl, rfl, n, h2⟩
theorem nest_dict (I : Inv X pins σ H s) {es : NE} {ws : List (W × W)} {a : Addr} (n : NestOk X.KW H loc es ws) (e : L2.Rd H a (nestO X.w a es)) :
    es.length ≤ sizeLine ∧ (a == sysModules) = false ∧ ∃ xs, NP es xs ∧ s.heap.DictOfH (nestedKind X.prog X.w) a xs := by
  have ob : ObjOk X.prog X.w H s.heap a (nestO X.w a es) := rd_of I.hok e
  obtain ⟨⟨z, hd, xs, np, o, en, ep, h1, h2, h3, h4, h5⟩, _⟩ := ob
  refine ⟨z, hd, xs, np, o, en, ep, h1, h2, h3, h4, fun x hx => ?_, h5⟩
  obtain ⟨i, hi⟩ := List.getElem?_of_mem hx
  obtain ⟨q, hq, e1, e2, _⟩ := paired_get? np hi
  have k1 : (es.map fun e => some e.1)[i]? = some (some q.1) := by rw [List.getElem?_map, hq]; rfl
  have k2 : (es.map fun e => V.ref e.2.1)[i]? = some (.ref q.2.1) := by rw [List.getElem?_map, hq]; rfl
  obtain ⟨w, hw, rw'⟩ := n.ks.get' k2
  rw [n.keys, List.getElem?_map] at k1
  rw [List.getElem?_map] at hw
  cases hp : ws[i]? with
  | none => rw [hp] at hw; cases hw
  | some p =>
    rw [hp] at k1 hw
    have k3 : keyN p.1 = some q.1 := Option.some.inj k1
    have k4 : p.1 = w := Option.some.inj hw
    rw [← k4] at rw'
    have := nest_is I rw' k3 (u := .ref q.2.1) rfl
    rw [e1, e2] at this
    exact ⟨this, by rw [← e1]; exact n.dep q (List.mem_of_getElem? hq)⟩
theorem np_val {es : NE} {xs : List (NestedKey × Addr × Value)} (r : NP es xs) (k : NestedKey) : RelO (valE es k) ((atKey xs k).map (·.2)) := by
  unfold valE atKey
  induction r with
  | nil => trivial
  | @cons p q ps qs h t ih =>
    obtain ⟨e1, e2, e3⟩ := h
    by_cases e : p.1 = k
    · rw [List.find?_cons_of_pos (by simpa using e), List.find?_cons_of_pos (by rw [← e1]; simpa using e)]
      exact e3
    · rw [List.find?_cons_of_neg (by simpa using e), List.find?_cons_of_neg (by rw [← e1]; simpa using e)]
      exact ih
theorem np_put {es : NE} {xs : List (NestedKey × Addr × Value)} (r : NP es xs) (k : NestedKey) (b : Addr) {v : V} {u : Value} (q : RelV v u) : NP (putE es k b v) (storedH xs k b u) := by
  unfold putE storedH
  have e : (valE es k).isSome = (atKey xs k).isSome := by
    have := np_val r k
    rw [this.isSome_eq, Option.isSome_map]
  rw [e]
  split
  · rename_i hz
    clear e hz
    induction r with
    | nil => exact .nil
    | @cons p x ps qs h t ih =>
      rw [List.map_cons, List.map_cons]
      refine .cons ?_ ih
      obtain ⟨e1, e2, e3⟩ := h
      unfold putAt
      by_cases e : p.1 = k
      · rw [if_pos e, if_pos (by rw [← e1]; exact e)]; exact ⟨e1, e2, q⟩
      · rw [if_neg e, if_neg (by rw [← e1]; exact e)]; exact ⟨e1, e2, e3⟩
  · exact Paired.snoc r ⟨rfl, rfl, q⟩
theorem ok_val {es : NE} {ws : List (W × W)} {K : KW} (n : NestOk K H loc es ws) (k : NestedKey) : (valN ws k = none → valE es k = none) ∧ ∀ w, valN ws k = some w → ∃ v, valE es k = some v ∧ Rd K H loc v w := by
  have h1 := n.keys
  have h4 := n.vs
  clear n
  unfold valN valE
  induction es generalizing ws with
  | nil =>
    cases ws with
    | nil => exact ⟨fun _ => rfl, fun w h => (by cases h)⟩
    | cons _ _ => cases h1
  | cons e es ih =>
    cases ws with
    | nil => cases h1
    | cons p ws =>
      simp only [List.map_cons, List.cons.injEq] at h1 h4
      cases h4 with
      | cons r1 r2 =>
        by_cases he : e.1 = k
        · have hp : keyN p.1 = some k := by rw [← h1.1, he]
          rw [List.find?_cons_of_pos (by simpa using hp), List.find?_cons_of_pos (by simpa using he)]
          exact ⟨fun z => (by cases z), fun w z => (by cases z; exact ⟨_, rfl, r1⟩)⟩
        · have hp : ¬ keyN p.1 = some k := by rw [← h1.1]; simpa using he
          rw [List.find?_cons_of_neg (by simpa using hp), List.find?_cons_of_neg (by simpa using he)]
          exact ih h1.2 r2
theorem rds_map2 {K : KW} {es : NE} {ws : List (W × W)} {k : NestedKey} {v : V} {w : W} (r : Rd K H loc v w) (hk : es.map (fun e => some e.1) = ws.map (fun p => keyN p.1)) (h : Rds K H loc (es.map fun e => e.2.2) (ws.map (·.2))) :
    Rds K H loc ((es.map fun e => if e.1 = k then (e.1, e.2.1, v) else e).map fun e => e.2.2) ((ws.map fun p => if keyN p.1 = some k then (p.1, w) else p).map (·.2)) := by
  induction es generalizing ws with
  | nil =>
    cases ws with
    | nil => exact .nil
    | cons _ _ => cases hk
  | cons e es ih =>
    cases ws with
    | nil => cases hk
    | cons p ws =>
      simp only [List.map_cons, List.cons.injEq] at hk h ⊢
      cases h with
      | cons r1 r2 =>
        refine .cons ?_ (ih hk.2 r2)
        by_cases he : e.1 = k
        · rw [if_pos he, if_pos (by rw [← hk.1, he])]; exact r
        · rw [if_neg he, if_neg (by rw [← hk.1]; simpa using he)]; exact r1
theorem ok_put {K : KW} {es : NE} {ws : List (W × W)} {k : NestedKey} {b : Addr} {v : V} {x w : W} (n : NestOk K H loc es ws) (hx : keyN x = some k) (hd : k.depth ≤ 8) (rx : Rd K H loc (.ref b) x) (rv : Rd K H loc v w) : NestOk K H loc (putE es k b v) (putN ws k x w) := by
  have e : (valE es k).isSome = (valN ws k).isSome := by
    obtain ⟨a1, a2⟩ := ok_val n k
    cases h : valN ws k with
    | none => rw [a1 h]; rfl
    | some y => obtain ⟨v, hv, _⟩ := a2 y h; rw [hv]; rfl
  unfold putE putN
  rw [e]
  split
  · have e1 : (fun e : NestedKey × Addr × V => (if e.1 = k then (e.1, e.2.1, v) else e).1) = fun e => e.1 := by funext e; split <;> rfl
    have e2 : (fun e : NestedKey × Addr × V => (if e.1 = k then (e.1, e.2.1, v) else e).2.1) = fun e => e.2.1 := by funext e; split <;> rfl
    have e3 : (fun p : W × W => (if keyN p.1 = some k then (p.1, w) else p).1) = fun p => p.1 := by funext p; split <;> rfl
    refine ⟨?_, fun q hq => ?_, ?_, rds_map2 rv n.keys n.vs⟩
    · rw [List.map_map, List.map_map]
      have := n.keys
      refine Eq.trans (List.map_congr_left fun e _ => ?_) (this.trans (List.map_congr_left fun p _ => ?_))
      · exact congrArg some (congrFun e1 e)
      · exact congrArg keyN (congrFun e3 p).symm
    · obtain ⟨q0, hq0, rfl⟩ := List.mem_map.mp hq
      have := n.dep q0 hq0
      split <;> exact this
    · have := n.ks
      rw [List.map_map, List.map_map]
      rw [show ((fun e : NestedKey × Addr × V => V.ref e.2.1) ∘ fun e => if e.1 = k then (e.1, e.2.1, v) else e) = fun e => V.ref e.2.1 from funext fun e => congrArg V.ref (congrFun e2 e)]
      rw [show ((fun p : W × W => p.1) ∘ fun p => if keyN p.1 = some k then (p.1, w) else p) = fun p => p.1 from e3]
      exact this
  · refine ⟨?_, fun q hq => ?_, ?_, ?_⟩
    · rw [List.map_append, List.map_append, n.keys]
      simp only [List.map_cons, List.map_nil, hx]
    · rcases List.mem_append.mp hq with hq | hq
      · exact n.dep q hq
      · rw [List.mem_singleton] at hq; subst hq; exact hd
    · rw [List.map_append, List.map_append]
      exact n.ks.append (.cons rx .nil)
    · rw [List.map_append, List.map_append]
      exact n.vs.append (.cons rv .nil)
theorem putE_length (es : NE) (k : NestedKey) (b : Addr) (v : V) : (putE es k b v).length ≤ es.length + 1 := by
  unfold putE
  split <;> simp
theorem nest_new {P : Program} {w : World} {H' : Hp} {h' : Heap} {a : Addr} {es : NE} {xs : List (NestedKey × Addr × Value)} (z : es.length ≤ sizeLine) (hd : (a == sysModules) = false) (np : NP es xs) (dd : h'.DictOfH (nestedKind P w) a xs) : ObjOk P w H' h' a (nestO w a es) := by
  obtain ⟨o, en, ep, h1, h2, h3, h4, _, h5⟩ := dd
  exact ⟨⟨z, hd, xs, np, o, en, ep, h1, h2, h3, h4, h5⟩, ⟨o, h1⟩, fun g1 g2 ⟨z, hd, xs, np, o, en, ep, h1, h2, h3, h4, h5⟩ k => ⟨z, hd, xs, np, o, en, ep, k _ h1, h2, h3, h4, h5⟩⟩
end
end BF

set_option Elab.async false
set_option linter.all false
set_option autoImplicit false
set_option maxRecDepth 100000
/-! Dicts whose keys are nested tuples: the rules. -/
namespace BF
open PySem PySem.Spec
open PyProof.Rows L2
/-- what the dict at a holds at the key y -/
def NGet (K : KW) (H : Hp) (a : Addr) (y : V) (o : Option V) : Prop := ∃ loc es ws x k, L2.Rd H a (nestO K.wd a es) ∧ NestOk K H loc es ws ∧ Rd K H loc y x ∧ keyT x = some k ∧ o = valE es k
/-- a is such a dict -/
def NIs (K : KW) (H : Hp) (a : Addr) : Prop := ∃ loc es ws, L2.Rd H a (nestO K.wd a es) ∧ NestOk K H loc es ws
section
variable {X : Cx} {pins : List (Addr × Obj)} {σ : L2.St} {H : Hp} {s : Shared} {a : Addr} {y v d : V} {u r : Value} {o : Option V} {E : Value → Shared → Prop}
theorem nget_at (I : Inv X pins σ H s) (g : NGet X.KW H a y o) (ry : RelV y u) : ∃ b k xs, u = .ref b ∧ (nestedKind X.prog X.w).is s.heap k b ∧ (a == sysModules) = false ∧ s.heap.DictOfH (nestedKind X.prog X.w) a xs ∧ RelO o ((atKey xs k).map (·.2)) := by
  obtain ⟨loc, es, ws, x, k, h1, h2, h3, h4, rfl⟩ := g
  obtain ⟨b, _, rfl, hk⟩ := nest_key I h3 h4 ry
  obtain ⟨_, hd, xs, np, dd⟩ := nest_dict I h2 h1
  exact ⟨b, k, xs, rfl, hk, hd, dd, np_val np k⟩
theorem room_nest {A : Around} (hu : A.units + 64 < cLine) : (nestedKind X.prog X.w).room A.in1 := by
  show A.units + 1 + 8 < cLine
  omega
theorem n_getItem {Q : Value → Shared → Prop} (hu : X.A.units + 64 < cLine) (I : Inv X pins σ H s) (g : NGet X.KW H a y (some v)) (ry : RelV y u) (h : ∀ w' s', Inv X pins σ H s' → RelV v w' → Q w' s') :
    s.TypeIs (.ref a) "dict" ∧ wpAny (model X.prog X.w) X.A (getItem (.ref a) u) Q E s := by
  obtain ⟨b, k, xs, rfl, hk, hd, dd, ro⟩ := nget_at I g ry
  obtain ⟨w', hw, rw'⟩ := RelO.some_of ro
  obtain ⟨p, hp, hp2⟩ := Option.map_eq_some_iff.mp hw
  refine ⟨dd.typeIs, wpAny_getItem_heap (room_nest hu) hk dd hp ?_⟩
  rw [hp2]
  exact h w' _ (I.tok _) rw'
def rNIn (K : KW) : R2 := fun x z H Q => ∃ a o, z = .ref a ∧ NGet K H a x o ∧ Q (.bl o.isSome) H
def rNNotIn (K : KW) : R2 := fun x z H Q => ∃ a o, z = .ref a ∧ NGet K H a x o ∧ Q (.bl (!o.isSome)) H
theorem op_nin (hu : X.A.units + 64 < cLine) : OpR X (compareOp .In) (rNIn X.KW) := by
  intro pins s σ H x z v u Q I rx rz h
  obtain ⟨a, o, rfl, g, q⟩ := h
  cases (show u = Value.ref a from rz)
  obtain ⟨b, k, xs, rfl, hk, hd, dd, ro⟩ := nget_at I g rx
  refine wpAny_in_heap (room_nest hu) hk hd dd ⟨.bl o.isSome, H, I.tok _, ?_, q⟩
  have := ro.isSome_eq
  rw [Option.isSome_map] at this
  rw [this]
  rfl
theorem op_nnotin (hu : X.A.units + 64 < cLine) : OpR X (compareOp .NotIn) (rNNotIn X.KW) := by
  intro pins s σ H x z v u Q I rx rz h
  obtain ⟨a, o, rfl, g, q⟩ := h
  cases (show u = Value.ref a from rz)
  obtain ⟨b, k, xs, rfl, hk, hd, dd, ro⟩ := nget_at I g rx
  refine wpAny_notIn_heap (room_nest hu) hk hd dd ⟨.bl (!o.isSome), H, I.tok _, ?_, q⟩
  have := ro.isSome_eq
  rw [Option.isSome_map] at this
  rw [this]
  rfl
/-- a[y] = v -/
def rNPut (K : KW) : TSet := fun x y v H Q => ∃ a es k b ws loc z, x = .ref a ∧ y = .ref b ∧ H a = some (nestO K.wd a es) ∧ NestOk K H loc es ws ∧ Rd K H loc y z ∧ keyT z = some k ∧ es.length < sizeLine ∧ Q (upd H a (nestO K.wd a (putE es k b v)))
theorem o_nput (hu : X.A.units + 64 < cLine) : PSet X (rNPut X.KW) := by
  intro pins s σ H o i v ov iv u Q I ro ri rv h
  obtain ⟨a, es, k, b, ws, loc, z, rfl, rfl, e, n, rz, hz, hl, q⟩ := h
  cases (show ov = Value.ref a from ro)
  cases (show iv = Value.ref b from ri)
  obtain ⟨b', eb, eb2, hk⟩ := nest_key I rz hz (u := .ref b) rfl
  cases eb
  obtain ⟨hz2, hd, xs, np, dd⟩ := nest_dict I n (.inl e)
  have hlx : xs.length ≤ sizeLine := by rw [← Paired.length np]; exact hz2
  refine wpAny_setItem_heap (hsz := hlx) (room_nest hu) hk dd fun h' dd' hs => ⟨_, ?_, q⟩
  have hl2 : (putE es k b v).length ≤ sizeLine := by have := putE_length es k b v; omega
  have he : ∃ q, h'.get? a = some q := let ⟨q, _, _, hq, _⟩ := dd'; ⟨q, hq⟩
  exact d_write I (by rw [e]; exact True.intro) hs he (nest_new hl2 hd (np_put np k b rv) dd')
/-- a.get(y, d) -/
theorem n_get2 {Q : Value → Shared → Prop} (hu : X.A.units + 64 < cLine) (I : Inv X pins σ H s) (g : NGet X.KW H a y o) (ry : RelV y u) (rd : RelV d r) (h : ∀ w' s', Inv X pins σ H s' → RelV (o.getD d) w' → Q w' s') :
    wpAny (model X.prog X.w) X.A (call (.builtin "dict.get") [.ref a, u, r]) Q E s := by
  obtain ⟨b, k, xs, rfl, hk, hd, dd, ro⟩ := nget_at I g ry
  exact call_meetsIn PySem.F.slot_dict_get dd.typeIs PySem.F.entry_dict_get (PySem.F.args_dict_get_3 _ _ _) (meetsH_dict_get_default (nestedKind X.prog X.w) a b hd r) ⟨room_nest hu, k, xs, hk, dd, h _ _ (I.tok _) (ro.getD rd)⟩
theorem n_get1 {Q : Value → Shared → Prop} (hu : X.A.units + 64 < cLine) (I : Inv X pins σ H s) (g : NGet X.KW H a y o) (ry : RelV y u) (h : ∀ w' s', Inv X pins σ H s' → RelV (o.getD .non) w' → Q w' s') :
    wpAny (model X.prog X.w) X.A (call (.builtin "dict.get") [.ref a, u]) Q E s := by
  obtain ⟨b, k, xs, rfl, hk, hd, dd, ro⟩ := nget_at I g ry
  exact call_meetsIn PySem.F.slot_dict_get dd.typeIs PySem.F.entry_dict_get (PySem.F.args_dict_get_2 _ _) (meetsH_dict_get (nestedKind X.prog X.w) a b hd) ⟨room_nest hu, k, xs, hk, dd, h _ _ (I.tok _) (ro.getD rfl)⟩
theorem nis_at (I : Inv X pins σ H s) (d : NIs X.KW H a) : s.TypeIs (.ref a) "dict" ∧ (∀ b, Value.ref a = .ref b → ∃ ob, s.heap.get? b = some ob ∧ ob.dict = none) := by
  obtain ⟨loc, es, ws, h1, h2⟩ := d
  obtain ⟨_, hd, xs, np, dd⟩ := nest_dict I h2 h1
  refine ⟨dd.typeIs, fun b q => ?_⟩
  cases q
  obtain ⟨ob, _, _, g1, g2, _⟩ := dd
  exact ⟨ob, g1, g2.2.1⟩
end

/-! ### the plain operations -/
/-- the entries of such a dict, walked or not -/
def nestAt (M : Mem) (n : Nat) : Option (List (W × W)) := match M[n]? with
  | some (.dT .nest ws) => some ws
  | some (.dT .lockN ws) => some ws
  | _ => none
def gGetN (M : Mem) (x y : W) : Option (W × Mem) := match x, keyT y with
  | .ref n, some k => ((nestAt M n).bind fun ws => valN ws k).map fun w => (w, M)
  | _, _ => none
def gInN (M : Mem) (x y : W) : Option (W × Mem) := match y, keyT x with
  | .ref n, some k => (nestAt M n).map fun ws => (.bl (valN ws k).isSome, M)
  | _, _ => none
def gNotInN (M : Mem) (x y : W) : Option (W × Mem) := match y, keyT x with
  | .ref n, some k => (nestAt M n).map fun ws => (.bl (!(valN ws k).isSome), M)
  | _, _ => none
def putNM (M : Mem) (o x w : W) : Option Mem := match o, keyT x with
  | .ref n, some k => match M[n]? with
    | some (.dT .nest ws) => if ws.length < 16777216 then some (M.set n (.dT .nest (putN ws k x w))) else none
    | _ => none
  | _, _ => none
/-- o.get(k, d) -/
def eGetN2 (o k d : CE) : CE := fun σ M => (o σ M).bind fun p => match p.1 with
  | .ref n => if (nestAt p.2 n).isSome = true then (k σ p.2).bind fun q => (d σ q.2).bind fun r => match keyT q.1 with
    | some kk => (nestAt r.2 n).map fun ws => ((valN ws kk).getD r.1, r.2)
    | none => none
    else none
  | _ => none
/-- o.get(k) -/
def eGetN1 (o k : CE) : CE := fun σ M => (o σ M).bind fun p => match p.1 with
  | .ref n => if (nestAt p.2 n).isSome = true then (k σ p.2).bind fun q => match keyT q.1 with
    | some kk => (nestAt q.2 n).map fun ws => ((valN ws kk).getD .non, q.2)
    | none => none
    else none
  | _ => none
def eDictN : CE := fun _ M => some (.ref M.length, M ++ [.dT .nest []])
@[simp] theorem eDictN_eq {σ : Sl} {M : Mem} : eDictN σ M = some (.ref M.length, M ++ [.dT .nest []]) := nr rfl
/-- {k: v} -/
def eNDisp (k v : CE) : CE := fun σ M => (k σ (M ++ [.dT .nest []])).bind fun p => (v σ p.2).bind fun q => match keyT p.1 with
  | some kk => match q.2[M.length]? with
    | some (.dT .nest []) => some (.ref M.length, q.2.set M.length (.dT .nest [(p.1, q.1)]))
    | _ => none
  | none => none
section
variable {K : KW} {H : Hp} {loc : List Addr} {M : Mem}
theorem nestAt_ok (s : Store K H loc M) {n : Nat} {a : Addr} {ws : List (W × W)} (ha : loc[n]? = some a) (h : nestAt M n = some ws) : ∃ es, L2.Rd H a (nestO K.wd a es) ∧ NestOk K H loc es ws := by
  unfold nestAt at h
  split at h
  · rename_i ws' hw
    cases h
    obtain ⟨es, h1, h2⟩ := s.ok n a _ ha hw
    exact ⟨es, .inl h1, h2⟩
  · rename_i ws' hw
    cases h
    obtain ⟨o, es, h1, h2⟩ := s.ok n a _ ha hw
    exact ⟨es, .inr ⟨o, h1⟩, h2⟩
  · cases h
theorem nget_of (s : Store K H loc M) {n : Nat} {a : Addr} {ws : List (W × W)} {y : V} {x : W} {k : NestedKey} (ha : loc[n]? = some a) (h : nestAt M n = some ws) (ry : Rd K H loc y x) (hk : keyT x = some k) :
    ∃ o, NGet K H a y o ∧ (valN ws k = none → o = none) ∧ ∀ w, valN ws k = some w → ∃ v, o = some v ∧ Rd K H loc v w := by
  obtain ⟨es, h1, h2⟩ := nestAt_ok s ha h
  obtain ⟨h3, h4⟩ := ok_val h2 k
  exact ⟨valE es k, ⟨loc, es, ws, x, k, h1, h2, ry, hk, rfl⟩, h3, h4⟩
theorem nget_isSome {o : Option V} {w : Option W} (h1 : w = none → o = none) (h2 : ∀ x, w = some x → ∃ v, o = some v ∧ Rd K H loc v x) : o.isSome = w.isSome := by
  cases w with
  | none => rw [h1 rfl]; rfl
  | some x => obtain ⟨v, rfl, _⟩ := h2 x rfl; rfl
theorem nget_getD {o : Option V} {w : Option W} {d : V} {e : W} (h1 : w = none → o = none) (h2 : ∀ x, w = some x → ∃ v, o = some v ∧ Rd K H loc v x) (h3 : Rd K H loc d e) : Rd K H loc (o.getD d) (w.getD e) := by
  cases w with
  | none => rw [h1 rfl]; exact h3
  | some x => obtain ⟨v, rfl, r⟩ := h2 x rfl; exact r
theorem l_inN : Lift2 K (rNIn K) gInN := by
  intro H loc M x y v u w M' Q s rx ry e aft
  unfold gInN at e
  split at e
  · rename_i n k hk
    obtain ⟨ws, hw, e⟩ := Option.map_eq_some_iff.mp e
    cases e
    cases ry with
    | ref ha =>
      obtain ⟨o, g, g1, g2⟩ := nget_of s ha hw rx hk
      refine ⟨_, o, rfl, g, ?_⟩
      rw [nget_isSome g1 g2]
      exact aft _ H loc s (.bl _) .refl (List.prefix_refl _)
  · cases e
theorem l_notInN : Lift2 K (rNNotIn K) gNotInN := by
  intro H loc M x y v u w M' Q s rx ry e aft
  unfold gNotInN at e
  split at e
  · rename_i n k hk
    obtain ⟨ws, hw, e⟩ := Option.map_eq_some_iff.mp e
    cases e
    cases ry with
    | ref ha =>
      obtain ⟨o, g, g1, g2⟩ := nget_of s ha hw rx hk
      refine ⟨_, o, rfl, g, ?_⟩
      rw [nget_isSome g1 g2]
      exact aft _ H loc s (.bl _) .refl (List.prefix_refl _)
  · cases e
theorem p_nput : LiftP K (rNPut K) putNM := by
  intro H loc M x y z o i v M' Q s rx ry rz e h
  unfold putNM at e
  split at e
  · rename_i n k hk
    split at e
    · rename_i ws hw
      split at e
      · rename_i hl
        cases e
        cases rx with
        | @ref a _ ha =>
          obtain ⟨es, h1, h2⟩ := s.ok n a _ ha hw
          obtain ⟨kn, kd, us, rfl⟩ := keyT_some hk
          cases ry with
          | @tup b xs _ sq rs =>
            have hle : es.length = ws.length := by
              have := congrArg List.length h2.keys
              simpa using this
            refine ⟨a, es, k, b, ws, loc, .tup us, rfl, rfl, h1, h2, .tup sq rs, hk, by rw [hle]; exact hl, ?_⟩
            have ex : Ext K H (upd H a (nestO K.wd a (putE es k b v))) := .upd h1 trivial
            refine h _ loc (s.put ha hw rfl rfl ⟨_, upd_same, (ok_put h2 kn kd (.tup sq rs) rz).mono ex (List.prefix_refl _)⟩) ex (List.prefix_refl _)
      · cases e
    · cases e
  · cases e
end
section
variable {X : Cx} {a b c : Expr} {ca cb cc : CE} {pos apos cpos : Pos}
theorem r_getN (hu : X.A.units + 64 < cLine) (ha : EV X a ca) (hb : EV X b cb) (hs : NoSl b) : EV X (.Subscript a b pos) (e2 gGetN ca cb) := ⟨fun pins s σV H Q I ⟨loc, σ, M, w, M', rel, e, aft⟩ => by
  obtain ⟨p, hp, e⟩ := bind_some e
  obtain ⟨q, hq, e⟩ := bind_some e
  refine subD_of PySem.F.slot_dict_getitem.lookup hs (thn (ha.run pins s σV H (fun x H1 => TC X.KW cb σV H1 fun y H2 => ∃ a v, x = .ref a ∧ NGet X.KW H2 a y (some v) ∧ Q v H2) I ?_) fun u s1 ⟨x, H1, I1, rx, q1⟩ => thn (hb.run pins s1 σV H1 _ I1 q1) fun iv s2 ⟨y, H2, I2, ry, a, v, ex, g, q2⟩ => ?_)
  · refine run1 rel hp fun v H1 loc1 rel1 rd1 ex1 l1 => run1 rel1 hq fun u H2 loc2 rel2 rd2 ex2 l2 => ?_
    unfold gGetN at e
    split at e
    · rename_i n k hn hk
      obtain ⟨z, hz, e⟩ := Option.map_eq_some_iff.mp e
      obtain ⟨ws, hw, hz⟩ := bind_some hz
      cases e
      rw [hn] at rd1
      cases rd1 with
      | ref hl =>
        obtain ⟨o, g, g1, g2⟩ := nget_of rel2.st (pre_get l2 hl) hw rd2 hk
        obtain ⟨v, rfl, rv⟩ := g2 _ hz
        exact ⟨_, v, rfl, g, aft _ H2 loc2 rel2.st rv (ex1.trans ex2) (l1.trans l2)⟩
    · cases e
  · subst ex
    obtain rfl : u = Value.ref a := rx
    exact n_getItem hu I2 g ry fun w' s3 I3 rw' => ⟨v, H2, I3, rw', q2⟩⟩
theorem r_getN2 (hu : X.A.units + 64 < cLine) (ha : EV X a ca) (hb : EV X b cb) (hc : EV X c cc) (m : M2 X a "get" apos b c cpos := by exact ⟨by rfl, by rfl, by rfl, by rfl⟩) : EV X (.Call (.Attribute a "get" apos) [b, c] [] cpos) (eGetN2 ca cb cc) := ⟨fun pins s σV H Q I ⟨loc, σ, M, w, M', rel, e, aft⟩ => by
  obtain ⟨p, hp, e⟩ := bind_some e
  refine wpAny_Call_method m.base m.few m.line PySem.F.plainAttrs_dict PySem.F.slot_dict_get PySem.F.type_dict_get (thn (ha.run pins s σV H (fun x H1 => ∃ a, x = .ref a ∧ NIs X.KW H1 a ∧ TC X.KW cb σV H1 fun y H2 => TC X.KW cc σV H2 fun z H3 => ∃ o, NGet X.KW H3 a y o ∧ Q (o.getD z) H3) I ?_) fun u s1 ⟨x, H1, I1, rx, a, ex, d, q1⟩ => ?_)
  · refine run1 rel hp fun v H1 loc1 rel1 rd1 ex1 l1 => ?_
    split at e
    · rename_i n hn
      split at e
      · rename_i hz
        obtain ⟨ws0, hw0⟩ := Option.isSome_iff_exists.mp hz
        rw [hn] at rd1
        cases rd1 with
        | @ref ad _ hl =>
          obtain ⟨es, h1, h2⟩ := nestAt_ok rel1.st hl hw0
          obtain ⟨q, hq, e⟩ := bind_some e
          obtain ⟨r, hr, e⟩ := bind_some e
          refine ⟨ad, rfl, ⟨loc1, es, ws0, h1, h2⟩, run1 rel1 hq fun y H2 loc2 rel2 rd2 ex2 l2 => run1 rel2 hr fun z H3 loc3 rel3 rd3 ex3 l3 => ?_⟩
          split at e
          · rename_i kk hk
            obtain ⟨ws, hw, e⟩ := Option.map_eq_some_iff.mp e
            cases e
            obtain ⟨o, g, g1, g2⟩ := nget_of rel3.st (pre_get l3 (pre_get l2 hl)) hw (rd2.mono ex3 l3) hk
            exact ⟨o, g, aft _ H3 loc3 rel3.st (nget_getD g1 g2 rd3) ((ex1.trans ex2).trans ex3) ((l1.trans l2).trans l3)⟩
          · cases e
      · cases e
    · cases e
  · subst ex
    obtain rfl : u = Value.ref a := rx
    obtain ⟨t1, t2⟩ := nis_at I1 d
    refine ⟨t1, t2, ?_⟩
    rw [m.trees]
    refine Calls.callWith_builtin rfl (Calls.evalArgs_plain (Calls.spliced_cons (thn (hb.run pins s1 σV H1 _ I1 q1) fun iv s2 ⟨y, H2, I2, ry, q2⟩ =>
      Calls.spliced_cons (thn (hc.run pins s2 σV H2 _ I2 q2) fun fv s3 ⟨z, H3, I3, rz, ov, g, q3⟩ => Calls.spliced_nil ?_))))
    exact n_get2 hu I3 g ry rz fun w' s4 I4 rw' => ⟨_, H3, I4, rw', q3⟩⟩
theorem r_getN1 (hu : X.A.units + 64 < cLine) (ha : EV X a ca) (hb : EV X b cb) (m : M1 X a "get" apos b cpos := by exact ⟨by rfl, by rfl, by rfl, by rfl⟩) : EV X (.Call (.Attribute a "get" apos) [b] [] cpos) (eGetN1 ca cb) := ⟨fun pins s σV H Q I ⟨loc, σ, M, w, M', rel, e, aft⟩ => by
  obtain ⟨p, hp, e⟩ := bind_some e
  refine wpAny_Call_method m.base m.few m.line PySem.F.plainAttrs_dict PySem.F.slot_dict_get PySem.F.type_dict_get (thn (ha.run pins s σV H (fun x H1 => ∃ a, x = .ref a ∧ NIs X.KW H1 a ∧ TC X.KW cb σV H1 fun y H2 => ∃ o, NGet X.KW H2 a y o ∧ Q (o.getD .non) H2) I ?_) fun u s1 ⟨x, H1, I1, rx, a, ex, d, q1⟩ => ?_)
  · refine run1 rel hp fun v H1 loc1 rel1 rd1 ex1 l1 => ?_
    split at e
    · rename_i n hn
      split at e
      · rename_i hz
        obtain ⟨ws0, hw0⟩ := Option.isSome_iff_exists.mp hz
        rw [hn] at rd1
        cases rd1 with
        | @ref ad _ hl =>
          obtain ⟨es, h1, h2⟩ := nestAt_ok rel1.st hl hw0
          obtain ⟨q, hq, e⟩ := bind_some e
          refine ⟨ad, rfl, ⟨loc1, es, ws0, h1, h2⟩, run1 rel1 hq fun y H2 loc2 rel2 rd2 ex2 l2 => ?_⟩
          split at e
          · rename_i kk hk
            obtain ⟨ws, hw, e⟩ := Option.map_eq_some_iff.mp e
            cases e
            obtain ⟨o, g, g1, g2⟩ := nget_of rel2.st (pre_get l2 hl) hw rd2 hk
            exact ⟨o, g, aft _ H2 loc2 rel2.st (nget_getD g1 g2 .non) (ex1.trans ex2) (l1.trans l2)⟩
          · cases e
      · cases e
    · cases e
  · subst ex
    obtain rfl : u = Value.ref a := rx
    obtain ⟨t1, t2⟩ := nis_at I1 d
    refine ⟨t1, t2, ?_⟩
    rw [m.trees]
    refine Calls.callWith_builtin rfl (Calls.evalArgs_plain (Calls.spliced_cons (thn (hb.run pins s1 σV H1 _ I1 q1) fun iv s2 ⟨y, H2, I2, ry, ov, g, q2⟩ => Calls.spliced_nil ?_)))
    exact n_get1 hu I2 g ry fun w' s4 I4 rw' => ⟨_, H2, I4, rw', q2⟩⟩
theorem nest_empty (h : Heap) {w : World} {H' : Hp} {P : Program} (hb : sysModules < h.objs.size) : ObjOk P w H' (h.push { cls := .type "dict", data := .dict #[] }) h.objs.size (nestO w h.objs.size []) :=
  nest_new (Nat.zero_le _) (beq_eq_false_iff_ne.mpr (Ne.symm (Nat.ne_of_lt hb))) .nil (Heap.DictOfH.new h)
theorem new_nest {K : KW} {H : Hp} {loc : List Addr} {M : Mem} {q : Addr} (s : Store K H loc M) (hq : H q = none) : Store K (upd H q (nestO K.wd q [])) (loc ++ [q]) (M ++ [.dT .nest []]) :=
  s.new hq ⟨[], upd_same, ⟨rfl, fun _ h => (by cases h), .nil, .nil⟩⟩
theorem r_dictN : EV X (.Dict [] [] pos) eDictN := ⟨fun pins s σV H Q I ⟨loc, σ, M, w, M', rel, e, aft⟩ => by
  cases e
  have hn := I.hok.fresh (Nat.le_refl s.heap.objs.size)
  refine wpAny_Dict_empty ⟨.ref s.heap.objs.size, _, I.laid (a := s.heap.objs.size) (o := nestO X.w s.heap.objs.size []) (t' := s.toks) (fun _ _ q => Heap.get?_push_of_some _ q) (Nat.le_refl _) (nest_empty s.heap I.big), rfl, ?_⟩
  exact aft _ _ (loc ++ [s.heap.objs.size]) (new_nest rel.st hn) (.ref (last_get rel.st.len.symm)) (.new hn) (List.prefix_append _ _)⟩
theorem r_ndisp (hu : X.A.units + 64 < cLine) (ha : EV X a ca) (hb : EV X b cb) (hz : (evalEachOpt [some a] X.env).zip ((evalEach [b] X.env).map fun v => do let x ← v; standAt pos; pure x) = (pairTrees [some a] [b] X.env pos).map fun p => (some p.1, p.2) := by rfl) :
    EV X (.Dict [some a] [b] pos) (eNDisp ca cb) := ⟨fun pins s σV H Q I ⟨loc, σ, M, w, M', rel, e, aft⟩ => by
  have hn := I.hok.fresh (Nat.le_refl s.heap.objs.size)
  have I1 := I.laid (a := s.heap.objs.size) (o := nestO X.w s.heap.objs.size []) (h' := s.heap.push { cls := .type "dict", data := .dict #[] }) (t' := s.toks) (fun _ _ q => Heap.get?_push_of_some _ q) (Nat.le_refl _) (nest_empty s.heap I.big)
  have rel1 := rel.move (new_nest rel.st hn) (.new hn) (List.prefix_append _ [s.heap.objs.size])
  have hlast : (loc ++ [s.heap.objs.size])[M.length]? = some s.heap.objs.size := last_get rel.st.len.symm
  obtain ⟨p, hp, e⟩ := bind_some e
  obtain ⟨q, hq, e⟩ := bind_some e
  split at e
  · rename_i kk hk
    split at e
    · rename_i hM
      cases e
      rw [arm_eval_Dict, hz, dictDisplay_pairs _ (by intro z; cases z) (by show 1 < 17; decide)]
      refine wpAny_bind (wpAny_standAt (wpAny_bind (wpAny_subDictH (knd := nestedKind X.prog X.w) (show X.A.units + 8 < cLine by omega) (by show 1 ≤ 15; decide) ?_)))
      refine pairTrees_cons_walk (thn (ha.run pins _ σV _ (fun x H1 => TC X.KW cb σV H1 fun y H2 => ∃ loc2 b, Store X.KW H2 loc2 q.2 ∧ loc2[M.length]? = some s.heap.objs.size ∧ x = .ref b ∧ Rd X.KW H2 loc2 x p.1 ∧ Rd X.KW H2 loc2 y q.1 ∧ Ext X.KW H H2 ∧ loc <+: loc2) I1 ?_) fun u s1 ⟨x, H1, I1', rx, q1⟩ => thn (hb.run pins s1 σV H1 _ I1' q1) fun w2 s2 ⟨y, H2, I2, ry, q2⟩ => pairTrees_nil_walk ?_)
      · refine run1 rel1 hp fun v H1 loc1 rel2 rd1 ex1 l1 => run1 rel2 hq fun u H2 loc2 rel3 rd2 ex2 l2 => ?_
        obtain ⟨_, _, us, hus⟩ := keyT_some hk
        have rd1' := rd1.mono ex2 l2
        rw [hus] at rd1 rd1'
        cases rd1 with
        | @tup b xs _ sq rs =>
          refine ⟨loc2, b, rel3.st, pre_get (l1.trans l2) hlast, rfl, by rw [hus]; exact rd1', rd2, (Ext.new hn).trans (ex1.trans ex2), (List.prefix_append _ _).trans (l1.trans l2)⟩
      · obtain ⟨loc2, b, st2, hl2, rfl, rd1, rd2, exA, lA⟩ := q2
        cases (show u = Value.ref b from rx)
        obtain ⟨es, h1, h2⟩ := st2.ok _ _ _ hl2 hM
        have es0 : es = [] := by
          have := congrArg List.length h2.keys
          simpa using this
        subst es0
        obtain ⟨_, hd, xs, np, dd⟩ := nest_dict I2 h2 (.inl h1)
        cases np
        obtain ⟨b', eb, eb2, hki⟩ := nest_key I2 rd1 hk (u := .ref b) rfl
        cases eb
        refine ⟨[(kk, b, w2)], ⟨rfl, rfl, hki, trivial⟩, dd, fun h' tk dd' hs => wpAny_pure ⟨.ref s.heap.objs.size, upd H2 s.heap.objs.size (nestO X.w s.heap.objs.size [(kk, b, y)]), ?_, rfl, ?_⟩⟩
        · have he : ∃ q, h'.get? s.heap.objs.size = some q := let ⟨q, _, _, hq, _⟩ := dd'; ⟨q, hq⟩
          refine d_write I2 (by rw [h1]; exact True.intro) hs he (nest_new (by show 1 ≤ sizeLine; decide) hd (.cons ⟨rfl, rfl, ry⟩ .nil) dd')
        · obtain ⟨kn, kd, us, hus⟩ := keyT_some hk
          have ex : Ext X.KW H2 (upd H2 s.heap.objs.size (nestO X.w s.heap.objs.size [(kk, b, y)])) := .upd h1 trivial
          have ok := (ok_put h2 kn kd rd1 rd2).mono ex (List.prefix_refl _)
          exact aft _ _ loc2 (st2.put hl2 hM rfl rfl ⟨[(kk, b, y)], upd_same, ok⟩) (.ref hl2) (exA.trans ex) lA
    · cases e
  · cases e⟩
end
end BF

set_option Elab.async false
set_option linter.all false
set_option autoImplicit false
set_option maxRecDepth 100000
/-! Walks of dicts; d[k] = v with numbers and texts as keys; sorted(d). -/
namespace BF
open PySem PySem.Spec
open PyProof.Rows L2
/-- a dict is locked, and open again -/
def lkO : MO → Option MO
  | .dK ws => some (.dT .lockF ws)
  | .dT .nest ws => some (.dT .lockN ws)
  | _ => none
def unO : MO → Option MO
  | .dT .lockF ws => some (.dK ws)
  | .dT .lockN ws => some (.dT .nest ws)
  | _ => none
def unM (n : Nat) (M : Mem) : Option Mem := (M[n]?.bind unO).map fun mo => M.set n mo
/-- the memory with the dict locked that c tells, and its id -/
def lkM (c : CE) (σ : Sl) (M : Mem) : Option (Nat × Mem) := match c σ M with
  | some (.ref n, _) => (M[n]?.bind lkO).map fun mo => (n, M.set n mo)
  | _ => none
def eLk (c e : CE) : CE := fun σ M => (lkM c σ M).bind fun l => (e σ l.2).bind fun p => (unM l.1 p.2).map fun M' => (p.1, M')
def sLk (c : CE) (b : CS) : CS := fun σ M => (lkM c σ M).bind fun l => (b σ l.2).bind fun o => match o with
  | .nx σ' M' => (unM l.1 M').map fun M2 => .nx σ' M2
  | .rt w M' => (unM l.1 M').map fun M2 => .rt w M2
  | .bk σ' M' => (unM l.1 M').map fun M2 => .bk σ' M2
  | .ct σ' M' => (unM l.1 M').map fun M2 => .ct σ' M2
/-- the keys of a locked dict -/
def iKeyF (c : CE) : CI := fun σ M => (c σ M).bind fun p => match p.1 with
  | .ref n => match p.2[n]? with
    | some (.dT .lockF ws) => some (ws.map (·.1), gdT, p.2)
    | _ => none
  | _ => none
def iKeyN (c : CE) : CI := fun σ M => (c σ M).bind fun p => match p.1 with
  | .ref n => match p.2[n]? with
    | some (.dT .lockN ws) => some (ws.map (·.1), gdT, p.2)
    | _ => none
  | _ => none
section
variable {K : KW} {H : Hp} {loc : List Addr} {M : Mem} {n : Nat} {a : Addr} {mo mo' : MO}
theorem lk_spec (h : MOk K H loc a mo) (hl : lkO mo = some mo') : ∃ u, H a = some u ∧ Mut (some u) ∧ isMut mo = true ∧ (∀ od, MOk K (upd H a (.frz od u)) loc a mo') := by
  cases mo with
  | lst _ => cases hl
  | ro _ => cases hl
  | dK ws =>
    cases hl
    obtain ⟨kvs, h1, h2, h3, h4⟩ := h
    exact ⟨_, h1, trivial, rfl, fun od => ⟨od, kvs, upd_same, h2, h3, h4.mono (.upd h1 trivial) (List.prefix_refl _)⟩⟩
  | dT m ws =>
    cases m with
    | nest =>
      cases hl
      obtain ⟨es, h1, h2⟩ := h
      exact ⟨_, h1, trivial, rfl, fun od => ⟨od, es, upd_same, h2.mono (.upd h1 trivial) (List.prefix_refl _)⟩⟩
    | lockF => cases hl
    | lockN => cases hl
theorem ext_unlock {o : Obj} {u : HO} (h : H a = some (.frz o u)) (m : Mut (some u)) : ∀ b xs, SqT K H b xs → SqT K (upd H a u) b xs := fun b xs q => by
  rcases q with (q | ⟨v, q⟩) | q
  · refine .inl (.inl ?_)
    rw [upd_ne fun e => ?_]
    · exact q
    · subst e; rw [h] at q; cases q
  · refine .inl (.inr ⟨v, ?_⟩)
    rw [upd_ne fun e => ?_]
    · exact q
    · subst e; rw [h] at q; cases q; exact m
  · exact .inr q
mutual
theorem Rd.moveT {H' : Hp} (e : ∀ b xs, SqT K H b xs → SqT K H' b xs) : ∀ {v : V} {w : W}, Rd K H loc v w → Rd K H' loc v w
  | _, _, .non => .non
  | _, _, .bl b => .bl b
  | _, _, .int i => .int i
  | _, _, .str x h h2 => .str x h h2
  | _, _, .tup h r => .tup (e _ _ h) (Rds.moveT e r)
  | _, _, .ref h => .ref h
theorem Rds.moveT {H' : Hp} (e : ∀ b xs, SqT K H b xs → SqT K H' b xs) : ∀ {vs : List V} {ws : List W}, Rds K H loc vs ws → Rds K H' loc vs ws
  | _, _, .nil => .nil
  | _, _, .cons r rs => .cons (Rd.moveT e r) (Rds.moveT e rs)
end
theorem NestOk.moveT {H' : Hp} {es : NE} {ws : List (W × W)} (e : ∀ b xs, SqT K H b xs → SqT K H' b xs) (h : NestOk K H loc es ws) : NestOk K H' loc es ws := ⟨h.keys, h.dep, h.ks.moveT e, h.vs.moveT e⟩
theorem FlatOk.moveT {H' : Hp} {es : List (Key × V)} {ws : List (W × W)} (e : ∀ b xs, SqT K H b xs → SqT K H' b xs) (h : FlatOk K H loc es ws) : FlatOk K H' loc es ws := ⟨h.keys, h.ok, h.vs.moveT e⟩
/-- other things stand while a lock is taken off -/
theorem MOk.unlock {b : Addr} {o : Obj} {u : HO} (h : H a = some (.frz o u)) (m : Mut (some u)) (hu : ∀ xs, u ≠ .lst xs) (hb : b ≠ a ∨ isOwn mo = false) (ok : MOk K H loc b mo) : MOk K (upd H a u) loc b mo := by
  have e := ext_unlock (K := K) h m
  cases mo with
  | lst ws =>
    obtain ⟨xs, h1, h2⟩ := ok
    have hb : b ≠ a := hb.elim id fun z => (by cases z)
    exact ⟨xs, by rw [upd_ne hb]; exact h1, h2.moveT e⟩
  | ro ws =>
    obtain ⟨xs, h1, h2⟩ := ok
    refine ⟨xs, ?_, h2.moveT e⟩
    rcases h1 with ⟨v, h1⟩ | h1
    · refine .inl ⟨v, ?_⟩
      rw [upd_ne fun z => ?_]
      · exact h1
      · subst z; rw [h] at h1; cases h1; exact hu _ rfl
    · exact .inr h1
  | dK ws =>
    obtain ⟨kvs, h1, h2, h3, h4⟩ := ok
    have hb : b ≠ a := hb.elim id fun z => (by cases z)
    exact ⟨kvs, by rw [upd_ne hb]; exact h1, h2, h3, h4.moveT e⟩
  | dT q ws =>
    have hc : b ≠ a := hb.elim id fun z => (by cases z)
    cases q with
    | nest => obtain ⟨es, h1, h2⟩ := ok; exact ⟨es, by rw [upd_ne hc]; exact h1, h2.moveT e⟩
    | lockF => obtain ⟨o, es, h1, h2⟩ := ok; exact ⟨o, es, by rw [upd_ne hc]; exact h1, h2.moveT e⟩
    | lockN => obtain ⟨o, es, h1, h2⟩ := ok; exact ⟨o, es, by rw [upd_ne hc]; exact h1, h2.moveT e⟩
theorem un_spec {o : Obj} {u : HO} (h : H a = some (.frz o u)) (m : Mut (some u)) (ok : MOk K H loc a mo) (hl : unO mo = some mo') : MOk K (upd H a u) loc a mo' := by
  have e := ext_unlock (K := K) h m
  cases mo with
  | lst _ => cases hl
  | ro _ => cases hl
  | dK _ => cases hl
  | dT q ws =>
    cases q with
    | nest => cases hl
    | lockF =>
      cases hl
      obtain ⟨o', kvs, h1, h2⟩ := ok
      rw [h] at h1; cases h1
      exact ⟨kvs, upd_same, h2.keys, h2.ok, h2.vs.moveT e⟩
    | lockN =>
      cases hl
      obtain ⟨o', es, h1, h2⟩ := ok
      rw [h] at h1; cases h1
      exact ⟨es, upd_same, h2.moveT e⟩
theorem un_own (hl : unO mo = some mo') : isOwn mo = true ∧ isOwn mo' = true := by
  cases mo with
  | lst _ => cases hl
  | ro _ => cases hl
  | dK _ => cases hl
  | dT q ws => cases q <;> cases hl <;> exact ⟨rfl, rfl⟩
theorem Store.unlock {M' : Mem} {o : Obj} {u : HO} (s : Store K H loc M) (ha : loc[n]? = some a) (h : H a = some (.frz o u)) (m : Mut (some u)) (hu : ∀ xs, u ≠ .lst xs) (e : unM n M = some M') : Store K (upd H a u) loc M' := by
  obtain ⟨mo', h1, rfl⟩ := Option.map_eq_some_iff.mp e
  obtain ⟨mo, h2, h3⟩ := bind_some h1
  obtain ⟨o1, o2⟩ := un_own h3
  have hn : n < M.length := (List.getElem?_eq_some_iff.mp h2).1
  refine ⟨by simp [s.len], fun i b q g1 g2 => ?_, fun i j b q r g1 g2 g3 g4 z1 z2 => ?_⟩
  · by_cases hi : n = i
    · subst hi
      rw [ha] at g1; cases g1
      rw [List.getElem?_set_self hn] at g2; cases g2
      exact un_spec h m (s.ok n a mo ha h2) h3
    · rw [List.getElem?_set_ne hi] at g2
      refine MOk.unlock h m hu ?_ (s.ok i b q g1 g2)
      by_cases hb : b = a
      · subst hb
        right
        cases z : isOwn q with
        | false => rfl
        | true => exact absurd (s.apart n i b mo q ha g1 h2 g2 o1 z) hi
      · exact .inl hb
  · have wt : ∀ {x : Nat} {y : MO}, (M.set n mo')[x]? = some y → isOwn y = true → ∃ y', M[x]? = some y' ∧ isOwn y' = true := fun {x y} q z => by
      by_cases hx : n = x
      · subst hx; exact ⟨mo, h2, o1⟩
      · rw [List.getElem?_set_ne hx] at q; exact ⟨y, q, z⟩
    obtain ⟨y1, w1, w2⟩ := wt g3 z1
    obtain ⟨y2, w3, w4⟩ := wt g4 z2
    exact s.apart i j b y1 y2 g1 g2 w1 w3 w2 w4
/-- what is taken: the store with the lock, and what comes of it -/
theorem Store.lock {c : CE} {σ : Sl} {l : Nat × Mem} (s : Store K H loc M) (e : lkM c σ M = some l) : ∃ a u, loc[l.1]? = some a ∧ H a = some u ∧ Mut (some u) ∧ (∀ xs, u ≠ .lst xs) ∧ ∀ od, Store K (upd H a (.frz od u)) loc l.2 ∧ Ext K H (upd H a (.frz od u)) := by
  unfold lkM at e
  split at e
  · rename_i n M0 hc
    obtain ⟨mo', h1, rfl⟩ := Option.map_eq_some_iff.mp e
    obtain ⟨mo, h2, h3⟩ := bind_some h1
    obtain ⟨a, ha, ok⟩ := s.at h2
    obtain ⟨u, hu, mu, mm, q⟩ := lk_spec ok h3
    refine ⟨a, u, ha, hu, mu, fun xs z => ?_, fun od => ⟨s.put0 ha h2 mm (q od), .upd hu mu⟩⟩
    subst z
    cases mo with
    | lst _ => cases h3
    | ro _ => cases h3
    | dK ws => obtain ⟨kvs, g1, _⟩ := ok; rw [hu] at g1; cases g1
    | dT m ws =>
      cases m with
      | nest => obtain ⟨es, g1, _⟩ := ok; rw [hu] at g1; cases g1
      | lockF => cases h3
      | lockN => cases h3
  · cases e
theorem ext_back {H' : Hp} {od : Obj} {u : HO} (hu : H a = some u) (mu : Mut (some u)) (ex : Ext K (upd H a (.frz od u)) H') : H' a = some (.frz od u) ∧ Ext K H (upd H' a u) := by
  have h1 : H' a = some (.frz od u) := ex.frz _ _ _ upd_same
  refine ⟨h1, fun b xs q => ext_unlock (K := K) h1 mu b xs (ex.tup _ _ ((Ext.upd hu mu).tup _ _ q)), fun b o v q => ?_⟩
  have hb : b ≠ a := fun z => by
    subst z
    rw [hu] at q; cases q; exact mu
  rw [upd_ne hb]
  exact ex.frz _ _ _ (by rw [upd_ne hb]; exact q)
end
section
variable {X : Cx} {e : Expr} {st : Stmt} {c ce : CE} {cs : CS}
theorem r_lock (c : CE) (h : EV X e ce) : EV X e (eLk c ce) := (pe_lock h).mono fun σV H Q ⟨loc, σ, M, w, M', rel, ev, aft⟩ => by
  obtain ⟨l, hl, ev⟩ := bind_some ev
  obtain ⟨p, hp, ev⟩ := bind_some ev
  obtain ⟨M2, hM, ev⟩ := Option.map_eq_some_iff.mp ev
  cases ev
  obtain ⟨a, u, ha, hu, mu, nl, q⟩ := rel.st.lock hl
  refine ⟨a, u, hu, mu, fun od => ?_⟩
  obtain ⟨st1, ex1⟩ := q od
  refine ⟨loc, σ, l.2, p.1, p.2, ⟨st1, rel.len, fun i w hi => ?_⟩, hp, fun v H' loc' s' r' ex l' => ?_⟩
  · obtain ⟨v, g1, g2⟩ := rel.sl i w hi
    exact ⟨v, g1, g2.mono ex1 (List.prefix_refl _)⟩
  · obtain ⟨h1, exB⟩ := ext_back hu mu ex
    exact ⟨h1, aft v _ loc' (s'.unlock (pre_get l' ha) h1 mu nl hM) (r'.moveT (ext_unlock h1 mu)) exB l'⟩
theorem s_lock (c : CE) (h : ES X st cs) : ES X st (sLk c cs) := (ps_lock h).mono fun D σV H ⟨loc, σ, M, o, rel, ev, aft⟩ => by
  obtain ⟨l, hl, ev⟩ := bind_some ev
  obtain ⟨o1, ho, ev⟩ := bind_some ev
  obtain ⟨a, u, ha, hu, mu, nl, q⟩ := rel.st.lock hl
  refine ⟨a, u, hu, mu, fun od => ?_⟩
  obtain ⟨st1, ex1⟩ := q od
  have sl : ∀ (i : Nat) (w : W), σ[i]? = some (some w) → ∃ v, σV[i]? = some (some v) ∧ Rd X.KW (upd H a (.frz od u)) loc v w := fun i w hi => by
    obtain ⟨v, g1, g2⟩ := rel.sl i w hi
    exact ⟨v, g1, g2.mono ex1 (List.prefix_refl _)⟩
  refine ⟨loc, σ, l.2, o1, ⟨st1, rel.len, sl⟩, ho, ?_⟩
  have move : ∀ {σ' : Sl} {M' M2 : Mem} {σV' : L2.St} {H' : Hp} {loc' : List Addr}, unM l.1 M' = some M2 → Rel X.KW loc' σ' M' σV' H' → Ext X.KW (upd H a (.frz od u)) H' → loc <+: loc' → H' a = some (.frz od u) ∧ Rel X.KW loc' σ' M2 σV' (upd H' a u) ∧ Ext X.KW H (upd H' a u) := fun {σ' M' M2 σV' H' loc'} hM r ex l' => by
    obtain ⟨h1, exB⟩ := ext_back hu mu ex
    exact ⟨h1, ⟨r.st.unlock (pre_get l' ha) h1 mu nl hM, r.len, fun i w hi => (by
      obtain ⟨v, g1, g2⟩ := r.sl i w hi
      exact ⟨v, g1, g2.moveT (ext_unlock h1 mu)⟩)⟩, exB⟩
  cases o1 with
  | nx σ' M' =>
    obtain ⟨M2, hM, ev⟩ := Option.map_eq_some_iff.mp ev
    cases ev
    intro σV' H' loc' r ex l'
    obtain ⟨h1, r2, exB⟩ := move hM r ex l'
    exact ⟨h1, aft σV' _ loc' r2 exB l'⟩
  | bk σ' M' =>
    obtain ⟨M2, hM, ev⟩ := Option.map_eq_some_iff.mp ev
    cases ev
    intro σV' H' loc' r ex l'
    obtain ⟨h1, r2, exB⟩ := move hM r ex l'
    exact ⟨h1, aft σV' _ loc' r2 exB l'⟩
  | ct σ' M' =>
    obtain ⟨M2, hM, ev⟩ := Option.map_eq_some_iff.mp ev
    cases ev
    intro σV' H' loc' r ex l'
    obtain ⟨h1, r2, exB⟩ := move hM r ex l'
    exact ⟨h1, aft σV' _ loc' r2 exB l'⟩
  | rt w M' =>
    obtain ⟨M2, hM, ev⟩ := Option.map_eq_some_iff.mp ev
    cases ev
    intro v H' loc' s' r' ex l'
    obtain ⟨h1, exB⟩ := ext_back hu mu ex
    exact ⟨h1, aft v _ loc' (s'.unlock (pre_get l' ha) h1 mu nl hM) (r'.moveT (ext_unlock h1 mu)) exB l'⟩
end

/-! ### walks -/
/-- the keys of the locked dict at d, keyed by nested tuples -/
def ItkN (w : World) (d : Addr) (o : Obj) (es : NE) : It :=
  ⟨fun i H => H d = some (.frz o (nestO w d es)) ∧ i < es.length, fun i H x H' => H' = H ∧ ∃ e, es[i]? = some e ∧ x = .ref e.2.1, fun i H => H d = some (.frz o (nestO w d es)) ∧ es.length ≤ i⟩
section
variable {X : Cx} {pins : List (Addr × Obj)} {σ : L2.St} {H : Hp} {s : Shared} {d : Addr} {o : Obj} {es : NE}
theorem frzN (I : Inv X pins σ H s) (h : H d = some (.frz o (nestO X.w d es))) : (d == sysModules) = false ∧ s.heap.get? d = some o ∧ o.ExactDict ∧ ∃ (en : Array DictEntry) (ep : Nat), o.data = .dict en ep ∧ en.size = es.length ∧
    ∀ (i : Nat) (e : NestedKey × Addr × V), es[i]? = some e → ∃ t : DictEntry, en[i]? = some t ∧ t.key = .ref e.2.1 := by
  obtain ⟨hd, ⟨z, hs, xs, np, o', en, ep, h1, h2, h3, h4, h5⟩, _⟩ := I.hok d _ h
  rw [hd] at h1
  cases h1
  have hl : en.size = xs.length := by rw [← Array.length_toList, h4, List.length_map]
  refine ⟨hs, hd, h2, en, ep, h3, by rw [hl]; exact (Paired.length np).symm, fun i e he => ?_⟩
  obtain ⟨x, hx, e1, e2, _⟩ := paired_get np he
  refine ⟨entryN X.w x, ?_, by rw [e2]; rfl⟩
  rw [← Array.getElem?_toList, h4, List.getElem?_map, hx]; rfl
end
theorem turn_keysN {P : Program} {w : World} {K : PySem.W.Frag} {tg : Expr} {d : Addr} {o : Obj} {en : Array DictEntry} {ep : Nat} {es : NE} (it : Addr) (hod : o.data = .dict en ep) : Turn P w K tg (ItkN w d o es) [it] it (fun i h => h.IsKeyIter it d i es.length ep) where
  mem := by simp
  obj := fun i h st b hb => by
    obtain rfl : b = it := by simpa using hb
    obtain ⟨oi, e1, e2, e3⟩ := st
    exact ⟨oi, e1, fun v q => by rw [e3] at q; cases q⟩
  keep := fun i h h' st k => st.at fun q e => k it (by simp) q e
  item := by
    intro X hP hw hK hc i pins s σ H E I hf st hg
    subst hP hw hK
    obtain ⟨hd, hi⟩ := hg
    obtain ⟨f0, f1, f2, f3, f4, f5⟩ := hf it (by simp)
    obtain ⟨_, g1, g2, en', ep', g3, g4, g5⟩ := frzN I hd
    obtain ⟨rfl, rfl⟩ := dict_ep hod g3
    obtain ⟨e, he⟩ : ∃ e, es[i]? = some e := ⟨_, List.getElem?_eq_getElem hi⟩
    obtain ⟨t, ht, hk⟩ := g5 i e he
    refine next_key_item st g1 g3 g4 ht fun h' st' sb => ?_
    obtain ⟨oi, e1, e2, e3⟩ := id st'
    refine ⟨t.key, rfl, go_of (s := { s with heap := h' }) e1 e2 e3 (by decide) ⟨.ref e.2.1, H, I.turned (t' := s.toks) (fun b ob hb q => (sb.2 b hb).trans q) f0 f1 f3 f4 f5, hk, ⟨rfl, e, he, rfl⟩, st', fun b hb => (hf b hb).1⟩⟩
  done := by
    intro X hP hw hK hc i pins s σ H E I hf st hg
    subst hP hw hK
    obtain ⟨hd, hi⟩ := hg
    obtain ⟨f0, f1, f2, f3, f4, f5⟩ := hf it (by simp)
    obtain ⟨_, g1, g2, en', ep', g3, g4, _⟩ := frzN I hd
    obtain ⟨rfl, rfl⟩ := dict_ep hod g3
    exact next_key_end (I.ok.hd hc) st g1 g3 g4 hi fun h' eb => ⟨rfl, I.turned (t' := s.toks) (fun b ob hb q => eb b ob hb q) f0 f1 f3 f4 f5⟩
  self := fun A i s Q E st h => wpAny_pyIter_keyiter st h
def iKeysN (w : World) (td : TE) : TI := fun σ H R => td σ H fun x H1 => ∃ d o es, x = .ref d ∧ H1 d = some (.frz o (nestO w d es)) ∧ R (ItkN w d o es) H1
section
variable {X : Cx} {tg e : Expr} {td : TE} {ce : CE}
theorem pi_keysN (he : PE X e td) : PI X tg e (iKeysN X.w td) := by
  refine ⟨fun pins s σ H R I h => ?_⟩
  refine thn (he.run pins s σ H _ I h) fun u s1 ⟨x, H1, I1, rx, d, o, es, ex, hd, q⟩ => ?_
  subst ex
  obtain rfl : u = Value.ref d := rx
  obtain ⟨hs, g1, g2, en, ep, g3, g4, _⟩ := frzN I1 hd
  refine iter_keys hs g1 g2 g3 (pi_one (tk := s1.toks) I1 _ (turn_keysN _ g3) ⟨_, Heap.get?_push_size _ rfl, rfl, ?_⟩ q)
  rw [g4] <;> rfl
theorem walk_of_keysN {K : KW} {H : Hp} {loc : List Addr} {d : Addr} {o : Obj} {es : NE} {ws : List (W × W)} (hd : H d = some (.frz o (nestO K.wd d es))) (n : NestOk K H loc es ws) : WalkW K H loc (ItkN K.wd d o es) (ws.map (·.1)) gdT :=
  fun i H1 loc1 M s ex l _ => by
    have hl : es.length = ws.length := by have := congrArg List.length n.keys; simpa using this
    refine ⟨fun w hw => ?_, fun hi => ⟨ex.frz _ _ _ hd, by rw [hl]; simpa using hi⟩⟩
    obtain ⟨v, h1, h2⟩ := n.ks.get hw
    rw [List.getElem?_map] at h1
    obtain ⟨e, he, rfl⟩ := Option.map_eq_some_iff.mp h1
    refine ⟨⟨ex.frz _ _ _ hd, (List.getElem?_eq_some_iff.mp he).1⟩, fun x H2 y => ?_⟩
    obtain ⟨rfl, e', he', rfl⟩ := y
    rw [he] at he'; cases he'
    exact ⟨h2.mono ex l, s, .refl⟩
theorem walk_of_keysF {K : KW} {H : Hp} {loc : List Addr} {d : Addr} {o : Obj} {kvs : List (Key × V)} {ws : List (W × W)} (hd : H d = some (.frz o (.dK kvs))) (n : FlatOk K H loc kvs ws) : WalkW K H loc (Itk d o kvs) (ws.map (·.1)) gdT :=
  fun i H1 loc1 M s ex l _ => by
    have hl : kvs.length = ws.length := by have := congrArg List.length n.keys; simpa using this
    refine ⟨fun w hw => ?_, fun hi => ⟨ex.frz _ _ _ hd, by rw [hl]; simpa using hi⟩⟩
    rw [← n.keys, List.getElem?_map] at hw
    obtain ⟨p, hp, rfl⟩ := Option.map_eq_some_iff.mp hw
    refine ⟨⟨ex.frz _ _ _ hd, (List.getElem?_eq_some_iff.mp hp).1⟩, fun x H2 y => ?_⟩
    obtain ⟨rfl, k, v, he', rfl⟩ := y
    rw [hp] at he'; cases he'
    refine ⟨?_, s, .refl⟩
    have := n.ok _ (List.mem_of_getElem? hp)
    cases k with
    | inl i => exact .int i
    | inr z => exact .str z this.1 this.2
theorem i_keyN (h : EV X e ce) : EI X tg e (iKeyN ce) := (pi_keysN h).mono fun σV H R ⟨loc, σ, M, ws, gd, M', rel, ev, aft⟩ => by
  obtain ⟨p, hp, ev⟩ := bind_some ev
  refine run1 rel hp fun v H1 loc1 rel1 rd1 ex1 l1 => ?_
  split at ev
  · rename_i n hn
    rw [hn] at rd1
    cases rd1 with
    | @ref a _ ha =>
      split at ev
      · rename_i zs hz
        cases ev
        obtain ⟨o, es, h1, h2⟩ := rel1.st.ok n a _ ha hz
        exact ⟨a, o, es, rfl, h1, aft _ H1 loc1 rel1.st ex1 l1 (walk_of_keysN h1 h2)⟩
      · cases ev
  · cases ev
theorem i_keyF (h : EV X e ce) : EI X tg e (iKeyF ce) := (pi_keys h).mono fun σV H R ⟨loc, σ, M, ws, gd, M', rel, ev, aft⟩ => by
  obtain ⟨p, hp, ev⟩ := bind_some ev
  refine run1 rel hp fun v H1 loc1 rel1 rd1 ex1 l1 => ?_
  split at ev
  · rename_i n hn
    rw [hn] at rd1
    cases rd1 with
    | @ref a _ ha =>
      split at ev
      · rename_i zs hz
        cases ev
        obtain ⟨o, kvs, h1, h2⟩ := rel1.st.ok n a _ ha hz
        exact ⟨a, o, rfl, .inl ⟨kvs, h1, aft _ H1 loc1 rel1.st ex1 l1 (walk_of_keysF h1 h2)⟩⟩
      · cases ev
  · cases ev
end
end BF

set_option Elab.async false
set_option linter.all false
set_option autoImplicit false
set_option maxRecDepth 100000
/-! d[k] = v, sorted(d), max of three, x in a list. -/
namespace BF
open PySem PySem.Spec
open PyProof.Rows L2
theorem hu65 {k : Nat} {A : Around} (hr : Room k A) : A.units + 65 < cLine := by have := hr.un; omega
def putF (M : Mem) (o x w : W) : Option Mem := match o, keyOf x with
  | .ref n, some k => match M[n]? with
    | some (.dK ws) => if ws.length < 16777216 then some (M.set n (.dK (putW ws k w))) else none
    | _ => none
  | _, _ => none
def rDPut : TSet := fun x y v H Q => ∃ a kvs k, x = .ref a ∧ y = kV k ∧ H a = some (.dK kvs) ∧ kvs.length < sizeLine ∧ Q (upd H a (.dK (putK kvs k v)))
theorem o_dput {X : Cx} (hu : X.A.units + 1 < cLine) : PSet X rDPut := by
  intro pins s σ H o i v ov iv u Q I ro ri rv h
  obtain ⟨a, kvs, k, rfl, rfl, e, hl, q⟩ := h
  cases (show ov = Value.ref a from ro)
  exact d_setItem hu I (DPut.k e hl) ri rv fun s' I' => ⟨_, I', q⟩
section
variable {K : KW} {H : Hp} {loc : List Addr}
theorem key_any {kvs : List (Key × V)} {ws : List (W × W)} (h : kvs.map (fun p => keyW p.1) = ws.map (·.1)) (k : Key) : (kvs.any fun kv => decide (kv.1 = k)) = ws.any fun p => decide (keyOf p.1 = some k) := by
  induction kvs generalizing ws with
  | nil =>
    cases ws with
    | nil => rfl
    | cons _ _ => cases h
  | cons p kvs ih =>
    cases ws with
    | nil => cases h
    | cons q ws =>
      simp only [List.map_cons, List.cons.injEq] at h
      rw [List.any_cons, List.any_cons, ih h.2, ← h.1, keyOf_keyW]
      congr 1
      exact decide_eq_decide.mpr ⟨fun z => by rw [z], fun z => Option.some.inj z⟩
theorem put_rel {kvs : List (Key × V)} {ws : List (W × W)} {k : Key} {v : V} {w : W} (hk : kvs.map (fun p => keyW p.1) = ws.map (·.1)) (h : Rds K H loc (kvs.map (·.2)) (ws.map (·.2))) (r : Rd K H loc v w) :
    (putK kvs k v).map (fun p => keyW p.1) = (putW ws k w).map (·.1) ∧ Rds K H loc ((putK kvs k v).map (·.2)) ((putW ws k w).map (·.2)) := by
  unfold putK putW
  rw [key_any hk k]
  split
  · rename_i hz
    clear hz
    induction kvs generalizing ws with
    | nil =>
      cases ws with
      | nil => exact ⟨rfl, .nil⟩
      | cons _ _ => cases hk
    | cons p kvs ih =>
      cases ws with
      | nil => cases hk
      | cons q ws =>
        simp only [List.map_cons, List.cons.injEq] at hk h
        cases h with
        | cons r1 r2 =>
          obtain ⟨i1, i2⟩ := ih hk.2 r2
          have e : keyOf q.1 = some p.1 := by rw [← hk.1, keyOf_keyW]
          simp only [List.map_cons, e, Option.some.injEq]
          by_cases z : p.1 = k
          · rw [if_pos z, if_pos z]
            exact ⟨List.cons_eq_cons.mpr ⟨hk.1, i1⟩, .cons r i2⟩
          · rw [if_neg z, if_neg z]
            exact ⟨List.cons_eq_cons.mpr ⟨hk.1, i1⟩, .cons r1 i2⟩
  · rw [List.map_append, List.map_append, List.map_append, List.map_append, hk]
    exact ⟨rfl, h.append (.cons r .nil)⟩
theorem putK_ok {kvs : List (Key × V)} {k : Key} {v : V} (h : ∀ p ∈ kvs, KeyOk p.1) (hk : KeyOk k) : ∀ p ∈ putK kvs k v, KeyOk p.1 := by
  unfold putK
  split
  · intro p hp
    obtain ⟨q, hq, rfl⟩ := List.mem_map.mp hp
    have := h q hq
    split <;> exact this
  · intro p hp
    rcases List.mem_append.mp hp with hp | hp
    · exact h p hp
    · rw [List.mem_singleton] at hp; subst hp; exact hk
theorem rd_keyOk {v : V} {w : W} {k : Key} (r : Rd K H loc v w) (h : keyOf w = some k) : KeyOk k := by
  cases r with
  | int i => cases h; trivial
  | str x h1 h2 => cases h; exact ⟨h1, h2⟩
  | _ => cases h
theorem p_dput : LiftP K rDPut putF := by
  intro H loc M x y z o i v M' Q s rx ry rz e h
  unfold putF at e
  split at e
  · rename_i n k hk
    split at e
    · rename_i ws hw
      split at e
      · rename_i hl
        cases e
        cases rx with
        | @ref a _ ha =>
          obtain ⟨kvs, h1, h2, h3, h4⟩ := s.ok n a _ ha hw
          have hle : kvs.length = ws.length := by have := congrArg List.length h2; simpa using this
          refine ⟨a, kvs, k, rfl, rd_key ry hk, h1, by rw [hle]; exact hl, ?_⟩
          have ex : Ext K H (upd H a (.dK (putK kvs k v))) := .upd h1 trivial
          obtain ⟨q1, q2⟩ := put_rel (k := k) h2 h4 rz
          exact h _ loc (s.put ha hw rfl rfl ⟨_, upd_same, q1, putK_ok h3 (rd_keyOk ry hk), q2.mono ex (List.prefix_refl _)⟩) ex (List.prefix_refl _)
      · cases e
    · cases e
  · cases e
/-- sorted(d), the keys ascending as they stand -/
def pSortD : Fn := fun ws M => match ws with
  | [.ref n] => match M[n]? with
    | some (.dK kvs) => match asInts (kvs.map (·.1)) with
      | some ks => if ks.length < 64 ∧ ks.Pairwise (· ≤ ·) then some (.ref M.length, M ++ [.lst (ks.map W.int)]) else none
      | none => none
    | _ => none
  | _ => none
def rSortD : List V → Hp → VK → Prop := fun xs H Q => ∃ (a : Addr) (kvs : List (Key × V)) (ks : List Int), xs = [.ref a] ∧ L2.Rd H a (.dK kvs) ∧ kvs.map (·.1) = ks.map Sum.inl ∧ ks.length < 64 ∧
    ∀ (ys : List Int) (p : Addr), ys.Perm ks → ys.Pairwise (· ≤ ·) → H p = none → Q (.ref p) (upd H p (.lst (ys.map V.int)))
theorem cr_sortD {X : Cx} (hc : X.calm = true) : CallR X (.builtin "sorted") rSortD := call_sortedDI hc
theorem keysI : ∀ {kvs : List (Key × V)} {ks : List Int}, kvs.map (fun p => keyW p.1) = ks.map W.int → kvs.map (·.1) = ks.map Sum.inl
  | [], [], _ => rfl
  | [], _ :: _, h => by cases h
  | _ :: _, [], h => by cases h
  | p :: kvs, k :: ks, h => by
    simp only [List.map_cons, List.cons.injEq] at h ⊢
    refine ⟨?_, keysI h.2⟩
    have := h.1
    cases hp : p.1 with
    | inl i => rw [hp] at this; cases this; rfl
    | inr z => rw [hp] at this; cases this
theorem n_sortD : LiftN K rSortD pSortD := by
  intro H loc M ws vs w M' Q s r e aft
  unfold pSortD at e
  split at e
  · split at e
    · rename_i zs hz
      split at e
      · rename_i ks hks
        split at e
        · rename_i hc
          cases e
          match vs, r with
          | [_], .cons (.ref (a := a) hn) .nil =>
            obtain ⟨kvs, h1, h2, h3, h4⟩ := s.ok _ _ _ hn hz
            refine ⟨a, kvs, ks, rfl, .inl h1, keysI (by rw [h2, asInts_some hks]), hc.1, fun ys p hp hs hH => ?_⟩
            have e1 : ys = ks := List.Perm.eq_of_pairwise (fun a b _ _ h1 h2 => Int.le_antisymm h1 h2) hs hc.2 hp
            subst e1
            exact aft_lst s (rds_ints ys) hH aft
        · cases e
      · cases e
    · cases e
  · cases e
/-- max of three -/
def pMax3 : Fn := fun ws M => match ws with
  | [.int i, .int j, .int k] => some (.int (if (if i < j then j else i) < k then k else (if i < j then j else i)), M)
  | _ => none
@[simp] theorem pMax3_eq {M : Mem} (i j k : Int) : pMax3 [.int i, .int j, .int k] M = some (.int (if (if i < j then j else i) < k then k else (if i < j then j else i)), M) := nr rfl
theorem n_max3 : LiftN K (rNuC3 nuMax3) pMax3 := by
  intro H loc M ws vs w M' Q s r e aft
  unfold pMax3 at e
  split at e
  · rename_i i j k
    cases e
    match vs, r with
    | [_, _, _], .cons (.int _) (.cons (.int _) (.cons (.int _) .nil)) =>
      refine ⟨_, _, _, V.int (if (if i < j then j else i) < k then k else (if i < j then j else i)), rfl, ?_, aft _ H loc s (.int _) .refl (List.prefix_refl _)⟩
      have h2 : ∀ a b : Int, nuMax2 (.int a) (.int b) = some (.int (if a < b then b else a)) := fun a b => by
        show some (if decide (a < b) = true then V.int b else V.int a) = _
        by_cases h : a < b <;> simp [h]
      show (nuMax2 (.int i) (.int j)).bind _ = _
      rw [h2, Option.bind_some, h2]
  · cases e
/-! ### in a list -/
def gInD (M : Mem) (x y : W) : Option (W × Mem) := match toD M 64 x, toD M 64 y with
  | some d, some (.list ds) => some (.bl (ds.any fun z => PyData.eqv z d), M)
  | _, _ => none
def gNotInD (M : Mem) (x y : W) : Option (W × Mem) := match toD M 64 x, toD M 64 y with
  | some d, some (.list ds) => some (.bl (!ds.any fun z => PyData.eqv z d), M)
  | _, _ => none
theorem in_aux {M : Mem} {x y : W} {v u : V} {d : PyData} {ds : List PyData} (s : Store K H loc M) (rx : Rd K H loc v x) (ry : Rd K H loc u y) (h1 : toD M 64 x = some d) (h2 : toD M 64 y = some (.list ds)) :
    Dp K H v d ∧ Dp K H u (.list ds) ∧ SeqAt.shaped d = true ∧ SeqAt.shaped (.list ds) = true := by
  obtain ⟨g1, g2, g3⟩ := toD_ok s 64 v x d rx h1
  obtain ⟨g4, g5, g6⟩ := toD_ok s 64 u y _ ry h2
  exact ⟨g1, g4, by rw [SeqAt.shaped, g2, decide_eq_true g3]; rfl, by rw [SeqAt.shaped, g5, decide_eq_true g6]; rfl⟩
theorem l_inD : Lift2 K (rInD K) gInD := by
  intro H loc M x y v u w M' Q s rx ry e aft
  unfold gInD at e
  split at e
  · rename_i d ds h1 h2
    cases e
    obtain ⟨g1, g2, g3, g4⟩ := in_aux s rx ry h1 h2
    exact ⟨d, ds, g1, g2, g3, g4, aft _ H loc s (.bl _) .refl (List.prefix_refl _)⟩
  · cases e
theorem l_notInD : Lift2 K (rNotInD K) gNotInD := by
  intro H loc M x y v u w M' Q s rx ry e aft
  unfold gNotInD at e
  split at e
  · rename_i d ds h1 h2
    cases e
    obtain ⟨g1, g2, g3, g4⟩ := in_aux s rx ry h1 h2
    exact ⟨d, ds, g1, g2, g3, g4, aft _ H loc s (.bl _) .refl (List.prefix_refl _)⟩
  · cases e
end
open Enc in
theorem any_enc {α : Type} [Enc α] [DecidableEq α] (hd : dep α ≤ 63) (a : α) : ∀ as : List α, ((as.map fun b => dP (enc b)).any fun z => PyData.eqv z (dP (enc a))) = decide (a ∈ as)
  | [] => rfl
  | b :: as => by
    rw [List.map_cons, List.any_cons, any_enc hd a as, eqv_P 63 _ _ (okW_mono _ _ (ok b) 63 hd) (okW_mono _ _ (ok a) 63 hd), Bool.eq_iff_iff, Bool.or_eq_true, eqE, decide_eq_true_eq, decide_eq_true_eq, List.mem_cons]
    exact ⟨fun h => h.elim (fun z => .inl z.symm) .inr, fun h => h.elim (fun z => .inl z.symm) .inr⟩
open Enc in
theorem gInD_enc {α : Type} [Enc α] [DecidableEq α] (M : Mem) (n : Nat) (as : List α) (a : α) (h : M[n]? = some (.lst (as.map enc))) (hd : dep α ≤ 63 := by decide) : gInD M (enc a) (.ref n) = some (.bl (decide (a ∈ as)), M) := by
  unfold gInD
  rw [toD_lst M n as (.inl h) hd, toD_P M 64 _ (okW_mono _ _ (ok a) 64 (by omega))]
  simp only [any_enc hd]
open Enc in
theorem gNotInD_enc {α : Type} [Enc α] [DecidableEq α] (M : Mem) (n : Nat) (as : List α) (a : α) (h : M[n]? = some (.lst (as.map enc))) (hd : dep α ≤ 63 := by decide) : gNotInD M (enc a) (.ref n) = some (.bl (!decide (a ∈ as)), M) := by
  unfold gNotInD
  rw [toD_lst M n as (.inl h) hd, toD_P M 64 _ (okW_mono _ _ (ok a) 64 (by omega))]
  simp only [any_enc hd]
end BF

set_option Elab.async false
set_option linter.all false
set_option autoImplicit false
set_option maxRecDepth 100000
/-! enumerate of lists and of tuples. -/
namespace BF
open PySem PySem.Spec
open PyProof.Rows L2
set_option maxHeartbeats 1000000 in
theorem enum_new {v : Value} {o : Obj} {H : Heap → Prop} (B : Begins v o H) : Meets (Builtin.«enumerate.__new__» ⟨[.type "enumerate", v], []⟩) (fun _ R s => H s.heap ∧ R (.ok (.ret (.ref (s.heap.push o).objs.size))) { s with heap := (s.heap.push o).push { cls := .type "enumerate", data := .fields #[.none, .bool false, .ref s.heap.objs.size, rawInt 0, .none, .none] } }) :=
  .of_wp fun prog w A R s h => by
    obtain ⟨hp, g, d, tk, os⟩ := s
    obtain ⟨h1, h2⟩ := h
    have h3 := sub_enumerate
    have it0 : ∀ {A' : Around} {E Q : Value → Shared → Prop}, Q (.ref hp.objs.size) ⟨hp.push o, g, d, tk, os⟩ → wpAny (model prog w) A' (pyIter v) Q E ⟨hp, g, d, tk, os⟩ := fun q => B.iter prog w _ _ _ _ h1 q
    wp_walk using it0
    refine wpAny_stack_any fun st => wpAny_pure ?_
    split
    · rename_i c _ _ _ _ _
      cases (c == Value.type "enumerate") <;> (wp_walk using it0; exact ⟨_, rfl, h2⟩)
    · wp_walk using it0
      exact ⟨_, rfl, h2⟩
theorem enum_call {prog : Program} {w : World} {A : Around} {E : Value → Shared → Prop} {s : Shared} {v : Value} {o : Obj} {H : Heap → Prop} {Q : Value → Shared → Prop} (B : Begins v o H) (h1 : H s.heap)
    (h : ∀ h', IsEnum h' (s.heap.objs.size + 1) s.heap.objs.size 0 .none → h'.get? s.heap.objs.size = some o → (∀ b q, s.heap.get? b = some q → h'.get? b = some q) → Q (.ref (s.heap.objs.size + 1)) { s with heap := h' }) :
    wpAny (model prog w) A (call (.type "enumerate") [v]) Q E s := by
  refine callType_new F.called_enumerate (by decide) (F.typeCall_enumerate_1 _) (F.newCall_enumerate_1 _) (fun obj => F.args_object_init_2 obj _) F.entry_enumerate_new (enum_new B) ⟨h1, ?_⟩
  have hz : (s.heap.push o).objs.size = s.heap.objs.size + 1 := Heap.size_push ..
  show _ ∧ _
  rw [hz]
  have he := Heap.get?_push_size (s.heap.push o) (o := { cls := .type "enumerate", data := .fields #[.none, .bool false, .ref s.heap.objs.size, rawInt 0, .none, .none] }) rfl
  rw [hz] at he
  exact ⟨⟨_, he, rfl⟩, h _ he (Heap.get?_push_of_some _ (Heap.get?_push_size _ B.free)) fun b q x => Heap.get?_push_of_some _ (Heap.get?_push_of_some _ x)⟩
/-- the tuple at a, each item in a new pair -/
def IteT (K : PySem.W.Frag) (a : Addr) : It :=
  ⟨fun i H => ∃ (xs : List V) (x : V), SqT K H a xs ∧ xs[i]? = some x, fun i H v H' => ∃ T x, v = .ref T ∧ H T = none ∧ H' = upd H T (.tup [.int (i : Nat), x]) ∧ ∀ xs, SqT K H a xs → xs[i]? = some x, fun i H => ∃ xs : List V, SqT K H a xs ∧ xs.length ≤ i⟩
theorem turn_enumT {P : Program} {w : World} {K : PySem.W.Frag} {elts : List Expr} {kk : Nat} {tpos : Pos} (a e it : Addr) :
    Turn P w K (.Tuple elts kk tpos) (IteT K a) [e, it] e (fun i h => (∃ old, IsEnum h e it ((i : Nat) : Int) old) ∧ h.IsTupleIter it a i ∧ e ≠ it ∧ a ≠ it ∧ a ≠ e) where
  mem := by simp
  obj := fun i h st b hb => by
    obtain ⟨⟨old, he⟩, ⟨o, g1, g2, g3⟩, _⟩ := st
    rcases List.mem_cons.mp hb with rfl | hb
    · exact ⟨_, he, fun v q => nomatch q⟩
    · rw [List.mem_singleton] at hb
      subst hb
      exact ⟨o, g1, fun v q => by rw [g3] at q; cases q⟩
  keep := fun i h h' st k => ⟨let ⟨old, he⟩ := st.1; ⟨old, k e (by simp) _ he⟩, st.2.1.at fun o q => k it (by simp) o q, st.2.2⟩
  item := by
    intro X hP hw hK hc i pins s σ H E I hf st hg
    subst hP hw hK
    obtain ⟨⟨old, he⟩, hit, hne, ha1, ha2⟩ := st
    obtain ⟨xs, x, hq, hx⟩ := hg
    obtain ⟨its, rv, p, hz⟩ := I.tuple hq
    obtain ⟨u, hu, ru⟩ := rv.get hx
    have hlt : i < its.toArray.size := by have := (List.getElem?_eq_some_iff.mp hu).1; simpa using this
    have l1 : e < s.heap.objs.size := Heap.lt_size he
    have l2 : it < s.heap.objs.size := by obtain ⟨_, q, _⟩ := hit; exact Heap.lt_size q
    refine wpAny_pyNext_enum_itemD (Draws.tuple (prog := X.prog) (w := X.w) (A := X.A.in1) (I.ok.hd hc) it a ha1 its.toArray) he ⟨hit, p⟩ hlt hne (fun hm => ?_) fun y h' tk hy ho hst hT hsz hk => ?_
    · rcases List.mem_cons.mp hm with q | hm
      · exact hne q
      · exact ha2 (List.mem_singleton.mp hm).symm
    have ey : y = u := by
      have : its.toArray[i]? = some u := by simpa using hu
      rw [this] at hy; exact (Option.some.inj hy).symm
    subst ey
    refine ⟨_, rfl, wpAny_letOwnedTupleGo_enum (s := { s with heap := h', toks := tk + 1 }) ho fun h'' he' sb => ?_⟩
    have hT2 : h''.get? s.heap.objs.size = some { cls := .type "tuple", data := .seq #[.int i tk, y] } := (sb.2 _ (Nat.ne_of_gt l1)).trans hT
    have new : ObjOk X.prog X.w (upd H s.heap.objs.size (.tup [.int (i : Nat), x])) h'' s.heap.objs.size (.tup [.int (i : Nat), x]) := ⟨by show 2 ≤ sizeLine; decide, [.int i tk, y], .cons ⟨_, rfl⟩ (.cons ru .nil), ⟨_, hT2, rfl, _, rfl⟩⟩
    have I1 := I.turnedNew (t' := tk + 1) (ch := [e, it]) (fun b ob hb q => (sb.2 b (fun z => hb (by simp [z]))).trans (hk b ob (fun z => hb (by simp [z])) (fun z => hb (by simp [z])) q)) hf (Nat.le_refl _) new
    refine ⟨.ref s.heap.objs.size, _, I1, rfl, ⟨_, x, rfl, I.hok.fresh (Nat.le_refl _), rfl, fun ys hy => by rw [I.tuple_inj hy hq]; exact hx⟩, ⟨⟨y, ?_⟩, hst.1.at fun o q => (sb.2 it (Ne.symm hne)).trans q, hne, ha1, ha2⟩, fun b hb => ?_⟩
    · have e1 : ((i + 1 : Nat) : Int) = (i : Int) + 1 := by omega
      rw [e1]; exact he'
    · have hb' : b < s.heap.objs.size := by
        rcases List.mem_cons.mp hb with z | hb
        · rw [z]; exact l1
        · rw [List.mem_singleton.mp hb]; exact l2
      rw [upd_ne (Nat.ne_of_lt hb')]
      exact (hf b hb).1
  done := by
    intro X hP hw hK hc i pins s σ H E I hf st hg
    subst hP hw hK
    obtain ⟨⟨old, he⟩, hit, hne, ha1, ha2⟩ := st
    obtain ⟨xs, hq, hx⟩ := hg
    obtain ⟨its, rv, p, hz⟩ := I.tuple hq
    obtain ⟨f0, f1, f2, f3, f4, f5⟩ := hf it (by simp)
    have hl := rv.length
    have hT : s.TypeIs (.ref e) "enumerate" := ⟨_, he, rfl⟩
    unfold pyNext
    refine wpAny_bind (wpAny_attempt (wpAny_callSpecial?_slot (name := Str.ofString "__next__") hT F.slot_enumerate_next (wpAny_call_entry F.slot_enumerate_next hT F.entry_enumerate_next ?_ (F.args_enumerate_next_1 _))))
    show wpAny _ _ (field (.ref e) 2 >>= _) _ _ _
    refine wpAny_bind (wpAny_field he rfl (x := .ref it) rfl ?_)
    refine wpAny_bind (wpAny_nextOf_tuple_end (I.ok.hd hc) hit p (Array.getElem?_eq_none (by simp; omega)) fun h' x he' hx' => ?_)
    obtain ⟨o, ho, hcl⟩ := hx'
    exact wpAny_bind (wpAny_isInstance (T := "StopIteration") (b := true) ⟨o, ho, hcl⟩ isSubtype_stop (wpAny_pure ⟨rfl, I.turned (t' := s.toks) (fun b o hb q => he' b o hb q) f0 f1 f3 f4 f5⟩))
  self := fun A i s Q E st h => let ⟨⟨_, he⟩, _⟩ := st; wpAny_pyIter_enum he h
def iEnumTT (K : PySem.W.Frag) (ta : TA) : TI := fun σ H R => ta σ H fun vs H1 => ∃ a xs, vs = [.ref a] ∧ SqT K H1 a xs ∧ R (IteT K a) H1
theorem pi_enumT {X : Cx} {e : Expr} {ta : TA} {p pos tpos : Pos} {elts : List Expr} {kk : Nat} (hg : Gl X "enumerate") (hm : X.mg "enumerate" = none) (ha : PA X [e] ta) (hs : starEach [e] X.env = [(false, eval e X.env)] := by rfl) :
    PI X (.Tuple elts kk tpos) (.Call (.Name "enumerate" p) [e] [] pos) (iEnumTT X.K ta) := by
  refine ⟨fun pins s σ H R I h => Call_ (ld_blt I hg hm boot_enumerate (PyProof.Rows.callWith_type1 (thn (ha.run pos pins s σ H _ I h) fun us s1 ⟨vs, H1, I1, r1, q1⟩ => ?_) hs rfl))⟩
  obtain ⟨a, xs, ex, hq, q⟩ := q1
  subst ex
  cases r1 with
  | cons r rr =>
    cases rr
    cases r
    obtain ⟨its, rv, p', hz⟩ := I1.tuple hq
    have la : a < s1.heap.objs.size := by obtain ⟨o, ho, _⟩ := id p'; exact Heap.lt_size ho
    refine enum_call (begins_tuple a its.toArray) p' fun h' he hit hk => wpAny_pyIter_enum he ?_
    refine ⟨s1.heap.objs.size + 1, [s1.heap.objs.size + 1, s1.heap.objs.size], _, _, H1, rfl, I1.kept (t' := s1.toks) hk, turn_enumT a (s1.heap.objs.size + 1) s1.heap.objs.size, ⟨⟨.none, he⟩, ⟨_, hit, rfl, rfl⟩, Nat.succ_ne_self _, Nat.ne_of_lt la, Nat.ne_of_lt (Nat.lt_succ_of_lt la)⟩, fun b hb => ?_, q⟩
    have hle : s1.heap.objs.size ≤ b := by
      rcases List.mem_cons.mp hb with z | hb
      · rw [z]; exact Nat.le_add_right _ _
      · rw [List.mem_singleton.mp hb]; exact Nat.le_refl _
    exact I1.fpOk hle (I1.hok.fresh hle)
theorem enumW_get {ws : List W} {i : Nat} {w : W} (h : (enumW ws)[i]? = some w) : ∃ x, ws[i]? = some x ∧ w = .tup [.int (i : Nat), x] := by
  unfold enumW at h
  rw [List.getElem?_map, List.getElem?_zipIdx] at h
  cases q : ws[i]? with
  | none => rw [q] at h; cases h
  | some x => rw [q] at h; cases h; exact ⟨x, rfl, by simp⟩
theorem enumW_length (ws : List W) : (enumW ws).length = ws.length := by simp [enumW]
section
variable {K : KW} {H : Hp} {loc : List Addr}
theorem walk_of_enumT {a : Addr} {xs : List V} {ws : List W} (sq : SqT K H a xs) (r : Rds K H loc xs ws) : WalkW K H loc (IteT K a) (enumW ws) gdT :=
  fun i H1 loc1 M s ex l _ => ⟨fun w hw => by
    obtain ⟨x, hx, rfl⟩ := enumW_get hw
    obtain ⟨v, h1, h2⟩ := r.get hx
    refine ⟨⟨xs, v, ex.tup _ _ sq, h1⟩, fun y H2 q => ?_⟩
    obtain ⟨T, v', rfl, hT, rfl, f⟩ := q
    have e1 := f xs (ex.tup _ _ sq)
    rw [h1] at e1; cases e1
    have ex2 : Ext K H1 (upd H1 T (.tup [.int (i : Nat), v])) := .new hT
    exact ⟨.tup (SqT.of upd_same) (.cons (.int _) (.cons (h2.mono (ex.trans ex2) l) .nil)), s.newT hT, ex2⟩, fun hl => ⟨xs, ex.tup _ _ sq, by rw [r.length]; rw [enumW_length] at hl; exact hl⟩⟩
theorem walk_of_enumL {a : Addr} {n : Nat} {ws : List W} (hn : loc[n]? = some a) : WalkW K H loc (Ite K a) (enumW ws) (fun M' => decide (M'[n]? = some (.lst ws))) :=
  fun i H1 loc1 M s ex l hg => by
    have hg := of_decide_eq_true hg
    obtain ⟨xs, h1, r⟩ := s.ok n a _ (pre_get l hn) hg
    refine ⟨fun w hw => ?_, fun hl => ⟨xs, SqL.of h1, by rw [r.length]; rw [enumW_length] at hl; exact hl⟩⟩
    obtain ⟨x, hx, rfl⟩ := enumW_get hw
    obtain ⟨v, h2, h3⟩ := r.get hx
    refine ⟨⟨xs, v, SqL.of h1, h2⟩, fun y H2 q => ?_⟩
    obtain ⟨T, v', rfl, hT, rfl, f⟩ := q
    have e1 := f xs (SqL.of h1)
    rw [h2] at e1; cases e1
    have ex2 : Ext K H1 (upd H1 T (.tup [.int (i : Nat), v])) := .new hT
    exact ⟨.tup (SqT.of upd_same) (.cons (.int _) (.cons (h3.mono ex2 (List.prefix_refl _)) .nil)), s.newT hT, ex2⟩
end
section
variable {X : Cx} {e : Expr} {ce : CE} {p pos tpos : Pos} {elts : List Expr} {kk : Nat}
theorem i_enumT (hg : Gl X "enumerate") (hm : X.mg "enumerate" = none) (h : EA X [e] [ce]) (hs : starEach [e] X.env = [(false, eval e X.env)] := by rfl) : EI X (.Tuple elts kk tpos) (.Call (.Name "enumerate" p) [e] [] pos) (iEnumT ce) :=
  (pi_enumT hg hm h hs).mono fun σV H R ⟨loc, σ, M, ws, gd, M', rel, ev, aft⟩ => by
    obtain ⟨q, hq, ev⟩ := bind_some ev
    refine runA (p := ([q.1], q.2)) rel (by simp only [eArgs, hq, Option.bind_some]) fun vs H1 loc1 rel1 rd1 ex1 l1 => ?_
    split at ev
    · rename_i zs hz
      cases ev
      rw [hz] at rd1
      match vs, rd1 with
      | [_], .cons (.tup (a := a) (xs := xs) sq rs) .nil => exact ⟨a, xs, rfl, sq, aft _ H1 loc1 rel1.st ex1 l1 (walk_of_enumT sq rs)⟩
    · cases ev
theorem i_enumL (hg : Gl X "enumerate") (hm : X.mg "enumerate" = none) (h : EA X [e] [ce]) (hs : starEach [e] X.env = [(false, eval e X.env)] := by rfl) : EI X (.Tuple elts kk tpos) (.Call (.Name "enumerate" p) [e] [] pos) (iEnumL ce) :=
  (pi_enum hg hm h hs).mono fun σV H R ⟨loc, σ, M, ws, gd, M', rel, ev, aft⟩ => by
    obtain ⟨q, hq, ev⟩ := bind_some ev
    refine runA (p := ([q.1], q.2)) rel (by simp only [eArgs, hq, Option.bind_some]) fun vs H1 loc1 rel1 rd1 ex1 l1 => ?_
    split at ev
    · rename_i n hn
      split at ev
      · rename_i zs hz
        cases ev
        rw [hn] at rd1
        match vs, rd1 with
        | [_], .cons (.ref (a := a) ha) .nil =>
          obtain ⟨xs, h1, _⟩ := rel1.st.ok n a _ ha hz
          exact ⟨a, xs, rfl, SqL.of h1, aft _ H1 loc1 rel1.st ex1 l1 (walk_of_enumL ha)⟩
      · cases ev
    · cases ev
end
end BF

set_option Elab.async false
set_option linter.all false
set_option autoImplicit false
set_option maxRecDepth 100000
/-! sorted(list of tuples) that stands in order. -/
namespace BF
open PySem PySem.Spec
open PyProof.Rows L2
/-- what is asked of the items -/
def inOrd (ds : List PyData) : Bool := (ds.all fun d => ds.all fun e => PySem.W.alike d e) && ((ds.all fun d => match d with | .tuple (_ :: _) => true | _ => false) || (match ds with | [.tuple []] => true | _ => false)) && decide (ds.Pairwise fun a b => PySem.W.dataLe false id a b = true)
theorem sorts_one {prog : Program} {w : World} {A : Around} {s : Shared} {vs : List Value} (e : PySem.W.EachIs (fun v d => ∃ as, Reads s.heap v d as) vs [.tuple []]) : PySem.W.SortsAt prog w A s (PySem.W.dataKind s.heap [.tuple []]) vs := by
  have al : PySem.W.AllAlike [PyData.tuple []] := by
    intro d hd d' hd'
    rw [List.mem_singleton] at hd hd'
    subst hd; subst hd'; rfl
  have hl := e.length
  refine ⟨fun v hv => ?_, PyProof.Rows.tuples' false, fun E x y a b Q ha hb hq => ?_, fun h2 => ?_⟩
  · obtain ⟨d, hd, as, r⟩ := e.left v hv
    exact ⟨_, PySem.W.dataKind_some al hd r⟩
  · obtain ⟨d, as, hd, ra, rfl⟩ := PySem.W.dataKind_inv ha
    obtain ⟨d', as', hd', rb, rfl⟩ := PySem.W.dataKind_inv hb
    rw [List.mem_singleton] at hd hd'
    subst hd; subst hd'
    have hq' : Q false s := hq
    cases ra with
    | @tuple l o xs n _ _ h1 h2 h3 h4 =>
      cases rb with
      | @tuple l' o' xs' n' _ _ k1 k2 k3 k4 =>
        have z1 : xs.toList = [] := List.length_eq_zero_iff.mp (PySem.SeqAt.ReadsAll.length _ _ _ h4)
        have z2 : xs'.toList = [] := List.length_eq_zero_iff.mp (PySem.SeqAt.ReadsAll.length _ _ _ k4)
        refine PySem.W.kat_lt h1 h3 k1 k3 ?_
        rw [z1]
        have y1 : xs.size = 0 := by rw [← Array.length_toList, z1]; rfl
        have y2 : xs'.size = 0 := by rw [← Array.length_toList, z2]; rfl
        rw [y1, y2]
        exact hq'
  · rw [hl] at h2
    exact absurd h2 (by simp)
theorem vals_of_each : ∀ {out : List Value} {vs : List V} {ds : List PyData}, vs.length = ds.length → PySem.W.EachIs (fun u (p : V × PyData) => RelV p.1 u) out (vs.zip ds) → Vals vs out
  | _, [], _, _, h => by cases h; exact .nil
  | _, v :: vs, [], hl, _ => by cases hl
  | _, v :: vs, d :: ds, hl, h => by
    cases h with
    | cons h1 h2 => exact .cons h1 (vals_of_each (by simpa using hl) h2)
theorem each_zip {X : Cx} {pins : List (Addr × Obj)} {σ : L2.St} {H : Hp} {s : Shared} (I : Inv X pins σ H s) : ∀ {us : List Value} {vs : List V} {ds : List PyData}, Vals vs us → L2.DpAll X.K H vs ds → vs.length = ds.length ∧ PySem.W.EachIs (fun u (p : V × PyData) => RelV p.1 u) us (vs.zip ds) ∧ PySem.W.EachIs (fun u (p : V × PyData) => ∃ as, Reads s.heap u p.2 as) us (vs.zip ds)
  | _, _, _, .nil, .nil => ⟨rfl, .nil, .nil⟩
  | _, _, _, .cons r1 r2, .cons h1 h2 => by
    obtain ⟨e1, e2, e3⟩ := each_zip I r2 h2
    exact ⟨by simp [e1], .cons r1 e2, .cons (L2.Dp.reads I _ _ _ h1 r1) e3⟩
theorem each_snd {R : Value → PyData → Prop} : ∀ {us : List Value} {ps : List (V × PyData)}, PySem.W.EachIs (fun u (p : V × PyData) => R u p.2) us ps → PySem.W.EachIs R us (ps.map (·.2))
  | _, [], .nil => .nil
  | _, _ :: _, .cons h1 h2 => .cons h1 (each_snd h2)
def rSortT (K : PySem.W.Frag) : List V → Hp → VK → Prop := fun xs H Q => ∃ (a : Addr) (vs : List V) (ds : List PyData), xs = [.ref a] ∧ L2.SqL K H a vs ∧ L2.DpAll K H vs ds ∧ inOrd ds = true ∧ (∀ d ∈ ds, d.depth ≤ 60) ∧
    ∀ p : Addr, H p = none → Q (.ref p) (upd H p (.lst vs))
theorem call_sortT {X : Cx} (hu : X.A.units + 65 < cLine) : CallR X (.builtin "sorted") (rSortT X.K) := by
  intro pins s σ H xs us Q I r q
  obtain ⟨a, vs, ds, ex, hd, hds, ho, hdep, q⟩ := q
  subst ex
  obtain ⟨u, eu, rx⟩ := vals1 r
  subst eu
  cases rx
  obtain ⟨its, rv, ⟨o, n, g1, g2, _, g3⟩, hz⟩ := I.list hd
  obtain ⟨el, er, ed⟩ := each_zip I rv hds
  have hlist : s.heap.IsList a its.toArray := ⟨o, g1, g2, n, g3⟩
  have e2 : (vs.zip ds).map (·.2) = ds := List.map_snd_zip (by omega)
  have hil : its.length = vs.length := by rw [rv.length]
  have hsz : vs.length ≤ 16777216 := by have := hz; rw [sizeLine_eq] at this; exact this
  unfold inOrd at ho
  rw [Bool.and_eq_true, Bool.and_eq_true, decide_eq_true_eq] at ho
  obtain ⟨⟨al, ty⟩, pw⟩ := ho
  have hal : PySem.W.AllAlike ds := fun d hd d' hd' => List.all_eq_true.mp (List.all_eq_true.mp al d hd) d' hd'
  -- what the call leaves
  have fin : ∀ out : List Value, Vals vs out → EP X pins σ Q (.ref (s.heap.objs.size + 1)) { s with heap := sortedAll s.heap its out.toArray } := fun out ho => by
    obtain ⟨e', he'⟩ := PyProof.Rows.sortedAll_at s.heap its out.toArray
    have old : ∀ b o, s.heap.get? b = some o → (sortedAll s.heap its out.toArray).get? b = some o := fun b o h => PyProof.Rows.sortedAll_old h
    exact ⟨.ref (s.heap.objs.size + 1), upd H (s.heap.objs.size + 1) (.lst vs), I.laid (t' := s.toks) old (Nat.le_succ _)
      (show ObjOk X.prog X.w _ _ _ (.lst vs) from ⟨hz, out, e', ho, he'⟩), rfl, q _ (I.hok.fresh (Nat.le_succ _))⟩
  rw [Bool.or_eq_true] at ty
  rcases ty with ty | ty
  · have hk : PySem.W.Sortable ((vs.zip ds).map (·.2)) := .inl fun d hd => by
      rw [e2] at hd
      have := List.all_eq_true.mp ty d hd
      match d, this with
      | .tuple (x :: r), _ => exact ⟨x, r, rfl⟩
    refine PySem.W.sorted_data (enc := fun p : V × PyData => p.2) hlist er ed (by rw [e2]; exact hal) hk (by simp; rw [sizeLine_eq]; omega) (fun b hb => ?_) fun out hlo eo => ?_
    · have hm : b.2 ∈ ds := by rw [← e2]; exact List.mem_map.mpr ⟨b, hb, rfl⟩
      have := hdep _ hm
      omega
    · have ms : (vs.zip ds).mergeSort (PySem.W.dataLe false fun p : V × PyData => p.2) = vs.zip ds := by
        refine List.mergeSort_of_pairwise ?_
        have : ((vs.zip ds).map (·.2)).Pairwise fun a b => PySem.W.dataLe false id a b = true := by rw [e2]; exact pw
        exact List.pairwise_map.mp this
      rw [ms] at eo
      exact fin out (vals_of_each el eo)
  · have h1 : ds = [.tuple []] := by
      match ds, ty with
      | [.tuple []], _ => rfl
    subst h1
    have hv1 : vs.length = 1 := el
    obtain ⟨v, rfl⟩ : ∃ v, vs = [v] := List.length_eq_one_iff.mp hv1
    obtain ⟨u, rfl⟩ : ∃ u, its = [u] := List.length_eq_one_iff.mp (by rw [hil]; rfl)
    have ed' := each_snd (R := fun u d => ∃ as, Reads s.heap u d as) ed
    have ed2 : PySem.W.EachIs (fun x d => ∃ as, Reads (PySem.W.sortingHeap (PySem.W.copyHeap s.heap [u]) (s.heap.objs.size + 1) [u]) x d as) [u] [.tuple []] := by
      cases ed' with
      | cons h1 h2 =>
        obtain ⟨as, r⟩ := h1
        exact .cons ⟨as, PyProof.Rows.Reads.keeps (fun _ _ => PySem.W.sorting_copy_old) r⟩ .nil
    obtain ⟨hp, hhp⟩ : ∃ hp, hp = PySem.W.sortingHeap (PySem.W.copyHeap s.heap [u]) (s.heap.objs.size + 1) [u] := ⟨_, rfl⟩
    rw [← hhp] at ed2
    have so := sorts_one (prog := X.prog) (w := X.w) (A := X.A.in1.in1) (s := { s with heap := hp }) ed2
    refine PySem.W.sorted_vals (κ := PySem.W.dataKind hp [.tuple []]) hlist (by rw [← hhp]; exact so) (by rw [sizeLine_eq]; simp) ?_
    obtain ⟨z, hz'⟩ : ∃ z, PySem.W.sortVals (PySem.W.dataKind hp [.tuple []]) false [u] [u] = [z] := List.length_eq_one_iff.mp (PySem.W.sortVals_length false rfl)
    have hm := PySem.W.sortVals_mem (κ := PySem.W.dataKind hp [.tuple []]) false (ks := [u]) (vs := [u]) (v := z) (by rw [hz']; exact List.mem_singleton.mpr rfl)
    rw [List.mem_singleton] at hm
    rw [hz', hm]
    exact fin [u] rv
/-- sorted(l), the items in order as they stand -/
def pSortT : Fn := fun ws M => match ws with
  | [.ref n] => match M[n]? with
    | some (.lst xs) => match mapO (toD M 60) xs with
      | some ds => if inOrd ds = true then some (.ref M.length, M ++ [.lst xs]) else none
      | none => none
    | _ => none
  | _ => none
theorem toDs_ok {K : KW} {H : Hp} {loc : List Addr} {M : Mem} (s : Store K H loc M) : ∀ {vs : List V} {ws : List W} {ds : List PyData}, Rds K H loc vs ws → Paired (fun a b => toD M 60 a = some b) ws ds → L2.DpAll K H vs ds ∧ ∀ d ∈ ds, d.depth ≤ 60
  | _, _, _, .nil, .nil => ⟨.nil, fun _ h => (by cases h)⟩
  | _, _, _, .cons a b, .cons c d => by
    obtain ⟨g1, _, g3⟩ := toD_ok s 60 _ _ _ a c
    obtain ⟨g4, g5⟩ := toDs_ok s b d
    exact ⟨.cons g1 g4, fun x hx => (List.mem_cons.mp hx).elim (fun e => e ▸ g3) (g5 x)⟩
theorem n_sortT {K : KW} : LiftN K (rSortT K) pSortT := by
  intro H loc M ws vs w M' Q s r e aft
  unfold pSortT at e
  split at e
  · split at e
    · rename_i zs hz
      split at e
      · rename_i ds hds
        split at e
        · rename_i ho
          cases e
          match vs, r with
          | [_], .cons (.ref (a := a) hn) .nil =>
            obtain ⟨xs, q1, q2⟩ := s.ok _ _ _ hn hz
            obtain ⟨g1, g2⟩ := toDs_ok s q2 (mapO_get hds)
            exact ⟨a, xs, ds, rfl, SqL.of q1, g1, ho, g2, fun l hl => aft_lst s q2 hl aft⟩
        · cases e
      · cases e
    · cases e
  · cases e
end BF

set_option Elab.async false
set_option linter.all false
set_option autoImplicit false
set_option maxRecDepth 100000
/-! Small sets of nested tuples: made of a list, sorted. -/
namespace BF
open PySem PySem.Spec
open PyProof.Rows L2
abbrev IsN (P : Program) (w : World) (hp : Heap) (k : NestedKey) (b : Addr) : Prop := (nestedKind P w).is hp k b
section
variable {P : Program} {w : World} {A : Around} {E : Value → Shared → Prop} {s : Shared}
theorem isN_stays {hp hp' : Heap} {k : NestedKey} {b : Addr} (z : IsN P w hp k b) (hk : ∀ c o, hp.get? c = some o → hp'.get? c = some o) : IsN P w hp' k b :=
  (PySem.nestedKind_stays).stays (fun c o _ _ hc _ => hk c o hc) z
theorem isN_beside {hp hp' : Heap} {k : NestedKey} {b c : Addr} {o : Obj} {en : Array (Int × Value)} {ee : Nat} {tb : SetTable} (z : IsN P w hp k b) (ho : hp.get? c = some o) (hd : o.data = .set en ee tb) (hs : Heap.SameBut c hp hp') : IsN P w hp' k b :=
  (PySem.nestedKind_stays).stays (fun d u vs n hu hv => by
    have hne : d ≠ c := by
      intro e
      rw [e, ho] at hu
      cases hu
      rw [hd] at hv
      cases hv
    exact (hs.2 d hne).trans hu) z
/-! ### what the search asks of them -/
def OfAt (P : Program) (w : World) (n : Nat) (s : Shared) (v : Value) : Prop := ∀ (A : Around) (E : Value → Shared → Prop) (Q : Bool → Shared → Prop), Q false s → wpAny (model P w) A (ofAClassStatement n v) Q E s
def ByAt (P : Program) (w : World) (n : Nat) (s : Shared) (v : Value) : Prop := ∀ (A : Around) (E : Value → Shared → Prop) (Q : Bool → Shared → Prop), (∀ r, Q r s) → wpAny (model P w) A (hashByValue n v) Q E s
mutual
theorem ofA_key : ∀ (k : NestedKey) (v : Value) (n : Nat) (s : Shared), NestedIs s.heap k v → k.depth ≤ n → OfAt P w n s v
  | .none, _, n, s, z, _ => by
    cases z
    intro A E Q h
    cases n <;> exact wpAny_pure h
  | .num i, _, n, s, z, _ => by
    cases z <;> (intro A E Q h; cases n <;> exact wpAny_pure h)
  | .text y, _, n, s, z, _ => by
    cases z
    intro A E Q h
    cases n <;> exact wpAny_pure h
  | .tup ks, _, n, s, z, hn => by
    cases z with
    | @tup b o vs m _ ho hc hd hk =>
      simp only [NestedKey.depth] at hn
      cases n with
      | zero => omega
      | succ n =>
        have all := ofA_keys ks vs.toList n s hk (by omega)
        intro A E Q h
        unfold ofAClassStatement
        refine wpAny_bind (wpAny_typeOf (T := "tuple") ⟨o, ho, hc⟩ ?_)
        dsimp only
        have et : (("tuple" : String) == "tuple") = true := by decide
        simp only [et, if_true, Bool.not_true, Bool.false_eq_true, if_false]
        try refine wpAny_bind (wpAny_pure ?_)
        try simp only [Bool.not_true, Bool.false_eq_true, if_false]
        show wpAny _ _ (seqItems? (.ref b) >>= _) _ _ s
        refine wpAny_bind (wpAny_seqItems ho hd ?_)
        dsimp only
        refine wpAny_bind ?_
        rw [← Array.forIn_toList]
        refine wpAny_forIn_list _ (fun left r s' => r.1 = none ∧ s' = s ∧ ∀ u ∈ left, OfAt P w n s u) _ ?_ ?_ _ _ ⟨rfl, rfl, all⟩
        · rintro u left r s' ⟨hr, rfl, hall⟩
          refine wpAny_bind (hall u List.mem_cons_self _ _ _ ?_)
          simp only [Bool.false_eq_true, if_false]
          exact wpAny_pure ⟨rfl, rfl, fun x hx => hall x (List.mem_cons_of_mem _ hx)⟩
        · rintro ⟨r1, r2⟩ s' ⟨hr, rfl, _⟩
          simp only at hr
          subst hr
          exact wpAny_pure h
theorem ofA_keys : ∀ (ks : List NestedKey) (vs : List Value) (n : Nat) (s : Shared), NestedAll s.heap ks vs → NestedKey.depthAll ks ≤ n → ∀ v ∈ vs, OfAt P w n s v
  | [], _, n, s, z, _, v, hv => by cases z; cases hv
  | k :: ks, _, n, s, z, hn, v, hv => by
    cases z with
    | cons z1 z2 =>
      simp only [NestedKey.depthAll] at hn
      rcases List.mem_cons.mp hv with e | hv
      · rw [e]; exact ofA_key k _ n s z1 (by omega)
      · exact ofA_keys ks _ n s z2 (by omega) v hv
end
mutual
theorem byA_key : ∀ (k : NestedKey) (v : Value) (n : Nat) (s : Shared), NestedIs s.heap k v → k.depth ≤ n → ByAt P w n s v
  | .none, _, n, s, z, _ => by
    cases z
    intro A E Q h
    cases n <;> exact wpAny_pure (h _)
  | .num i, _, n, s, z, _ => by
    cases z <;> (intro A E Q h; cases n <;> exact wpAny_pure (h _))
  | .text y, _, n, s, z, _ => by
    cases z
    intro A E Q h
    cases n <;> exact wpAny_pure (h _)
  | .tup ks, _, n, s, z, hn => by
    cases z with
    | @tup b o vs m _ ho hc hd hk =>
      simp only [NestedKey.depth] at hn
      cases n with
      | zero => omega
      | succ n =>
        have all := byA_keys ks vs.toList n s hk (by omega)
        intro A E Q h
        unfold hashByValue
        refine wpAny_bind (wpAny_specialOf (T := "tuple") ⟨o, ho, hc⟩ F.slot_tuple_hash.lookup ?_)
        show wpAny _ _ (seqItems? (.ref b) >>= _) _ _ s
        refine wpAny_bind (wpAny_seqItems ho hd ?_)
        refine wpAny_bind ?_
        show wpAny _ _ (forIn vs _ _) _ _ s
        rw [← Array.forIn_toList]
        refine wpAny_forIn_list _ (fun left r s' => r.1 = none ∧ s' = s ∧ ∀ u ∈ left, ByAt P w n s u) _ ?_ ?_ _ _ ⟨rfl, rfl, all⟩
        · rintro u left r s' ⟨hr, rfl, hall⟩
          refine wpAny_bind (hall u List.mem_cons_self _ _ _ fun c => ?_)
          cases c
          · simp only [Bool.not_false, if_true]
            refine wpAny_pure ?_
            exact wpAny_pure (h _)
          · simp only [Bool.not_true, Bool.false_eq_true, if_false]
            exact wpAny_pure ⟨rfl, rfl, fun x hx => hall x (List.mem_cons_of_mem _ hx)⟩
        · rintro ⟨r1, r2⟩ s' ⟨hr, rfl, _⟩
          simp only at hr
          subst hr
          exact wpAny_pure (h _)
theorem byA_keys : ∀ (ks : List NestedKey) (vs : List Value) (n : Nat) (s : Shared), NestedAll s.heap ks vs → NestedKey.depthAll ks ≤ n → ∀ v ∈ vs, ByAt P w n s v
  | [], _, n, s, z, _, v, hv => by cases z; cases hv
  | k :: ks, _, n, s, z, hn, v, hv => by
    cases z with
    | cons z1 z2 =>
      simp only [NestedKey.depthAll] at hn
      rcases List.mem_cons.mp hv with e | hv
      · rw [e]; exact byA_key k _ n s z1 (by omega)
      · exact byA_keys ks _ n s z2 (by omega) v hv
end
theorem seenN {k : NestedKey} {b : Addr} {Q : Bool → Shared → Prop} (hk : IsN P w s.heap k b) {ys : List Value} (hy : ∀ y ∈ ys, ∃ j c, y = Value.ref c ∧ IsN P w s.heap j c) (h : Q false s) : wpAny (model P w) A (searchCouldBeSeen (.ref b) ys) Q E s := by
  unfold searchCouldBeSeen
  refine wpAny_bind ?_
  refine wpAny_forIn_list _ (fun left r s' => r.1 = none ∧ s' = s ∧ ∀ y ∈ left, ∃ j c, y = Value.ref c ∧ IsN P w s.heap j c) _ ?_ ?_ _ _ ⟨rfl, rfl, hy⟩
  · rintro u left r s' ⟨hr, rfl, hall⟩
    obtain ⟨j, c, rfl, hc⟩ := hall u List.mem_cons_self
    have left' : ∀ y ∈ left, ∃ j c, y = Value.ref c ∧ IsN P w s'.heap j c := fun y hy => hall y (List.mem_cons_of_mem _ hy)
    dsimp only
    by_cases hv : (b == c || (carriedByValue (.ref b) && carriedByValue (.ref c))) = true
    · refine wp_if_pos hv ?_
      exact wpAny_pure ⟨rfl, rfl, left'⟩
    · refine wp_if_neg hv ?_
      refine wpAny_bind ((nestedKind P w).quiet hk ?_)
      simp only [Bool.not_true, Bool.false_eq_true, if_false]
      refine wpAny_bind ((nestedKind P w).quiet hc ?_)
      simp only [Bool.not_true, Bool.false_eq_true, if_false]
      refine wpAny_bind (ofA_key _ _ 8 _ hk.1 hk.2 _ _ _ ?_)
      simp only [Bool.false_eq_true, if_false]
      refine wpAny_bind (ofA_key _ _ 8 _ hc.1 hc.2 _ _ _ ?_)
      simp only [Bool.false_eq_true, if_false]
      exact wpAny_pure ⟨rfl, rfl, left'⟩
  · rintro ⟨r1, r2⟩ s' ⟨hr, rfl, _⟩
    simp only at hr
    subst hr
    exact wpAny_pure h
/-! ### the set -/
def nrows (w : World) (ps : List (Addr × NestedKey)) : List (Int × Value) := ps.map fun p => (p.2.hash w, Value.ref p.1)
structure SetN (P : Program) (w : World) (hp : Heap) (c : Addr) (ps : List (Addr × NestedKey)) (en : Array (Int × Value)) (ee : Nat) (tb : SetTable) : Prop where
  obj : ∃ o, hp.get? c = some o ∧ o.ExactSet ∧ o.data = .set en ee tb
  rws : en.toList = nrows w ps
  tok : TabOk tb (ps.map fun p => p.2.hash w)
  dis : (ps.map (·.2)).Nodup
  ek : ∀ p ∈ ps, IsN P w hp p.2 p.1
  ld : w.params.followText "set-order" = true ∨ tb.led = true
  room : ps.length * 5 < tb.mask * 3
  few : ps.length ≤ 60
variable {c : Addr} {ps : List (Addr × NestedKey)} {en : Array (Int × Value)} {ee : Nat} {tb : SetTable}
theorem SetN.size (R : SetN P w s.heap c ps en ee tb) : en.size = ps.length := by
  rw [← Array.length_toList, R.rws]
  exact List.length_map _
theorem SetN.fits (R : SetN P w s.heap c ps en ee tb) : tb.fits en.size = true := by
  have z1 := R.tok.sz
  rw [List.length_map] at z1
  have z2 := R.size
  have z3 := R.room
  unfold SetTable.fits SetTable.fill
  rw [R.tok.dm, Bool.and_eq_true, beq_iff_eq, decide_eq_true_eq]
  exact ⟨by omega, by show tb.place.size + 0 ≤ tb.mask; omega⟩
theorem SetN.at (R : SetN P w s.heap c ps en ee tb) {i : Nat} {p : Addr × NestedKey} (hi : ps[i]? = some p) : en[i]? = some (p.2.hash w, Value.ref p.1) := by
  rw [← Array.getElem?_toList, R.rws, nrows, List.getElem?_map, hi]
  rfl
theorem SetN.stands (R : SetN P w s.heap c ps en ee tb) : ¬ tb.gaveWay = true := by
  unfold SetTable.gaveWay
  rw [mask_odd R.tok.mok]
  decide
/-- from the n-th step of its way on, the search meets the key, or the free slot -/
theorem seekN (R : SetN P w s.heap c ps en ee tb) {x : Addr} {k : NestedKey} (hx : IsN P w s.heap k x) (hu : A.units + 8 < cLine) {m : Nat} (hm : m < 10 * SetTable.turns tb.mask)
    (hfree : way tb.mask (k.hash w) m ∉ tb.place.toList) (hfull : ∀ n, n < m → way tb.mask (k.hash w) n ∈ tb.place.toList) {Q : SetFound → Shared → Prop}
    (qin : k ∈ ps.map (·.2) → Q (.there none) s) (qout : k ∉ ps.map (·.2) → Q (.free (way tb.mask (k.hash w) m) false) s) :
    ∀ (fuel n : Nat) (from_ : Option SetTable.Probe), from_.getD (tb.probeStart (k.hash w)) = nth tb.mask (runAt tb.mask (SetTable.bits (k.hash w) % (tb.mask + 1)) (SetTable.bits (k.hash w))) n → n ≤ m → m - n < fuel →
      (∀ (i : Nat) p, ps[i]? = some p → p.2 = k → ∃ n', n ≤ n' ∧ n' < m ∧ tb.place.toList[i]? = some (way tb.mask (k.hash w) n')) →
      wpAny (model P w) A (setSearchFrom c (.ref x) (k.hash w) true fuel from_) Q E s
  | 0, n, _, _, _, hf, _ => absurd hf (Nat.not_lt_zero _)
  | fuel + 1, n, from_, hfr, hn, hf, reach => by
    obtain ⟨o, ho, hex, hd⟩ := R.obj
    rw [L2.setSearchFrom_succ]
    refine wpAny_bind (wpAny_setState_of ho hd R.fits ?_)
    dsimp only
    refine wp_if_neg R.stands ?_
    try refine wpAny_bind (wpAny_pure ?_)
    obtain ⟨p0, hp0⟩ : ∃ p0, p0 = runAt tb.mask (SetTable.bits (k.hash w) % (tb.mask + 1)) (SetTable.bits (k.hash w)) := ⟨_, rfl⟩
    rw [← hp0] at hfr
    have clean : ∀ (q : Nat) (p : SetTable.Probe), p.dummy = none → (nth tb.mask p q).dummy = none := by
      intro q
      induction q with
      | zero => intro p h; exact h
      | succ q ih =>
        intro p h
        refine ih (adv tb.mask p) ?_
        unfold adv
        split <;> exact h
    have d0 : (nth tb.mask p0 n).dummy = none := clean n p0 (by rw [hp0]; rfl)
    have on : ∀ q, nth tb.mask (nth tb.mask p0 n) q = nth tb.mask p0 (n + q) := fun q => (nth_add tb.mask n p0 q).symm
    have onj : ∀ q, (nth tb.mask (nth tb.mask p0 n) q).j = way tb.mask (k.hash w) (n + q) := fun q => by rw [on, hp0]
    have spec := go_spec tb R.tok.ris R.tok.dm (fun i => (en[i]?.map (·.1)).getD 0) (k.hash w) (10 * SetTable.turns tb.mask) (m - n) _ d0 (by omega)
      (fun q hq => by rw [onj]; exact hfull (n + q) (by omega)) (by rw [onj, show n + (m - n) = m by omega]; exact hfree)
    have hashOf : ∀ (i : Nat) p, ps[i]? = some p → (fun i => (en[i]?.map (·.1)).getD 0) i = p.2.hash w := fun i p hi => by
      simp only [R.at hi, Option.map_some, Option.getD_some]
    rcases spec with ⟨q, i, hq, hi, _, hno, hpr⟩ | ⟨hno, hpr⟩
    · have hpr2 : tb.probe (fun i => (en[i]?.map (·.1)).getD 0) (k.hash w) (from_.getD (tb.probeStart (k.hash w))) = some (.candidate (way tb.mask (k.hash w) (n + q)) i (nth tb.mask p0 (n + (q + 1)))) := by
        rw [hfr, ← onj, ← on]
        exact hpr
      rw [hpr2]
      dsimp only
      rw [onj] at hi
      have il : i < ps.length := by
        have z1 : i < tb.place.toList.length := (List.getElem?_eq_some_iff.mp hi).1
        have z2 := R.tok.sz
        rw [List.length_map] at z2
        rw [Array.length_toList] at z1
        omega
      obtain ⟨p, hp⟩ : ∃ p, ps[i]? = some p := ⟨_, List.getElem?_eq_getElem il⟩
      have pm : p ∈ ps := List.mem_of_getElem? hp
      have hpk := R.ek p pm
      have behind : wpAny (model P w) A (L2.searchRest c (.ref x) (k.hash w) true fuel en tb (way tb.mask (k.hash w) (n + q)) i (nth tb.mask p0 (n + (q + 1)))) Q E s := by
        unfold L2.searchRest
        rw [R.at hp]
        dsimp only
        refine wpAny_bind (wpAny_holding ((nestedKind P w).eqBool hu hpk hx ?_))
        refine wpAny_bind (wpAny_setState_of ho hd R.fits ?_)
        dsimp only
        by_cases same : p.2 = k
        · refine wp_if_pos (by simp [same]) ?_
          exact wpAny_pure (qin (List.mem_map.mpr ⟨p, pm, same⟩))
        · refine wp_if_neg (by simp [same]) ?_
          try refine wpAny_bind (wpAny_pure ?_)
          rw [L2.sameMem]
          dsimp only
          have live : tb.slot (way tb.mask (k.hash w) (n + q)) = .live i := slot_live R.tok.ris hi
          simp only [if_true, live, R.at hp]
          refine wpAny_bind (wpAny_isSame_ref_self (wpAny_bind (wpAny_pure ?_)))
          simp only [if_true]
          refine wp_if_neg (by simp [same]) ?_
          refine seekN R hx hu hm hfree hfull qin qout fuel (n + (q + 1)) _ (by rw [Option.getD_some, hp0]) (by omega) (by omega) fun i1 p1 h1 hk1 => ?_
          obtain ⟨n', a1, a2, a3⟩ := reach i1 p1 h1 hk1
          refine ⟨n', ?_, a2, a3⟩
          refine Classical.byContradiction fun z => ?_
          by_cases zz : n' = n + q
          · rw [zz] at a3
            have live2 := slot_live R.tok.ris a3
            rw [live] at live2
            injection live2 with live2
            rw [← live2, hp] at h1
            exact same ((congrArg Prod.snd (Option.some.inj h1)).trans hk1)
          · exact hno (n' - n) i1 (by omega) (by rw [onj, show n + (n' - n) = n' by omega]; exact a3) ((hashOf i1 p1 h1).trans (by rw [hk1]))
      by_cases hl : tb.led = true
      · refine wp_if_neg (by simp [hl]) ?_
        try refine wpAny_bind (wpAny_pure ?_)
        exact behind
      · refine wp_if_pos (by simp [hl]) ?_
        refine wpAny_bind (seenN hx (fun y hy => ?_) ?_)
        · obtain ⟨u, hu1, hu2⟩ := List.mem_map.mp hy
          have hu3 : u ∈ en ∧ u.1 = k.hash w := by simpa using hu1
          have hu4 : u ∈ en.toList := by simpa using hu3.1
          rw [R.rws] at hu4
          obtain ⟨p2, hp2, e2⟩ := List.mem_map.mp hu4
          exact ⟨p2.2, p2.1, by rw [← hu2, ← e2], R.ek p2 hp2⟩
        · refine wp_if_neg (by decide) ?_
          try refine wpAny_bind (wpAny_pure ?_)
          exact behind
    · have hpr2 : tb.probe (fun i => (en[i]?.map (·.1)).getD 0) (k.hash w) (from_.getD (tb.probeStart (k.hash w))) = some (.empty (way tb.mask (k.hash w) m) none) := by
        have ew : way tb.mask (k.hash w) m = (nth tb.mask (nth tb.mask p0 n) (m - n)).j := by rw [onj, show n + (m - n) = m by omega]
        rw [hfr, ew]
        exact hpr
      rw [hpr2]
      dsimp only
      refine wpAny_pure (qout fun hmem => ?_)
      obtain ⟨p1, hp1, hk1⟩ := List.mem_map.mp hmem
      obtain ⟨i1, hi1⟩ := List.getElem?_of_mem hp1
      obtain ⟨n', a1, a2, a3⟩ := reach i1 p1 hi1 hk1
      exact hno (n' - n) i1 (by omega) (by rw [onj, show n + (n' - n) = n' by omega]; exact a3) ((hashOf i1 p1 hi1).trans (by rw [hk1]))
/-- the search as an adding asks for it -/
theorem searchN (R : SetN P w s.heap c ps en ee tb) {x : Addr} {k : NestedKey} (hx : IsN P w s.heap k x) (hu : A.units + 8 < cLine) {Q : SetFound → Shared → Prop}
    (qin : k ∈ ps.map (·.2) → Q (.there none) s)
    (qout : ∀ m, k ∉ ps.map (·.2) → way tb.mask (k.hash w) m ∉ tb.place.toList → (∀ n, n < m → way tb.mask (k.hash w) n ∈ tb.place.toList) → Q (.free (way tb.mask (k.hash w) m) false) s) :
    wpAny (model P w) A (setSearch c (.ref x) (k.hash w) true) Q E s := by
  have z1 := R.room
  obtain ⟨m, m1, m2, m3⟩ := R.tok.first (by rw [List.length_map]; omega) (k.hash w)
  have big : m < 100000 := by
    have m1' := m1
    unfold SetTable.turns at m1'
    rcases R.tok.mok with e | e | e <;> rw [e] at m1' <;> omega
  unfold setSearch
  refine seekN R hx hu m1 m2 m3 qin (fun z => qout m z m2 m3) 100000 0 none rfl (Nat.zero_le _) (by omega) fun i p hp hk => ?_
  have hi : (ps.map fun p => p.2.hash w)[i]? = some (k.hash w) := by rw [List.getElem?_map, hp, ← hk]; rfl
  have il : i < tb.place.toList.length := by
    have z2 : i < ps.length := (List.getElem?_eq_some_iff.mp hp).1
    have z3 := R.tok.sz
    rw [List.length_map] at z3
    rw [Array.length_toList]
    omega
  obtain ⟨n, n1, n2⟩ := R.tok.before m2 hi (List.getElem?_eq_getElem il)
  exact ⟨n, Nat.zero_le _, n1, by rw [List.getElem?_eq_getElem il, n2]⟩
theorem nrows_put (ps : List (Addr × NestedKey)) (i : Nat) (x : Addr) (k : NestedKey) : nrows w (ps.take i ++ (x, k) :: ps.drop i) = (nrows w ps).take i ++ (k.hash w, Value.ref x) :: (nrows w ps).drop i := by
  simp only [nrows, List.map_append, List.map_cons, List.map_take, List.map_drop]
/-- in another order -/
theorem nrows_pick (ps : List (Addr × NestedKey)) (en : Array (Int × Value)) (ord : Array Nat) (h : en.toList = nrows w ps) (hp : ord.toList.Perm (List.range ps.length)) :
    ∃ ps2, (ord.filterMap (en[·]?)).toList = nrows w ps2 ∧ ps2.Perm ps ∧ (ps2.map fun p => p.2.hash w) = ord.toList.map fun i => (en.map (·.1)).getD i 0 := by
  have sz : en.size = ps.length := by rw [← Array.length_toList, h, nrows, List.length_map]
  have get : ∀ i, en[i]? = (ps[i]?).map fun p : Addr × NestedKey => (p.2.hash w, Value.ref p.1) := fun i => by rw [← Array.getElem?_toList, h, nrows, List.getElem?_map]
  have main : ∀ l : List Nat, (∀ i ∈ l, i < ps.length) → l.filterMap (fun i => en[i]?) = nrows w (l.filterMap fun i => ps[i]?) ∧ ((l.filterMap fun i => ps[i]?).map fun p => p.2.hash w) = l.map fun i => (en.map (·.1)).getD i 0 := by
    intro l
    induction l with
    | nil => intro _; exact ⟨rfl, rfl⟩
    | cons i l ih =>
      intro hl
      obtain ⟨e1, e2⟩ := ih fun j hj => hl j (List.mem_cons_of_mem _ hj)
      have hi := hl i List.mem_cons_self
      have pi := List.getElem?_eq_getElem hi
      have ei := get i
      rw [pi, Option.map_some] at ei
      rw [List.filterMap_cons_some ei, List.filterMap_cons_some pi, e1, List.map_cons, List.map_cons, e2]
      refine ⟨rfl, ?_⟩
      have : (en.map (·.1)).getD i 0 = (ps[i]).2.hash w := by
        rw [Array.getD_eq_getD_getElem?, Array.getElem?_map, ei]; rfl
      rw [this]
  obtain ⟨m1, m2⟩ := main ord.toList fun i hi => List.mem_range.mp (hp.mem_iff.mp hi)
  refine ⟨ord.toList.filterMap fun i => ps[i]?, by simpa using m1, ?_, m2⟩
  have whole : ∀ n, n ≤ ps.length → (List.range n).filterMap (fun i => ps[i]?) = ps.take n := by
    intro n
    induction n with
    | zero => intro _; rfl
    | succ n ih =>
      intro hn
      rw [List.range_succ, List.filterMap_append, ih (by omega), List.take_add_one, List.getElem?_eq_getElem (show n < ps.length by omega)]
      simp [List.getElem?_eq_getElem (show n < ps.length by omega)]
  have := hp.filterMap fun i => ps[i]?
  rw [whole _ (Nat.le_refl _), List.take_length] at this
  exact this
/-- a larger table -/
theorem relayN {o : Obj} (ho : s.heap.get? c = some o) (hex : o.ExactSet) (hd : o.data = .set en ee tb) (hr : en.toList = nrows w ps) (hs : tb.place.size = en.size) (hdm : tb.dummies = #[]) (hle : en.size ≤ tb.mask) (nd : (ps.map (·.2)).Nodup)
    (ks : ∀ p ∈ ps, IsN P w s.heap p.2 p.1) (ld : w.params.followText "set-order" = true ∨ tb.led = true) (few : ps.length ≤ 60) {want W : Nat} (w1 : SetTable.sizeAbove want - 1 = W) (w2 : MaskOk W) (w3 : SetTable.sizeAbove want ≤ 128) (w4 : ps.length * 5 < W * 3) {Q : Unit → Shared → Prop}
    (q : ∀ hp' ps' en' ee' tb', Heap.SameBut c s.heap hp' → SetN P w hp' c ps' en' ee' tb' → ps'.Perm ps → Q () { s with heap := hp' }) : wpAny (model P w) A (setRelay c want) Q E s := by
  have sz : en.size = ps.length := by rw [← Array.length_toList, hr, nrows, List.length_map]
  have fit : tb.fits en.size = true := by
    unfold SetTable.fits SetTable.fill
    rw [hdm, Bool.and_eq_true, beq_iff_eq, decide_eq_true_eq]
    exact ⟨hs, by show tb.place.size + 0 ≤ tb.mask; omega⟩
  obtain ⟨tb', ord, e, pm, T, em, el, epl, ed⟩ := relaid_ok tb (hs := en.map (·.1)) (wanted := want) w1 w2 (by rw [Array.size_map, sz]; omega)
  rw [Array.size_map, sz] at pm
  obtain ⟨ps2, r1, r2, r3⟩ := nrows_pick ps en ord hr pm
  rw [← r3] at T
  have s2 : (ord.filterMap (en[·]?)).size = en.size := by rw [← Array.length_toList, r1, nrows, List.length_map, r2.length_eq, sz]
  rw [L2.setRelay_eq]
  refine wpAny_bind (wpAny_setState_of ho hd fit ?_)
  dsimp only
  refine wp_if_neg (by rw [sizeLine_eq]; omega) ?_
  try refine wpAny_bind (wpAny_pure ?_)
  rw [e]
  dsimp only
  refine wpAny_bind ?_
  refine wp_if_neg (by rw [s2]; simp) ?_
  try refine wpAny_bind (wpAny_pure ?_)
  refine wpAny_pure ?_
  dsimp only
  refine wpAny_storeSet_of ho hd ?_ (by rw [s2, sz, sizeLine_eq]; omega)
  have sb : Heap.SameBut c s.heap (s.heap.update c (Obj.putSet (ord.filterMap (en[·]?)) tb')) := Heap.SameBut.update ..
  exact q _ ps2 (ord.filterMap (en[·]?)) (ee + 1) tb' sb ⟨⟨_, store_at ho hd, ⟨hex.1, hex.2.1, hex.2.2⟩, rfl⟩, r1, T, (r2.map (·.2)).nodup_iff.mpr nd, fun p hp => isN_beside (ks p (r2.mem_iff.mp hp)) ho hd sb, by rw [el]; exact ld, by rw [r2.length_eq, em]; exact w4, by rw [r2.length_eq]; exact few⟩ r2
/-- one more -/
theorem addN (R : SetN P w s.heap c ps en ee tb) {x : Addr} {k : NestedKey} (hx : IsN P w s.heap k x) (hu : A.units + 8 < cLine) (hsm : k ∉ ps.map (·.2) → ps.length ≤ 59) {Q : Bool → Shared → Prop}
    (q : ∀ b hp' ps' en' ee' tb', Heap.SameBut c s.heap hp' → SetN P w hp' c ps' en' ee' tb' → (k ∈ ps.map (·.2) → ps' = ps) → (k ∉ ps.map (·.2) → ps'.Perm ((x, k) :: ps)) → Q b { s with heap := hp' }) :
    wpAny (model P w) A (setAddHashed c (.ref x) (k.hash w)) Q E s := by
  obtain ⟨o, ho, hex, hd⟩ := R.obj
  have z1 := R.size
  have z2 := R.room
  unfold setAddHashed
  refine wpAny_holding ?_
  rw [show (100000 : Nat) = 99999 + 1 from rfl, L2.setAddHashedIn_succ]
  refine wpAny_bind (wpAny_setState_of ho hd R.fits ?_)
  dsimp only
  refine wp_if_neg (by simp [byScan, Value.scannable]) ?_
  try refine wpAny_bind (wpAny_pure ?_)
  refine wpAny_bind (searchN R hx hu (fun hm => ?_) fun m hm hfree hfull => ?_)
  · dsimp only
    exact wpAny_pure (q false s.heap ps en ee tb (Heap.SameBut.refl c s.heap) R (fun _ => rfl) fun z => absurd hm z)
  · dsimp only
    have hsm := hsm hm
    refine wpAny_bind (wpAny_setState_of ho hd R.fits ?_)
    dsimp only
    obtain ⟨p1, p2, p3, p4, p5, p6, p7, p8, p9⟩ := R.tok.put hfree hfull
    generalize hpt : tb.put (way tb.mask (k.hash w) m) = pt at p1 p3 p4 p5 p6 p7 p8 p9 ⊢
    obtain ⟨tb1, i⟩ := pt
    dsimp only at p1 p3 p4 p5 p6 p7 p8 p9 ⊢
    subst p1
    have hin : (SetTable.insertAt en (SetTable.below tb.place (way tb.mask (k.hash w) m)) (k.hash w, Value.ref x)).toList = nrows w (ps.take (SetTable.below tb.place (way tb.mask (k.hash w) m)) ++ (x, k) :: ps.drop (SetTable.below tb.place (way tb.mask (k.hash w) m))) := by
      rw [SetTable.toList_insertAt, nrows_put, R.rws]
    generalize SetTable.below tb.place (way tb.mask (k.hash w) m) = i at p2 p3 hin ⊢
    have pm := put_perm ps i (x, k)
    have hlen : (ps.take i ++ (x, k) :: ps.drop i).length = ps.length + 1 := pm.length_eq
    have hhs : (ps.take i ++ (x, k) :: ps.drop i).map (fun p => p.2.hash w) = (ps.map fun p => p.2.hash w).take i ++ k.hash w :: (ps.map fun p => p.2.hash w).drop i := by
      simp only [List.map_append, List.map_cons, List.map_take, List.map_drop]
    rw [← hhs] at p3
    have nd1 : ((ps.take i ++ (x, k) :: ps.drop i).map (·.2)).Nodup := by
      refine (pm.map (·.2)).nodup_iff.mpr ?_
      rw [List.map_cons]
      exact List.nodup_cons.mpr ⟨hm, R.dis⟩
    have hes : (SetTable.insertAt en i (k.hash w, Value.ref x)).size = ps.length + 1 := by
      rw [← Array.length_toList, hin, nrows, List.length_map, hlen]
    generalize SetTable.insertAt en i (k.hash w, Value.ref x) = en1 at hin hes ⊢
    generalize ps.take i ++ (x, k) :: ps.drop i = ps1 at pm hlen p3 nd1 hin
    have goal : ∀ tb2 : SetTable, TabOk tb2 (ps1.map fun p => p.2.hash w) → tb2.mask = tb.mask → tb2.led = tb.led → tb2.fill = ps.length + 1 →
        wpAny (model P w) A (storeSet c en1 tb2 >>= fun _ => if (!false && tb2.tooFull) = true then (do setRelay c (SetTable.grown (en.size + 1)); pure true) else pure true) Q E s := fun tb2 t1 t2 t3 t4 => by
      refine wpAny_bind ?_
      refine wpAny_storeSet_of ho hd ?_ (by rw [hes, sizeLine_eq]; omega)
      have sb : Heap.SameBut c s.heap (s.heap.update c (Obj.putSet en1 tb2)) := Heap.SameBut.update ..
      have ho1 := store_at (es' := en1) (t' := tb2) ho hd
      generalize s.heap.update c (Obj.putSet en1 tb2) = hp1 at sb ho1 ⊢
      have keys1 : ∀ p ∈ ps1, IsN P w hp1 p.2 p.1 := fun p hp => by
        rcases List.mem_cons.mp (pm.mem_iff.mp hp) with e | hp
        · rw [e]; exact isN_beside hx ho hd sb
        · exact isN_beside (R.ek p hp) ho hd sb
      have ld1 : w.params.followText "set-order" = true ∨ tb2.led = true := by rw [t3]; exact R.ld
      by_cases hf : tb2.tooFull = true
      · have full : (ps.length + 1) * 5 ≥ tb.mask * 3 := by
          have h := hf
          unfold SetTable.tooFull at h
          rw [decide_eq_true_eq, t4, t2] at h
          exact h
        have two : (tb.mask = 7 ∧ ps.length = 4) ∨ (tb.mask = 31 ∧ ps.length = 18) := by
          rcases R.tok.mok with e | e | e
          · left; rw [e] at full z2; exact ⟨e, by omega⟩
          · right; rw [e] at full z2; exact ⟨e, by omega⟩
          · exfalso; rw [e] at full; omega
        have at1 : tb2.place.size = en1.size := by
          have h := t1.sz
          rw [List.length_map, hlen] at h
          rw [h, hes]
        refine wp_if_pos (by rw [hf]; rfl) ?_
        rw [z1]
        have lay : ∀ W : Nat, SetTable.sizeAbove (SetTable.grown (ps.length + 1)) - 1 = W → MaskOk W → SetTable.sizeAbove (SetTable.grown (ps.length + 1)) ≤ 128 → (ps.length + 1) * 5 < W * 3 →
            wpAny (model P w) A (do setRelay c (SetTable.grown (ps.length + 1)); pure true) Q E { s with heap := hp1 } := fun W w1 w2 w3 w4 => by
          refine wpAny_bind (relayN (s := { s with heap := hp1 }) ho1 ⟨hex.1, hex.2.1, hex.2.2⟩ rfl hin at1 t1.dm (by rw [hes, t2]; rcases two with ⟨e, e2⟩ | ⟨e, e2⟩ <;> omega) nd1 keys1 ld1 (by rw [hlen]; omega) w1 w2 w3 (by rw [hlen]; exact w4) ?_)
          intro hp2 ps2 en2 ee2 tb3 sb2 R2 pm2
          exact wpAny_pure (q true hp2 ps2 en2 ee2 tb3 (sb.trans sb2) R2 (fun z => absurd z hm) fun _ => pm2.trans pm)
        rcases two with ⟨_, e2⟩ | ⟨_, e2⟩
        · exact lay 31 (by rw [e2, size_20]) (.inr (.inl rfl)) (by rw [e2, size_20]; decide) (by omega)
        · exact lay 127 (by rw [e2, size_76]) (.inr (.inr rfl)) (by rw [e2, size_76]; decide) (by omega)
      · have nf : tb2.tooFull = false := by simpa using hf
        have rest : ps1.length * 5 < tb2.mask * 3 := by
          have h := nf
          unfold SetTable.tooFull at h
          rw [decide_eq_false_iff_not, t4, t2] at h
          rw [hlen, t2]
          omega
        refine wp_if_neg (by rw [nf]; decide) ?_
        exact wpAny_pure (q true hp1 ps1 en1 (ee + 1) tb2 sb ⟨⟨_, ho1, ⟨hex.1, hex.2.1, hex.2.2⟩, rfl⟩, hin, t1, nd1, keys1, ld1, rest, by rw [hlen]; omega⟩ (fun z => absurd z hm) fun _ => pm)
    rw [List.length_map] at p9
    have t7 : tb1.mask = tb.mask := p4
    by_cases hpl : tb1.plain = true
    · refine wp_if_pos hpl ?_
      refine wpAny_bind (byA_key _ _ 8 _ hx.1 hx.2 _ _ _ fun r => ?_)
      cases r
      · exact goal { tb1 with plain := false } ⟨p3.ris, p3.dm, p3.sz, p3.mok, p3.bd, p3.reach⟩ t7 p5 p9
      · exact goal tb1 p3 t7 p5 p9
    · refine wp_if_neg hpl ?_
      refine wpAny_bind (wpAny_pure ?_)
      exact goal tb1 p3 t7 p5 p9
/-! ### set(list) -/
/-- what the set has of the first i -/
structure GotN (ks : List (Addr × NestedKey)) (i : Nat) (ps : List (Addr × NestedKey)) : Prop where
  sub : ∀ p ∈ ps, p ∈ ks.take i
  all : ∀ p ∈ ks.take i, p.2 ∈ ps.map (·.2)
theorem gotN_same {ks ps : List (Addr × NestedKey)} {i : Nat} {p : Addr × NestedKey} (g : GotN ks i ps) (h : ks[i]? = some p) (hm : p.2 ∈ ps.map (·.2)) : GotN ks (i + 1) ps := by
  have et : ks.take (i + 1) = ks.take i ++ [p] := by rw [List.take_add_one, h]; rfl
  constructor
  · intro r hr
    rw [et]
    exact List.mem_append_left _ (g.sub r hr)
  · intro r hr
    rw [et, List.mem_append, List.mem_singleton] at hr
    rcases hr with hr | rfl
    · exact g.all r hr
    · exact hm
theorem gotN_more {ks ps ps' : List (Addr × NestedKey)} {i : Nat} {p : Addr × NestedKey} (g : GotN ks i ps) (h : ks[i]? = some p) (pm : ps'.Perm (p :: ps)) : GotN ks (i + 1) ps' := by
  have et : ks.take (i + 1) = ks.take i ++ [p] := by rw [List.take_add_one, h]; rfl
  constructor
  · intro r hr
    rw [et, List.mem_append, List.mem_singleton]
    rcases List.mem_cons.mp (pm.mem_iff.mp hr) with rfl | hr
    · exact .inr rfl
    · exact .inl (g.sub r hr)
  · intro r hr
    rw [(pm.map (·.2)).mem_iff, List.map_cons, List.mem_cons]
    rw [et, List.mem_append, List.mem_singleton] at hr
    rcases hr with hr | rfl
    · exact .inr (g.all r hr)
    · exact .inl rfl
theorem short_of {α : Type} [DecidableEq α] : ∀ {l D : List α}, l.Nodup → (∀ x ∈ l, x ∈ D) → l.length ≤ D.length
  | [], _, _, _ => Nat.zero_le _
  | x :: l, D, hn, hs => by
    rw [List.nodup_cons] at hn
    have hx := hs x List.mem_cons_self
    have := short_of (l := l) (D := D.erase x) hn.2 fun y hy => (List.mem_erase_of_ne (by intro e; subst e; exact hn.1 hy)).mpr (hs y (List.mem_cons_of_mem _ hy))
    rw [List.length_erase_of_mem hx] at this
    have := List.length_pos_of_mem hx
    rw [List.length_cons]
    omega
theorem SetN.carry {hp hp' : Heap} (R : SetN P w hp c ps en ee tb) (ha : ∀ o, hp.get? c = some o → hp'.get? c = some o) (ht : ∀ p ∈ ps, IsN P w hp' p.2 p.1) : SetN P w hp' c ps en ee tb :=
  ⟨let ⟨o, ho, r⟩ := R.obj; ⟨o, ha o ho, r⟩, R.rws, R.tok, R.dis, ht, R.ld, R.room, R.few⟩
theorem setN_new {hp : Heap} (ho : hp.get? c = some { cls := .type "set", dict := none, data := .set #[] 0 (.fresh 0 0 (!w.params.followText "set-order")) }) : SetN P w hp c [] #[] 0 (.fresh 0 0 (!w.params.followText "set-order")) := by
  refine ⟨⟨_, ho, ⟨rfl, rfl, rfl⟩, rfl⟩, rfl, ⟨List.Pairwise.nil, rfl, rfl, .inl rfl, fun x hx => (by cases hx), fun i h j hi => (by simp at hi)⟩, List.nodup_nil, fun p hp => (by cases hp), ?_, (show 0 < 7 * 3 by decide), by simp⟩
  show _ ∨ (!w.params.followText "set-order") = true
  cases w.params.followText "set-order"
  · exact .inr rfl
  · exact .inl rfl
/-- the loop that takes one item after another -/
theorem fillN {I : Addr} {fp wr : List Addr} {G : Array GenState → Array GenState → Prop} {n : Nat} {Pv : Nat → Value → Prop} {St : Nat → Shared → Prop} {R : Result → Shared → Prop}
    (W : WalksS P w A.in1 I fp wr G n Pv St) (S : Addr) (outside : S ∉ fp) (ks : List (Addr × NestedKey)) (D : List NestedKey) (hn : n = ks.length) (hD : D.length ≤ 60) (hks : ∀ p ∈ ks, p.2 ∈ D) (val : ∀ i v, Pv i v → ∃ p, ks[i]? = some p ∧ v = .ref p.1)
    (h0 : Heap) (key0 : ∀ p ∈ ks, IsN P w h0 p.2 p.1) (S0 : h0.get? S = none) (w0 : ∀ b ∈ wr, h0.get? b = none) (hu : A.in1.units + 8 < cLine) :
    ∀ (left i : Nat) (s : Shared), n - i = left → i ≤ n → St i s → (∀ b o, h0.get? b = some o → s.heap.get? b = some o) → (∃ ps en ee tb, SetN P w s.heap S ps en ee tb ∧ GotN ks i ps) →
      (∀ s' ps en ee tb, Moved (S :: wr) G s s' → SetN P w s'.heap S ps en ee tb → GotN ks n ps → (∀ b o, h0.get? b = some o → s'.heap.get? b = some o) → R (.ok (.ret .none)) s') →
      codeAny (model P w) A (.builtin "set.update.loop" ⟨[.ref S, .ref I], []⟩) R s := by
  have offW : S ∉ wr := fun z => outside (W.sub _ z)
  have wide : ∀ b ∈ wr, b ∈ S :: wr := fun b hb => List.mem_cons_of_mem _ hb
  have still : ∀ {s s' : Shared}, Moved wr G s s' → (∀ b o, h0.get? b = some o → s.heap.get? b = some o) → ∀ b o, h0.get? b = some o → s'.heap.get? b = some o := fun mv hk b o e =>
    mv.heap b o (fun hb => by rw [w0 b hb] at e; cases e) (hk b o e)
  intro left
  induction left with
  | zero =>
    intro i s hleft hi hst hk ⟨ps, en, ee, tb, RS, g⟩ fin
    obtain rfl : i = n := by omega
    refine codeAny_builtin F.entry_set_update_loop ?_
    rw [Around.under_plainId F.plain_set_update_loop _]
    show wpAny _ A.in1 (pyNext (.ref I) >>= _) _ _ s
    refine wpAny_bind (W.done s _ _ hst fun s' mv => ?_)
    have hk' := still mv hk
    exact wpAny_pure (fin s' ps en ee tb (mv.mono wide) (RS.carry (fun o e => mv.heap S o offW e) fun p hp => isN_stays (key0 p (List.mem_of_mem_take (g.sub p hp))) hk') g hk')
  | succ left ih =>
    intro i s hleft hi hst hk ⟨ps, en, ee, tb, RS, g⟩ fin
    have hlt : i < n := by omega
    refine codeAny_builtin F.entry_set_update_loop ?_
    rw [Around.under_plainId F.plain_set_update_loop _]
    show wpAny _ A.in1 (pyNext (.ref I) >>= _) _ _ s
    refine wpAny_bind (W.item i s _ _ hlt hst fun v s' hPv hst' mv => ?_)
    obtain ⟨p, hp, rfl⟩ := val i v hPv
    have hk' := still mv hk
    have RS' : SetN P w s'.heap S ps en ee tb := RS.carry (fun o e => mv.heap S o offW e) fun q hq => isN_stays (key0 q (List.mem_of_mem_take (g.sub q hq))) hk'
    have hx : IsN P w s'.heap p.2 p.1 := isN_stays (key0 p (List.mem_of_getElem? hp)) hk'
    show wpAny _ A.in1 (holding [Value.ref p.1] (setAdd S (.ref p.1)) >>= _) _ _ s'
    refine wpAny_bind (wpAny_holding ?_)
    unfold setAdd
    refine wpAny_holding ?_
    refine wpAny_bind ((nestedKind P w).pyHash hu hx ?_)
    have room : p.2 ∉ ps.map (·.2) → ps.length ≤ 59 := fun z => by
      have nd : (p.2 :: ps.map (·.2)).Nodup := List.nodup_cons.mpr ⟨z, RS.dis⟩
      have := short_of (D := D) nd fun x hx => by
        rcases List.mem_cons.mp hx with rfl | hx
        · exact hks p (List.mem_of_getElem? hp)
        · obtain ⟨q, hq, rfl⟩ := List.mem_map.mp hx
          exact hks q (List.mem_of_mem_take (g.sub q hq))
      rw [List.length_cons, List.length_map] at this
      omega
    refine addN (s := { s' with toks := s'.toks + (nestedKind P w).draws p.2 }) RS' hx hu room fun b hp' ps' en' ee' tb' sb RS2 c1 c2 => ?_
    have g' : GotN ks (i + 1) ps' := by
      by_cases z : p.2 ∈ ps.map (·.2)
      · rw [c1 z]; exact gotN_same g hp z
      · exact gotN_more g hp (c2 z)
    have hk2 : ∀ b o, h0.get? b = some o → hp'.get? b = some o := fun b o e => (sb.2 b (fun z => by rw [z, S0] at e; cases e)).trans (hk' b o e)
    refine wpAny_pure ⟨plainId_quiet F.plain_set_update_loop _, ih (i + 1) _ (by omega) hlt (W.frame _ s' _ _ hst' (Nat.le_add_right _ _) fun b hb o e => ?_) hk2 ⟨ps', en', ee', tb', RS2, g'⟩ fun s'' ps2 en2 ee2 tb2 mv2 RS3 g3 hk3 => ?_⟩
    · have : b ≠ S := fun z => outside (z ▸ hb)
      rw [sb.2 b this]; exact e
    · refine fin s'' ps2 en2 ee2 tb2 (Moved.trans W.gtrans ((mv.mono wide).then_heap (Nat.le_add_right _ _) fun b o hb e => ?_) mv2) RS3 g3 hk3
      have : b ≠ S := fun z => hb (by rw [z]; exact List.mem_cons_self)
      rw [sb.2 b this]; exact e
set_option maxHeartbeats 3200000 in
/-- set(list) -/
theorem call_setN {l : Addr} {items : Array Value} (ks : List (Addr × NestedKey)) (D : List NestedKey) {Q : Value → Shared → Prop} (hh : A.handled = none) (hl : s.heap.IsList l items) (hit : items.toList = ks.map fun p => Value.ref p.1)
    (hk : ∀ p ∈ ks, IsN P w s.heap p.2 p.1) (hD : D.length ≤ 60) (hks : ∀ p ∈ ks, p.2 ∈ D) (hu : A.units + 20 < cLine)
    (fin : ∀ (hp : Heap) (tk : Nat) ps en ee tb, SetN P w hp s.heap.objs.size ps en ee tb → GotN ks ks.length ps → (∀ b o, s.heap.get? b = some o → hp.get? b = some o) → Q (.ref s.heap.objs.size) { s with heap := hp, toks := tk }) :
    wpAny (model P w) A (call (.type "set") [.ref l]) Q E s := by
  have isz : items.size = ks.length := by rw [← Array.length_toList, hit, List.length_map]
  obtain ⟨kls, tl, hmro⟩ := F.called_set.mro
  have hmade := F.called_set.made
  have hsub := F.called_set.sub
  refine wpAny_call (codeAny_of_tree ?_)
  show wpAny _ _ (callAny (.type "set") _) _ _ _
  refine wpAny_pure ⟨Code.quiet_builtin _ (by decide +kernel), codeAny_builtin F.entry_type_call ?_⟩
  rw [Around.under_plain (weight_type_call_type "set" [.ref l] []) rfl]
  have a1 := F.called_set.notType
  have a2 := F.called_set.canCreate
  have a3 := F.typeCall_set_1 (.ref l)
  repeat (any_goals (first | assumption | wp_step))
  refine codeAny_mono (code_set_led1 (.ref l) (E := E) (Q₁ := fun obj s1 => obj = .ref s.heap.objs.size ∧ s1 = { s with heap := s.heap.push { cls := .type "set", dict := none, data := .set #[] 0 (.fresh 0 0 (!w.params.followText "set-order")) } }) ⟨rfl, rfl⟩) fun r s1 hr => ?_
  cases r with
  | error e => exact hr
  | ok fl =>
    cases fl with
    | ret obj =>
      obtain ⟨rfl, rfl⟩ := hr
      have hS : (s.heap.push { cls := .type "set", dict := none, data := .set #[] 0 (.fresh 0 0 (!w.params.followText "set-order")) }).get? s.heap.objs.size = some { cls := .type "set", dict := none, data := .set #[] 0 (.fresh 0 0 (!w.params.followText "set-order")) } := Heap.get?_push_size _ rfl
      have hT : Shared.TypeIs { s with heap := s.heap.push { cls := .type "set", dict := none, data := .set #[] 0 (.fresh 0 0 (!w.params.followText "set-order")) } } (.ref s.heap.objs.size) "set" := ⟨_, hS, rfl⟩
      have hli := F.called_set.init.lookup
      have hbi := F.called_set.init.bind (.ref s.heap.objs.size)
      repeat (any_goals (first | assumption | wp_step))
      refine codeAny_mono (codeAny_call_builtin (R := wants (fun r s2 => r = .none ∧ ∃ hp tk ps en ee tb, s2 = { s with heap := hp, toks := tk } ∧ SetN P w hp s.heap.objs.size ps en ee tb ∧ GotN ks ks.length ps ∧
          (∀ b o, s.heap.get? b = some o → hp.get? b = some o)) E) F.called_set.init.plain F.entry_set_init (check_set_init_1 hT ?_)) fun r2 s2 hr2 => ?_
      · obtain ⟨ol, hol, hcl, nl, hdl⟩ := hl
        obtain ⟨ocls, odict, odata, oslots⟩ := ol
        simp only at hcl hdl
        subst hcl; subst hdl
        have hol2 : (s.heap.push { cls := .type "set", dict := none, data := .set #[] 0 (.fresh 0 0 (!w.params.followText "set-order")) }).get? l = some { cls := .type "list", dict := odict, data := .seq items nl, slots := oslots } := Heap.get?_push_of_some _ hol
        have b1 := F.sub_list_set
        have b2 := F.sub_list_frozenset
        have b3 : (Value.type "list" == Value.type "dict") = false := by decide
        have list1 : (s.heap.push { cls := .type "set", dict := none, data := .set #[] 0 (.fresh 0 0 (!w.params.followText "set-order")) }).IsList l items := ⟨_, hol2, rfl, nl, rfl⟩
        unfold Builtin.«set.__init__» noKeywords Builtin.Frozenset.updateFrom
        generalize hPI : pyIter = PI
        wp_walk
        subst hPI
        refine wpAny_pyIter_list (s := { s with heap := s.heap.push { cls := .type "set", dict := none, data := .set #[] 0 (.fresh 0 0 (!w.params.followText "set-order")) } }) list1 ?_
        refine wpAny_bind (wpAny_runValue ?_)
        have lS : l < s.heap.objs.size := Heap.lt_size hol
        have hh3 : A.in1.in1.in1.handled = none := by simp [hh]
        have sz1 : (s.heap.push { cls := .type "set", dict := none, data := .set #[] 0 (.fresh 0 0 (!w.params.followText "set-order")) }).objs.size = s.heap.objs.size + 1 := Heap.size_push ..
        have neI : l ≠ (s.heap.push { cls := .type "set", dict := none, data := .set #[] 0 (.fresh 0 0 (!w.params.followText "set-order")) }).objs.size := by rw [sz1]; exact Nat.ne_of_lt (Nat.lt_succ_of_lt lS)
        have offS : s.heap.objs.size ∉ [(s.heap.push { cls := .type "set", dict := none, data := .set #[] 0 (.fresh 0 0 (!w.params.followText "set-order")) }).objs.size, l] := by
          rw [sz1]
          simp only [List.mem_cons, List.not_mem_nil, or_false, not_or]
          refine ⟨?_, ?_⟩
          · exact Nat.ne_of_lt (Nat.lt_succ_self _)
          · exact Nat.ne_of_gt lS
        have val : ∀ (i : Nat) (v : Value), items[i]? = some v → ∃ p, ks[i]? = some p ∧ v = .ref p.1 := fun i v hv => by
          rw [← Array.getElem?_toList, hit, List.getElem?_map] at hv
          obtain ⟨p, hp, e⟩ := Option.map_eq_some_iff.mp hv
          exact ⟨p, hp, e.symm⟩
        have none_at : ∀ b, s.heap.objs.size ≤ b → s.heap.get? b = none := fun b hb => by
          cases z : s.heap.get? b with
          | none => rfl
          | some o => exact absurd (Nat.lt_of_lt_of_le (Heap.lt_size z) hb) (Nat.lt_irrefl b)
        refine fillN ((Walks.list hh3 _ l neI items).toS) s.heap.objs.size offS ks D isz hD hks val s.heap hk (none_at _ (Nat.le_refl _)) (fun b hb => none_at b (by
            rw [List.mem_singleton.mp hb, sz1]
            exact Nat.le_succ _)) (by simp only [Around.in1_units]; omega) (items.size - 0) 0 _ (by omega) (Nat.zero_le _)
          ⟨⟨_, Heap.get?_push_size _ rfl, rfl, rfl⟩, (list1.push _)⟩ (fun b o e => Heap.get?_push_of_some _ (Heap.get?_push_of_some _ e)) ?start ?stop
        case start =>
          exact ⟨[], #[], 0, _, setN_new (Heap.get?_push_of_some _ hS), fun p hp => (by cases hp), fun p hp => (by simp at hp)⟩
        case stop =>
          intro s' ps en ee tb mv RS g hk'
          obtain ⟨hp, g2, d2, tk2, os2⟩ := s'
          have eg : g2 = s.gens := mv.gens
          have ed : d2 = s.drawn := mv.drawn
          have eo : os2 = s.os := mv.os
          subst eg; subst ed; subst eo
          show wpAny _ _ _ _ _ _
          refine wpAny_pure ?_
          show wpAny _ _ (ret Value.none) _ _ _
          rw [isz] at g
          exact wpAny_pure ⟨rfl, hp, tk2, ps, en, ee, tb, rfl, RS, g, hk'⟩
      · cases r2 with
        | error e => exact hr2
        | ok fl2 =>
          cases fl2 with
          | ret r =>
            obtain ⟨rfl, hp, tk, ps, en, ee, tb, rfl, RS, g, hk'⟩ := hr2
            repeat (any_goals (first | assumption | wp_step))
            exact fin _ _ _ _ _ _ RS g hk'
          | _ => exact hr2.elim
    | _ => exact hr.elim
mutual
theorem reads_at {hp : Heap} : ∀ (d : PyData) (v : Value) (as : List Addr), PySem.W.alike d d = true → Reads hp v d as → ∀ b ∈ as, ∃ o, hp.get? b = some o
  | .none, _, _, _, r, b, hb => by cases r; cases hb
  | .bool _, _, _, _, r, b, hb => by cases r; cases hb
  | .int _, _, _, _, r, b, hb => by cases r; cases hb
  | .str _, _, _, _, r, b, hb => by cases r; cases hb
  | .list xs, _, _, al, r, b, hb => by
    cases r with
    | list h1 h2 h3 h4 =>
      rcases List.mem_cons.mp hb with rfl | hb
      · exact ⟨_, h1⟩
      · exact reads_all_at xs _ _ (by simpa [PySem.W.alike] using al) h4 b hb
  | .tuple xs, _, _, al, r, b, hb => by
    cases r with
    | tuple h1 h2 h3 h4 => exact reads_all_at xs _ _ (by simpa [PySem.W.alike] using al) h4 b hb
  | .dict _, _, _, al, _, _, _ => absurd al (by simp [PySem.W.alike])
theorem reads_all_at {hp : Heap} : ∀ (ds : List PyData) (vs : List Value) (as : List Addr), PySem.W.alikeAll ds ds = true → ReadsAll hp vs ds as → ∀ b ∈ as, ∃ o, hp.get? b = some o
  | [], _, _, _, r, b, hb => by cases r; cases hb
  | d :: ds, _, _, al, r, b, hb => by
    rw [PySem.W.alikeAll, Bool.and_eq_true] at al
    cases r with
    | cons h1 h2 =>
      rcases List.mem_append.mp hb with hb | hb
      · exact reads_at d _ _ al.1 h1 b hb
      · exact reads_all_at ds _ _ al.2 h2 b hb
end
end
end BF

set_option Elab.async false
set_option linter.all false
set_option autoImplicit false
set_option maxRecDepth 100000
/-! sorted(set(list)) of nested tuples, one rule. -/
namespace BF
open PySem PySem.Spec
open PyProof.Rows L2
section
variable {P : Program} {w : World} {A : Around} {E : Value → Shared → Prop} {s : Shared}
variable {c : Addr} {ps : List (Addr × NestedKey)} {en : Array (Int × Value)} {ee : Nat} {tb : SetTable}
theorem refs_perm {ps : List (Addr × NestedKey)} : ∀ {vs : List Value}, (∀ v ∈ vs, ∃ q ∈ ps, v = Value.ref q.1) → ∃ qs : List (Addr × NestedKey), vs = qs.map (fun q => Value.ref q.1) ∧ ∀ q ∈ qs, q ∈ ps
  | [], _ => ⟨[], rfl, fun _ h => (by cases h)⟩
  | v :: vs, h => by
    obtain ⟨q, hq, e⟩ := h v List.mem_cons_self
    obtain ⟨qs, e1, h1⟩ := refs_perm fun u hu => h u (List.mem_cons_of_mem _ hu)
    exact ⟨q :: qs, by rw [List.map_cons, e, e1], fun r hr => (List.mem_cons.mp hr).elim (fun z => z ▸ hq) (h1 r)⟩
theorem refs_in : ∀ {us : List Value} {qs : List (Addr × NestedKey)}, PySem.W.EachIs (fun u (q : Addr × NestedKey) => u = Value.ref q.1) us qs → us = qs.map fun q => Value.ref q.1
  | _, [], h => by cases h; rfl
  | _, _ :: _, h => by
    cases h with
    | cons h1 h2 => rw [List.map_cons, h1, refs_in h2]
theorem refs_out {R : Value → Addr × NestedKey → Prop} : ∀ (qs : List (Addr × NestedKey)), (∀ q ∈ qs, R (.ref q.1) q) → PySem.W.EachIs R (qs.map fun q => Value.ref q.1) qs
  | [], _ => .nil
  | q :: qs, h => .cons (h q List.mem_cons_self) (refs_out qs fun r hr => h r (List.mem_cons_of_mem _ hr))
set_option maxHeartbeats 1600000 in
/-- sorted(set) -/
theorem sort_setN (R : SetN P w s.heap c ps en ee tb) (hh : A.handled = none) (hu : A.units + 65 < cLine) (dt : Addr × NestedKey → PyData) (rd : ∀ p ∈ ps, ∃ as, Reads s.heap (.ref p.1) (dt p) as)
    (al : ∀ p ∈ ps, ∀ q ∈ ps, PySem.W.alike (dt p) (dt q) = true) (tc : (∀ p ∈ ps, ∃ x r, dt p = .tuple (x :: r)) ∨ ps.map dt = [.tuple []]) (dep : ∀ p ∈ ps, (dt p).depth ≤ 50) {Q : Value → Shared → Prop}
    (fin : ∀ s' b (n : Nat) (qs : List (Addr × NestedKey)), (∀ d o, s.heap.get? d = some o → s'.heap.get? d = some o) → s'.gens = s.gens → s'.os = s.os → s.heap.objs.size ≤ b →
      s'.heap.get? b = some (seqObj "list" (qs.map fun q => Value.ref q.1).toArray n) → qs.Perm ps → qs.Pairwise (fun p q => PySem.W.dataLe false dt p q = true) → Q (.ref b) s') :
    wpAny (model P w) A (call (.builtin "sorted") [.ref c]) Q E s := by
  obtain ⟨o, ho, hex, hd⟩ := R.obj
  have sz := R.size
  have sm := R.few
  refine Calls.call_function_entry kind_sorted plain_sorted entry_sorted (args_sorted1 _) ?_
  unfold Builtin.«sorted»
  refine wpAny_bind (m := checkCount "sorted" 1 1 _) (wpAny_pure ?_)
  refine wpAny_bind (collect_set (A := A.in1) hh ⟨o, ho, hex.1, hd⟩ R.fits (by unfold scanBound; omega) R.tok.ris R.ld fun s1 vs k1 z1 g1 o1 pm => ?_)
  have evs : en.toList.map (·.2) = ps.map fun q => Value.ref q.1 := by
    rw [R.rws, nrows, List.map_map]; rfl
  rw [evs] at pm
  obtain ⟨qs, e1, inq⟩ := refs_perm (ps := ps) (vs := vs) fun v hv => by
    obtain ⟨q, hq, e⟩ := List.mem_map.mp (pm.mem_iff.mp hv)
    exact ⟨q, hq, e.symm⟩
  subst e1
  have one : ∀ q ∈ ps, ∀ r ∈ ps, q.1 = r.1 → q = r := fun q hq r hr e => by
    have t1 := R.ek q hq
    have t2 := R.ek r hr
    rw [e] at t1
    exact Prod.ext e ((nestedKind P w).inj t1 t2)
  have nps : ps.Nodup := List.Pairwise.of_map (·.2) (fun _ _ hne e => hne (congrArg _ e)) R.dis
  have nref : (ps.map fun q => Value.ref q.1).Nodup := by
    refine List.pairwise_map.mpr (List.Pairwise.imp_of_mem (fun {q r} hq hr hne e => ?_) nps)
    injection e with e
    exact hne (one q hq r hr e)
  have nqs : qs.Nodup := List.Pairwise.of_map (fun q : Addr × NestedKey => Value.ref q.1) (fun _ _ hne e => hne (congrArg (fun q : Addr × NestedKey => Value.ref q.1) e)) (pm.nodup_iff.mpr nref)
  have pq : qs.Perm ps := (List.perm_ext_iff_of_nodup nqs nps).mpr fun q => ⟨inq q, fun hq => by
    have : Value.ref q.1 ∈ qs.map fun q => Value.ref q.1 := pm.mem_iff.mpr (List.mem_map.mpr ⟨q, hq, rfl⟩)
    obtain ⟨r, hr, e⟩ := List.mem_map.mp this
    injection e with e
    rw [← one r (inq r hr) q hq e]
    exact hr⟩
  have ql : qs.length ≤ 60 := by rw [pq.length_eq]; exact sm
  refine wpAny_bind (wpAny_newList ?_ (by rw [sizeLine_eq, List.length_map]; omega))
  have hoL : (s1.heap.push (seqObj "list" (qs.map fun q => Value.ref q.1).toArray 0)).get? s1.heap.objs.size = some (seqObj "list" (qs.map fun q => Value.ref q.1).toArray 0) := Heap.get?_push_size _ rfl
  obtain ⟨h2, hh2⟩ : ∃ h2, h2 = s1.heap.push (seqObj "list" (qs.map fun q => Value.ref q.1).toArray 0) := ⟨_, rfl⟩
  rw [← hh2] at hoL ⊢
  have keep2 : ∀ d u, s.heap.get? d = some u → h2.get? d = some u := fun d u e => by rw [hh2]; exact Heap.get?_push_of_some _ (k1 d u e)
  have rds : ∀ q ∈ qs, ∃ as, Reads h2 (.ref q.1) (dt q) as ∧ s1.heap.objs.size ∉ as := fun q hq => by
    obtain ⟨as, r⟩ := rd q (inq q hq)
    have r1 : Reads s1.heap (.ref q.1) (dt q) as := PyProof.Rows.Reads.keeps k1 r
    refine ⟨as, by rw [hh2]; exact PyProof.Rows.Reads.keeps (fun _ _ => Heap.get?_push_of_some _) r1, fun hm => ?_⟩
    obtain ⟨u, hu1⟩ := reads_at _ _ _ (al q (inq q hq) q (inq q hq)) r1 _ hm
    exact absurd (Heap.lt_size hu1) (Nat.lt_irrefl _)
  have done : ∀ out : List Value, (∃ rs : List (Addr × NestedKey), out = (rs.map fun q => Value.ref q.1) ∧ rs.Perm qs ∧ rs.Pairwise (fun p q => PySem.W.dataLe false dt p q = true)) → ∀ sh : Shared, sh.gens = s1.gens → sh.os = s1.os → sh.heap = sortedHeap h2 s1.heap.objs.size (qs.map fun q => Value.ref q.1) out.toArray → Q (.ref s1.heap.objs.size) sh := by
    rintro out ⟨rs, rfl, pr, pw⟩ sh e1 e2 e3
    obtain ⟨n, hn⟩ := sortedHeap_at (vs := qs.map fun q => Value.ref q.1) (out := (rs.map fun q => Value.ref q.1).toArray) hoL
    refine fin sh s1.heap.objs.size n rs (fun d u e => ?_) (e1.trans g1) (e2.trans o1) z1 (by rw [e3]; exact hn) (pr.trans pq) pw
    have lt := Heap.lt_size (k1 d u e)
    rw [e3, sortedHeap_old (Nat.ne_of_lt lt) (by rw [hh2, size_push']; exact Nat.lt_succ_of_lt lt)]
    exact keep2 d u e
  have hal : PySem.W.AllAlike (qs.map dt) := by
    intro d hd d' hd'
    obtain ⟨q, hq, rfl⟩ := List.mem_map.mp hd
    obtain ⟨r, hr, rfl⟩ := List.mem_map.mp hd'
    exact al q (inq q hq) r (inq r hr)
  rcases tc with tc | tc
  · refine wpAny_bind (wpAny_holding (PySem.W.list_sort_data (s := { s1 with heap := h2 }) (enc := dt) (R := fun u (q : Addr × NestedKey) => u = Value.ref q.1) hoL (refs_out qs fun _ _ => rfl) (refs_out qs rds) hal ?_ (by rw [sizeLine_eq]; omega) (fun q hq => ?_) fun out hlo eo => ?_))
    · exact .inl fun d hd => by
        obtain ⟨q, hq, rfl⟩ := List.mem_map.mp hd
        exact tc q (inq q hq)
    · have := dep q (inq q hq)
      simp only [Around.in1_units]
      omega
    · have tot : PySem.W.TotalLe (PySem.W.dataLe false dt) := PySem.W.sortLe_total _ _ _
      exact wpAny_pure ⟨_, rfl, done out ⟨qs.mergeSort (PySem.W.dataLe false dt), refs_in eo, List.mergeSort_perm _ _, PySem.W.sort_pairwise tot qs⟩ _ rfl rfl rfl⟩
  · have qd : qs.map dt = [.tuple []] := List.perm_singleton.mp (by rw [← tc]; exact pq.map dt)
    obtain ⟨q0, hq0⟩ : ∃ q0, qs = [q0] := List.length_eq_one_iff.mp (by have := congrArg List.length qd; simpa using this)
    have er2 : PySem.W.EachIs (fun v d => ∃ as, Reads h2 v (id d) as ∧ s1.heap.objs.size ∉ as) [Value.ref q0.1] [PyData.tuple []] := by
      obtain ⟨as, r1, r2⟩ := rds q0 (by rw [hq0]; exact List.mem_singleton.mpr rfl)
      rw [hq0] at qd
      have d0 : dt q0 = .tuple [] := (List.cons.inj qd).1
      rw [d0] at r1
      exact .cons ⟨as, r1, r2⟩ .nil
    obtain ⟨h3, hh3⟩ : ∃ h3, h3 = PySem.W.sortingHeap h2 s1.heap.objs.size (qs.map fun q => Value.ref q.1) := ⟨_, rfl⟩
    have er3 : PySem.W.EachIs (fun v d => ∃ as, Reads h3 v d as) [Value.ref q0.1] [PyData.tuple []] := by
      have := PySem.W.each_keepBut (h := h2) (h' := h3) (enc := id) (a := s1.heap.objs.size) (fun _ _ hb q => by rw [hh3]; exact PySem.W.sortingHeap_old hb q) (fun o q => by rw [hoL] at q; rw [← Option.some.inj q]) (by rw [← List.map_id [PyData.tuple []]] at qd; rw [← qd]; exact hal) er2
      exact this
    have so := sorts_one (prog := P) (w := w) (A := A.in1.in1) (s := { s1 with heap := h3 }) er3
    have eq0 : (qs.map fun q => Value.ref q.1) = [Value.ref q0.1] := by rw [hq0]; rfl
    rw [hh3, ← eq0] at so
    obtain ⟨z, hz'⟩ : ∃ z, PySem.W.sortVals (PySem.W.dataKind h3 [.tuple []]) false [Value.ref q0.1] [Value.ref q0.1] = [z] := List.length_eq_one_iff.mp (PySem.W.sortVals_length false rfl)
    have hm := PySem.W.sortVals_mem (κ := PySem.W.dataKind h3 [.tuple []]) false (ks := [Value.ref q0.1]) (vs := [Value.ref q0.1]) (v := z) (by rw [hz']; exact List.mem_singleton.mpr rfl)
    rw [List.mem_singleton] at hm
    refine wpAny_bind (wpAny_holding (wpAny_call_entry slot_list_sort ⟨_, hoL, rfl⟩ entry_list_sort (PySem.W.list_sort_vals (s := { s1 with heap := h2 }) (κ := PySem.W.dataKind (PySem.W.sortingHeap h2 s1.heap.objs.size (qs.map fun q => Value.ref q.1)) [.tuple []]) hoL so (by rw [eq0, sizeLine_eq]; simp) ⟨.none, rfl, ?_⟩) (args_list_sort _)))
    refine wpAny_pure ⟨_, rfl, done _ ⟨qs, ?_, List.Perm.refl _, by rw [hq0]; exact List.pairwise_singleton ..⟩ _ rfl rfl rfl⟩
    rw [eq0, ← eq0, ← hh3, eq0, hz', hm]
end
/-! ### tracked -/
def SetN0 (w : World) (hp : Heap) (c : Addr) (ps : List (Addr × NestedKey)) : Prop := ∃ (en : Array (Int × Value)) (ee : Nat) (tb : SetTable), (∃ o, hp.get? c = some o ∧ o.ExactSet ∧ o.data = .set en ee tb) ∧ en.toList = nrows w ps ∧ TabOk tb (ps.map fun p => p.2.hash w) ∧ (ps.map (·.2)).Nodup ∧
  (w.params.followText "set-order" = true ∨ tb.led = true) ∧ ps.length * 5 < tb.mask * 3 ∧ ps.length ≤ 60
def SetNO (w : World) (c : Addr) (ps : List (Addr × NestedKey)) : HO := .ext fun hp => SetN0 w hp c ps
theorem SetN.bare {P : Program} {w : World} {hp : Heap} {c : Addr} {ps : List (Addr × NestedKey)} {en : Array (Int × Value)} {ee : Nat} {tb : SetTable} (R : SetN P w hp c ps en ee tb) : SetN0 w hp c ps := ⟨en, ee, tb, R.obj, R.rws, R.tok, R.dis, R.ld, R.room, R.few⟩
theorem setNO_new {P : Program} {w : World} {H : Hp} {hp : Heap} {c : Addr} {ps : List (Addr × NestedKey)} (R : SetN0 w hp c ps) : ObjOk P w H hp c (SetNO w c ps) := by
  refine ⟨R, ?_, fun g1 g2 p k => ?_⟩
  · obtain ⟨en, ee, tb, ⟨o, ho, _⟩, _⟩ := R
    exact ⟨o, ho⟩
  · obtain ⟨en, ee, tb, ⟨o, ho, r⟩, q⟩ := (show SetN0 w g1 c ps from p)
    exact (show SetN0 w g2 c ps from ⟨en, ee, tb, ⟨o, k o ho, r⟩, q⟩)
section
variable {X : Cx}
def NK (X : Cx) (H : Hp) (v : V) (k : NestedKey) : Prop := ∃ (loc : List Addr) (w : W), Rd X.KW H loc v w ∧ keyT w = some k
theorem NK.is {pins : List (Addr × Obj)} {σ : L2.St} {H : Hp} {s : Shared} {b : Addr} {k : NestedKey} (I : Inv X pins σ H s) (h : NK X H (.ref b) k) : IsN X.prog X.w s.heap k b := by
  obtain ⟨loc, w, r, hk⟩ := h
  obtain ⟨a, e1, _, h3⟩ := nest_key I r hk (u := .ref b) rfl
  cases e1
  exact h3
theorem refs_vals : ∀ {ks : List (Addr × NestedKey)} {us : List Value}, Vals (ks.map fun p => V.ref p.1) us → us = ks.map fun p => Value.ref p.1
  | [], _, h => by cases h; rfl
  | p :: ks, _, h => by
    cases h with
    | cons h1 h2 =>
      rw [refs_vals h2, List.map_cons]
      congr 1
theorem vals_refs : ∀ (ks : List (Addr × NestedKey)), Vals (ks.map fun p => V.ref p.1) (ks.map fun p => Value.ref p.1)
  | [] => .nil
  | _ :: ks => .cons rfl (vals_refs ks)
def rSetN (X : Cx) : List V → Hp → VK → Prop := fun xs H Q => ∃ (l : Addr) (ks : List (Addr × NestedKey)) (D : List NestedKey), xs = [V.ref l] ∧ SqL X.K H l (ks.map fun p => V.ref p.1) ∧ (∀ p ∈ ks, NK X H (.ref p.1) p.2) ∧ D.length ≤ 60 ∧ (∀ p ∈ ks, p.2 ∈ D) ∧
  ∀ a ps, H a = none → (∀ p ∈ ps, p ∈ ks) → (∀ p ∈ ks, p.2 ∈ ps.map (·.2)) → (ps.map (·.2)).Nodup → Q (.ref a) (upd H a (SetNO X.w a ps))
theorem cr_setN (hc : X.calm = true) (hu : X.A.units + 65 < cLine) : CallR X (.type "set") (rSetN X) := by
  intro pins s σ H xs us Q I r h
  obtain ⟨l, ks, D, rfl, hl, hk, hD, hks, q⟩ := h
  rw [Vals.ref1 r]
  obtain ⟨its, rv, pl, hz⟩ := I.list hl
  have hn : H s.heap.objs.size = none := I.hok.fresh (Nat.le_refl _)
  refine call_setN (P := X.prog) (w := X.w) ks D (I.ok.hd hc) pl.isList (by simpa using refs_vals rv) (fun p hp => (hk p hp).is I) hD hks (by omega) fun hp tk ps en ee tb R g k => ?_
  refine ⟨.ref s.heap.objs.size, upd H s.heap.objs.size (SetNO X.w s.heap.objs.size ps), I.laid (t' := tk) k (Nat.le_refl _) (setNO_new R.bare), rfl, q _ ps hn (fun p hp => List.mem_of_mem_take (g.sub p hp)) (fun p hp => g.all p (by rw [List.take_length]; exact hp)) R.dis⟩
def rSortN (X : Cx) : List V → Hp → VK → Prop := fun vs H Q => ∃ (a : Addr) (ps : List (Addr × NestedKey)) (dt : Addr × NestedKey → PyData), vs = [V.ref a] ∧ H a = some (SetNO X.w a ps) ∧ (∀ p ∈ ps, NK X H (.ref p.1) p.2 ∧ L2.Dp X.K H (.ref p.1) (dt p)) ∧
  (∀ p ∈ ps, ∀ q ∈ ps, PySem.W.alike (dt p) (dt q) = true) ∧ ((∀ p ∈ ps, ∃ x r, dt p = .tuple (x :: r)) ∨ ps.map dt = [.tuple []]) ∧ (∀ p ∈ ps, (dt p).depth ≤ 50) ∧
  ∀ (qs : List (Addr × NestedKey)) (b : Addr), qs.Perm ps → qs.Pairwise (fun p q => PySem.W.dataLe false dt p q = true) → H b = none → Q (.ref b) (upd H b (.lst (qs.map fun q => V.ref q.1)))
theorem cr_sortN (hc : X.calm = true) (hu : X.A.units + 65 < cLine) : CallR X (.builtin "sorted") (rSortN X) := by
  intro pins s σ H vs us Q I r h
  obtain ⟨a, ps, dt, rfl, ha, hk, al, tc, dep, q⟩ := h
  obtain ⟨en, ee, tb, h1, h2, h3, h4, h5, h6, h7⟩ := (show SetN0 X.w s.heap a ps from (I.hok a _ ha).1)
  have R : SetN X.prog X.w s.heap a ps en ee tb := ⟨h1, h2, h3, h4, fun p hp => (hk p hp).1.is I, h5, h6, h7⟩
  rw [Vals.ref1 r]
  refine sort_setN R (I.ok.hd hc) hu dt (fun p hp => L2.Dp.reads I _ _ _ (hk p hp).2 rfl) al tc dep fun s' b n qs k g o hb hg pm pw => ?_
  have hlen : (qs.map fun q => V.ref q.1).length ≤ sizeLine := by rw [List.length_map, pm.length_eq, sizeLine_eq]; omega
  have hn : H b = none := I.hok.fresh hb
  have J : Inv X pins σ (upd H b (.lst (qs.map fun q => V.ref q.1))) { s with heap := s'.heap, gens := s'.gens, drawn := s'.drawn, toks := s'.toks } :=
    I.call (ch := []) (Un.laid k hb hn) (I.hok.laid k hb ⟨hlen, qs.map (fun q => Value.ref q.1), n, vals_refs qs, hg⟩) (by rw [g]; exact I.bare) (fun _ z => nomatch z)
  have e : s' = { s with heap := s'.heap, gens := s'.gens, drawn := s'.drawn, toks := s'.toks } := by
    cases s'
    cases s
    cases o
    rfl
  rw [e]
  exact ⟨.ref b, _, J, rfl, q qs b pm pw hn⟩
end
/-! ### the promise -/
structure SetOk (xs rs : List W) : Prop where
  few : rs.length ≤ 60
  to : ∀ x ∈ xs, x ∈ rs
  fro : ∀ x ∈ rs, x ∈ xs
  ok : ∀ x ∈ rs, okW 40 x = true ∧ (keyT x).isSome = true
  tc : (∀ x ∈ rs, ∃ y ys, dP x = .tuple (y :: ys)) ∨ rs = [.tup []]
  inj : ∀ x ∈ rs, ∀ y ∈ rs, keyT x = keyT y → x = y
  al : ∀ x ∈ rs, ∀ y ∈ rs, PySem.W.alike (dP x) (dP y) = true
  asc : rs.Pairwise fun x y => PySem.W.dataLe false dP x y = true ∧ PySem.W.dataLe false dP y x = false
theorem SetOk.nodup {xs rs : List W} (h : SetOk xs rs) : rs.Nodup := h.asc.imp fun {a b} ⟨h1, h2⟩ e => by
  subst e
  rw [h1] at h2; cases h2
theorem perm_of_mem {α : Type} {l m : List α} (hl : l.Nodup) (hm : m.Nodup) (h : ∀ x, x ∈ l ↔ x ∈ m) : l.Perm m := (List.perm_ext_iff_of_nodup hl hm).mpr h
theorem asc_unique {l rs : List W} (hp : l.Perm rs) (hl : l.Pairwise fun x y => PySem.W.dataLe false dP x y = true) (hr : rs.Pairwise fun x y => PySem.W.dataLe false dP x y = true ∧ PySem.W.dataLe false dP y x = false) : l = rs := by
  refine List.Perm.eq_of_pairwise (le := fun x y => PySem.W.dataLe false dP x y = true) (fun a b ha hb h1 h2 => ?_) hl (hr.imp fun h => h.1) hp
  have ha' : a ∈ rs := hp.mem_iff.mp ha
  refine Classical.byContradiction fun hne => ?_
  obtain ⟨i, hi⟩ := List.getElem?_of_mem ha'
  obtain ⟨j, hj⟩ := List.getElem?_of_mem hb
  have pw := List.pairwise_iff_getElem.mp hr
  obtain ⟨il, ei⟩ := List.getElem?_eq_some_iff.mp hi
  obtain ⟨jl, ej⟩ := List.getElem?_eq_some_iff.mp hj
  rcases Nat.lt_trichotomy i j with z | z | z
  · have := (pw i j il jl z).2
    rw [ei, ej, h2] at this; cases this
  · subst z
    exact hne (by rw [← ei, ← ej])
  · have := (pw j i jl il z).2
    rw [ei, ej, h1] at this; cases this
theorem SetOk.one {xs rs rs' : List W} (h : SetOk xs rs) (h' : SetOk xs rs') : rs = rs' :=
  asc_unique (perm_of_mem h.nodup h'.nodup fun x => ⟨fun z => h'.to x (h.fro x z), fun z => h.to x (h'.fro x z)⟩) (h.asc.imp fun z => z.1) h'.asc
open Classical in
noncomputable def pSortSet : Fn := fun ws M => match ws with
  | [.ref n] => match M[n]? with
    | some (.lst xs) => if h : ∃ rs, SetOk xs rs then some (.ref M.length, M ++ [.lst h.choose]) else none
    | _ => none
  | _ => none
theorem pSortSet_ok {M : Mem} {n : Nat} {xs rs : List W} (hM : M[n]? = some (.lst xs)) (h : SetOk xs rs) : pSortSet [.ref n] M = some (.ref M.length, M ++ [.lst rs]) := by
  have ex : ∃ rs, SetOk xs rs := ⟨rs, h⟩
  unfold pSortSet
  simp only [hM]
  rw [dif_pos ex, (ex.choose_spec).one h]
theorem keyed {K : KW} {H : Hp} {loc : List Addr} : ∀ {vs : List V} {xs : List W}, Rds K H loc vs xs → (∀ x ∈ xs, (keyT x).isSome = true) → ∃ ks : List (Addr × NestedKey), vs = ks.map (fun p => V.ref p.1) ∧ (∀ p ∈ ks, ∃ x ∈ xs, Rd K H loc (.ref p.1) x ∧ keyT x = some p.2) ∧ ∀ x ∈ xs, ∃ p ∈ ks, keyT x = some p.2
  | _, _, .nil, _ => ⟨[], rfl, fun _ h => (by cases h), fun _ h => (by cases h)⟩
  | _, _, .cons (w := x) r rs, h => by
    obtain ⟨ks, e1, h1, h2⟩ := keyed rs fun y hy => h y (List.mem_cons_of_mem _ hy)
    obtain ⟨k, hk⟩ := Option.isSome_iff_exists.mp (h x List.mem_cons_self)
    obtain ⟨_, _, ws, rfl⟩ := keyT_some hk
    cases r with
    | @tup a us _ sq rs' =>
      refine ⟨(a, k) :: ks, by rw [List.map_cons, e1], fun p hp => ?_, fun y hy => ?_⟩
      · rcases List.mem_cons.mp hp with rfl | hp
        · exact ⟨_, List.mem_cons_self, .tup sq rs', hk⟩
        · obtain ⟨y, hy, z⟩ := h1 p hp
          exact ⟨y, List.mem_cons_of_mem _ hy, z⟩
      · rcases List.mem_cons.mp hy with rfl | hy
        · exact ⟨_, List.mem_cons_self, hk⟩
        · obtain ⟨p, hp, z⟩ := h2 y hy
          exact ⟨p, List.mem_cons_of_mem _ hp, z⟩
section
variable {X : Cx}
/-- sorted(set(e)) -/
theorem r_sortSet {e : Expr} {c : CE} {p p2 pos pos2 : Pos} (hc : X.calm = true) (hu : X.A.units + 65 < cLine) (hg : Gl X "sorted") (hm : X.mg "sorted" = none) (hg2 : Gl X "set") (hm2 : X.mg "set" = none) (ha : EV X e c)
    (n2 : starEach [e] X.env = (false, eval e X.env) :: starEach [] X.env := by rfl) (n1 : starEach [.Call (.Name "set" p2) [e] [] pos2] X.env = (false, eval (.Call (.Name "set" p2) [e] [] pos2) X.env) :: starEach [] X.env := by rfl) :
    EV X (.Call (.Name "sorted" p) [.Call (.Name "set" p2) [e] [] pos2] [] pos) (eN pSortSet [c]) := by
  have inner := pe_callTy (pos := pos2) (p := p2) (cr_setN hc hu) hg2 hm2 (by decide +kernel) (pa_cons ha pa_nil n2) (by decide) (by decide) n2 (by rfl)
  refine (pe_callB (pos := pos) (p := p) (cr_sortN hc hu) hg hm (by decide +kernel) (pa_cons inner pa_nil n1) (by decide) (by decide) n1 (by rfl)).mono fun σV H Q ⟨loc, σ, M, w, M', rel, e, aft⟩ => ?_
  obtain ⟨q, hq, e⟩ := bind_some e
  obtain ⟨r, hr, hq⟩ := bind_some hq
  obtain ⟨t, ht, hq⟩ := bind_some hq
  cases ht
  cases hq
  refine run1 rel hr fun v H1 loc1 rel1 rd1 ex1 l1 => ?_
  unfold pSortSet at e
  simp only at e
  split at e
  · rename_i n hn
    obtain ⟨hn1, _⟩ := List.cons.inj hn
    rw [hn1] at rd1
    split at e
    · rename_i xs hz
      split at e
      · rename_i ex
        obtain ⟨rs, hrs⟩ : ∃ rs, rs = ex.choose := ⟨_, rfl⟩
        have so : SetOk xs rs := hrs ▸ ex.choose_spec
        rw [← hrs] at e
        cases e
        cases rd1 with
        | @ref l _ hl =>
          have st := rel1.st
          obtain ⟨vs, q1, q2⟩ := st.ok _ _ _ hl hz
          obtain ⟨ks, rfl, k1, k2⟩ := keyed q2 fun x hx => (so.ok x (so.to x hx)).2
          refine ⟨l, ks, rs.filterMap keyT, rfl, SqL.of q1, fun p hp => ?_, Nat.le_trans (List.length_filterMap_le _ _) so.few, fun p hp => ?_, fun a ps h0 p1 p2 p3 => ?_⟩
          · obtain ⟨x, hx, rx, kx⟩ := k1 p hp
            exact ⟨loc1, x, rx, kx⟩
          · obtain ⟨x, hx, rx, kx⟩ := k1 p hp
            exact List.mem_filterMap.mpr ⟨x, so.to x hx, kx⟩
          · -- the one item of rs at each key
            have ex2 : Ext X.KW H1 (upd H1 a (SetNO X.w a ps)) := .new h0
            have at_ : ∀ p : Addr × NestedKey, ∃ x : W, p ∈ ps → x ∈ rs ∧ Rd X.KW H1 loc1 (.ref p.1) x ∧ keyT x = some p.2 := fun p => by
              by_cases hp : p ∈ ps
              · obtain ⟨x, hx, rx, kx⟩ := k1 p (p1 p hp)
                exact ⟨x, fun _ => ⟨so.to x hx, rx, kx⟩⟩
              · exact ⟨.non, fun z => absurd z hp⟩
            obtain ⟨f, hf⟩ := Classical.axiomOfChoice at_
            have rf : ∀ p ∈ ps, Rd X.KW (upd H1 a (SetNO X.w a ps)) loc1 (.ref p.1) (f p) := fun p hp => (hf p hp).2.1.mono ex2 (List.prefix_refl _)
            have st2 : Store X.KW (upd H1 a (SetNO X.w a ps)) loc1 r.2 := st.newT h0
            have nf : (ps.map f).Nodup := by
              have : ((ps.map f).map keyT).Nodup := by
                have e1 : (ps.map f).map keyT = (ps.map (·.2)).map some := by
                  rw [List.map_map, List.map_map]
                  exact List.map_congr_left fun p hp => (hf p hp).2.2
                rw [e1]
                exact List.pairwise_map.mpr (p3.imp fun hne z => hne (Option.some.inj z))
              exact List.Pairwise.of_map keyT (fun _ _ hne z => hne (congrArg _ z)) this
            have pr : (ps.map f).Perm rs := perm_of_mem nf so.nodup fun x => by
              constructor
              · intro hx
                obtain ⟨p, hp, rfl⟩ := List.mem_map.mp hx
                exact (hf p hp).1
              · intro hx
                obtain ⟨p, hp, kx⟩ := k2 x (so.fro x hx)
                obtain ⟨q, hq, eq⟩ := List.mem_map.mp (p2 p hp)
                refine List.mem_map.mpr ⟨q, hq, ?_⟩
                exact so.inj _ (hf q hq).1 _ hx (by rw [(hf q hq).2.2, kx, eq])
            have tcs : (∀ p ∈ ps, ∃ x r, dP (f p) = .tuple (x :: r)) ∨ ps.map (fun p => dP (f p)) = [.tuple []] := by
              rcases so.tc with h | h
              · exact .inl fun p hp => h _ (hf p hp).1
              · rw [h] at pr
                have e1 := List.perm_singleton.mp pr
                have e2 := congrArg (List.map dP) e1
                rw [List.map_map] at e2
                exact .inr e2
            refine ⟨a, ps, fun p => dP (f p), rfl, upd_same, fun p hp => ⟨⟨loc1, f p, rf p hp, (hf p hp).2.2⟩, (toD_ok st2 40 _ _ _ (rf p hp) (toD_P _ 40 _ (so.ok _ (hf p hp).1).1)).1⟩, fun p hp q hq => so.al _ (hf p hp).1 _ (hf q hq).1, tcs, fun p hp => ?_, fun qs b pm pw hb => ?_⟩
            · have := (toD_ok st2 40 _ _ _ (rf p hp) (toD_P _ 40 _ (so.ok _ (hf p hp).1).1)).2.2
              exact Nat.le_trans this (by decide)
            · have eq : qs.map f = rs := asc_unique ((pm.map f).trans pr) (List.pairwise_map.mpr pw) so.asc
              have rr : ∀ ts : List (Addr × NestedKey), (∀ p ∈ ts, p ∈ ps) → Rds X.KW (upd H1 a (SetNO X.w a ps)) loc1 (ts.map fun q => V.ref q.1) (ts.map f) := by
                intro ts
                induction ts with
                | nil => intro _; exact .nil
                | cons t ts ih => intro h; exact .cons (rf t (h t List.mem_cons_self)) (ih fun p hp => h p (List.mem_cons_of_mem _ hp))
              have r3 := rr qs fun p hp => pm.mem_iff.mp hp
              rw [eq] at r3
              exact aft_lst st2 r3 hb ((aft.after ex1 l1).after ex2 (List.prefix_refl _))
      · cases e
    · cases e
  · cases e
end
end BF

set_option Elab.async false
set_option linter.all false
set_option autoImplicit false
set_option maxRecDepth 100000
/-! list.count of data. -/
namespace BF
open PySem PySem.Spec
open PyProof.Rows L2
def mCount : Fn := fun ws M => match ws with
  | [.ref n, x] => match M[n]? with
    | some (.lst xs) => match mapO (toD M 60) xs, toD M 60 x with
      | some ds, some d => if PyData.plainAll ds = true ∧ d.plain = true then some (.int ((ds.countP fun y => PyData.eqv y d : Nat) : Int), M) else none
      | _, _ => none
    | _ => none
  | _ => none
def rCountD (K : PySem.W.Frag) : V → List V → Hp → VK → Prop := fun x xs H Q => ∃ (a : Addr) (y : V) (d : PyData) (vs : List V) (ds : List PyData), x = .ref a ∧ xs = [y] ∧ L2.SqL K H a vs ∧ L2.DpAll K H vs ds ∧ L2.Dp K H y d ∧ PyData.plainAll ds = true ∧ d.plain = true ∧ d.depth ≤ 60 ∧
  Q (.int ((ds.countP fun z => PyData.eqv z d : Nat) : Int)) H
theorem mt_countW {X : Cx} (hu : X.A.units + 65 < cLine) : MtR X "list.count" (rCountD X.K) := by
  intro pins s σ H x xs v us Q I rx rxs h
  obtain ⟨a, y, d, vs, ds, rfl, rfl, hl, hds, hd, p1, p2, dep, q⟩ := h
  cases rx
  cases rxs with
  | cons ry rt =>
    cases rt
    obtain ⟨bs, r1⟩ := L2.Dp.reads I d y _ hd ry
    obtain ⟨its, rv, ⟨o, n, g1, g2, _, g3⟩, hz⟩ := I.list hl
    obtain ⟨as, r2⟩ := L2.Dp.readsAll I ds _ its hds rv
    have hli : s.heap.IsList a its.toArray := ⟨o, g1, g2, n, g3⟩
    refine PySem.SeqAt.count_list_data hli (by simpa using r2) r1 p1 p2 (by have := Nat.min_le_right (PyData.depthAll ds) d.depth; omega) ?_
    exact ⟨.int _, H, I.kept (t' := s.toks + 1) (fun _ _ z => z), ⟨_, rfl⟩, q⟩
theorem m_count {K : KW} : LiftN K (fun vs H Q => ∃ v us, vs = v :: us ∧ rCountD K v us H Q) mCount := by
  intro H loc M ws vs w M' Q s r e aft
  unfold mCount at e
  split at e
  · split at e
    · rename_i zs hz
      split at e
      · rename_i ds d h1 h2
        split at e
        · rename_i hp
          cases e
          match vs, r with
          | [_, v], .cons (.ref (a := a) hn) (.cons rv .nil) =>
            obtain ⟨xs, q1, q2⟩ := s.ok _ _ _ hn hz
            obtain ⟨g1, g2⟩ := toDs_ok s q2 (mapO_get h1)
            obtain ⟨g3, _, g5⟩ := toD_ok s 60 _ _ _ rv h2
            exact ⟨_, _, rfl, a, v, d, xs, ds, rfl, rfl, SqL.of q1, g1, g3, hp.1, hp.2, g5, aft _ H loc s (.int _) .refl (List.prefix_refl _)⟩
        · cases e
      · cases e
    · cases e
  · cases e
end BF

set_option Elab.async false
set_option linter.all false
set_option autoImplicit false
set_option maxRecDepth 100000
/-! Sets of texts made of a tuple; sorted, of such a set and of a tuple of texts. -/
namespace BF
open PySem PySem.Spec
open PyProof.Rows L2
abbrev XT := Str × Tok
def xval (p : XT) : Value := .str p.1 p.2
def xrow (P : Program) (w : World) (p : XT) : Int × Value := ((PySem.strKind P w).hash p.1, xval p)
def unrow (e : Int × Value) : XT := match e.2 with
  | .str x t => (x, t)
  | _ => (Str.empty, 0)
section
variable {P : Program} {w : World} {A : Around} {E : Value → Shared → Prop} {s : Shared} {c : Addr} {ks : List XT}
theorem unrow_rows (ks : List XT) : (ks.map (xrow P w)).map unrow = ks := by
  rw [List.map_map]
  exact (List.map_congr_left fun p _ => rfl).trans (List.map_id _)
theorem rows_perm {l : List (Int × Value)} (pm : l.Perm (ks.map (xrow P w))) : ∃ ks' : List XT, l = ks'.map (xrow P w) ∧ ks'.Perm ks := by
  refine ⟨l.map unrow, ?_, ?_⟩
  · rw [List.map_map]
    refine ((List.map_congr_left fun e he => ?_).trans (List.map_id _)).symm
    obtain ⟨p, _, rfl⟩ := List.mem_map.mp (pm.mem_iff.mp he)
    rfl
  · have := pm.map unrow
    rw [unrow_rows] at this
    exact this
structure SetX (P : Program) (w : World) (hp : Heap) (c : Addr) (ks : List XT) : Prop where
  ob : ∃ o es ep t, hp.get? c = some o ∧ o.ExactSet ∧ o.data = .set es ep t ∧ es.toList = ks.map (xrow P w) ∧ t.fits es.size = true ∧ Ris t.place.toList ∧ (w.params.followText "set-order" = true ∨ t.led = true)
  nd : (ks.map (·.1)).Nodup
  few : ks.length < 4096
theorem rows_elems (ks : List XT) : ElemsOf (PySem.strKind P w) (ks.map (xrow P w)) := by
  intro e he
  obtain ⟨p, _, rfl⟩ := List.mem_map.mp he
  exact ⟨⟨p.1, strKind_is _ _ _ _, rfl⟩, rfl⟩
theorem is_text {x y : Str} {t : Tok} : (PySem.strKind P w).is x (.str y t) = true ↔ y = x := by
  simp [PySem.strKind, Value.isStrOf]
/-- behind the laying of a new text -/
theorem tailX {g : Bool → Sem Unit} (hg : ∀ (b : Bool) (s' : Shared) (Q' : Unit → Shared → Prop), Q' () s' → wpAny (model P w) A (g b) Q' E s') {o : Obj} {es : Array (Int × Value)} {ep : Nat} {t : SetTable}
    (ho : s.heap.get? c = some o) (hex : o.ExactSet) (hd : o.data = .set es ep t) {es1 : Array (Int × Value)} {t2 : SetTable} (h1 : es1.toList = ks.map (xrow P w)) (nd : (ks.map (·.1)).Nodup) (few : ks.length < 4096)
    (hf : t2.fits es1.size = true) (hr : Ris t2.place.toList) (hl : w.params.followText "set-order" = true ∨ t2.led = true) {dm : Bool} {R : Option Bool → Shared → Prop}
    (q : ∀ h' ks', Heap.SameBut c s.heap h' → SetX P w h' c ks' → ks'.Perm ks → R (some true) { s with heap := h' }) :
    wpAny (model P w) A (do
        storeSet c es1 t2
        if (!dm && t2.tooFull) = true then do
            g (relayAll t2 es1 (SetTable.grown es1.size)).2.2
            storeSet c (relayAll t2 es1 (SetTable.grown es1.size)).1 (relayAll t2 es1 (SetTable.grown es1.size)).2.1
            pure (some true)
          else pure (some true)) R E s := by
  have z1 : es1.size = ks.length := by rw [← Array.length_toList, h1, List.length_map]
  have z2 : es1.size < scanBound := by unfold scanBound; omega
  refine wpAny_bind (wpAny_storeSet_of ho hd ?_ (fits_of_scanBound z2))
  have ho1 := store_at (es' := es1) (t' := t2) ho hd
  have sb1 := Heap.SameBut.update s.heap c (Obj.putSet es1 t2)
  split
  · obtain ⟨Z, hZ⟩ : ∃ Z, Z = relayAll t2 es1 (SetTable.grown es1.size) := ⟨_, rfl⟩
    have pm := relayAll_perm t2 es1 (SetTable.grown es1.size)
    have hf3 := relayAll_fits t2 es1 (SetTable.grown es1.size)
    have hr3 := relayAll_ris t2 es1 (SetTable.grown es1.size)
    have hl3 := relayAll_led t2 es1 (SetTable.grown es1.size)
    rw [← hZ] at pm hf3 hr3 hl3 ⊢
    obtain ⟨es2, t3, gave⟩ := Z
    dsimp only at pm hf3 hr3 hl3 ⊢
    rw [h1] at pm
    obtain ⟨ks2, e2, p2⟩ := rows_perm pm
    have z3 : es2.size = ks2.length := by rw [← Array.length_toList, e2, List.length_map]
    have z4 : es2.size < scanBound := by rw [z3, p2.length_eq]; unfold scanBound; omega
    refine wpAny_bind (hg _ _ _ ?_)
    refine wpAny_bind (wpAny_storeSet_of ho1 rfl ?_ (fits_of_scanBound z4))
    have ho2 := store_at (es' := es2) (t' := t3) ho1 rfl
    exact wpAny_pure (q _ ks2 (sb1.trans (Heap.SameBut.update _ c _)) ⟨⟨_, es2, _, t3, ho2, ⟨hex.1, hex.2.1, hex.2.2⟩, rfl, e2, hf3, hr3, hl.imp id fun z => by rw [hl3]; exact z⟩, (p2.map (·.1)).nodup_iff.mpr nd, by rw [p2.length_eq]; exact few⟩ p2)
  · exact wpAny_pure (q _ ks sb1 ⟨⟨_, es1, _, t2, ho1, ⟨hex.1, hex.2.1, hex.2.2⟩, rfl, h1, hf, hr, hl⟩, nd, few⟩ (List.Perm.refl _))
/-- one more -/
theorem addX (R : SetX P w s.heap c ks) {x : Str} {tk : Tok} (room : ks.length + 1 < 4096) {Q : Bool → Shared → Prop}
    (q : ∀ b hp' ks', Heap.SameBut c s.heap hp' → SetX P w hp' c ks' → (x ∈ ks.map (·.1) → ks' = ks) → (x ∉ ks.map (·.1) → ks'.Perm ((x, tk) :: ks)) → Q b { s with heap := hp' }) :
    wpAny (model P w) A (setAddHashed c (.str x tk) ((PySem.strKind P w).hash x)) Q E s := by
  obtain ⟨o, es, ep, t, ho, hex, hd, e1, hf, hr, hl⟩ := R.ob
  have z1 : es.size = ks.length := by rw [← Array.length_toList, e1, List.length_map]
  have key : (PySem.strKind P w).is x (.str x tk) = true := strKind_is _ _ _ _
  have hel : ElemsOf (PySem.strKind P w) es.toList := by rw [e1]; exact rows_elems ks
  have z2 : es.size < scanBound := by unfold scanBound; omega
  have found : ∀ p ∈ ks, (PySem.strKind P w).is x (xval p) = true ↔ p.1 = x := fun p _ => is_text
  unfold setAddHashed setAddHashedIn
  refine wpAny_holding (wpAny_bind (wpAny_setState_of ho hd hf ?_))
  dsimp only
  rw [byScan_of (x := .str x tk) rfl z2 hel]
  simp only [↓reduceIte]
  unfold setAddByScan
  refine wpAny_bind ?_
  refine wpAny_bind (wpAny_rule ?_)
  refine wpAny_bind (wpAny_setScan_of key ho hd hf hel ?_)
  cases hfi : List.findIdx? (fun e => (PySem.strKind P w).is x e.2) es.toList with
  | some j =>
    dsimp only
    obtain ⟨hj, pj, _⟩ := List.findIdx?_eq_some_iff_getElem.mp hfi
    have inn : x ∈ ks.map (·.1) := by
      have hm : es.toList[j] ∈ ks.map (xrow P w) := by rw [← e1]; exact List.getElem_mem hj
      obtain ⟨p, hp, e⟩ := List.mem_map.mp hm
      rw [← e] at pj
      exact List.mem_map.mpr ⟨p, hp, (found p hp).mp pj⟩
    exact wpAny_pure (wpAny_pure (q false s.heap ks (Heap.SameBut.refl c s.heap) R (fun _ => rfl) fun z => absurd inn z))
  | none =>
    dsimp only
    have out : x ∉ ks.map (·.1) := fun z => by
      obtain ⟨p, hp, e⟩ := List.mem_map.mp z
      have := List.findIdx?_eq_none_iff.mp hfi (xrow P w p) (by rw [e1]; exact List.mem_map.mpr ⟨p, hp, rfl⟩)
      rw [show (xrow P w p).2 = xval p from rfl, (found p hp).mpr e] at this
      cases this
    have gw : ∀ (b : Bool) (s' : Shared) (Q' : Unit → Shared → Prop), Q' () s' → wpAny (model P w) A (match b with | true => rule "set.scan.the-table-gave-way" | false => pure ()) Q' E s' :=
      fun b s' Q' z => by cases b <;> first | exact wpAny_pure z | exact wpAny_rule z
    have pm := layNew_perm t es ((PySem.strKind P w).hash x) (.str x tk)
    have hf1 := layNew_fits t es ((PySem.strKind P w).hash x) (.str x tk)
    have hr1 := layNew_ris t es ((PySem.strKind P w).hash x) (.str x tk) hr
    have hl1 := layNew_led t es ((PySem.strKind P w).hash x) (.str x tk)
    obtain ⟨Z, hZ⟩ : ∃ Z, Z = layNew t es ((PySem.strKind P w).hash x) (.str x tk) := ⟨_, rfl⟩
    rw [← hZ] at pm hf1 hr1 hl1 ⊢
    obtain ⟨es1, t1, dm, gave⟩ := Z
    dsimp only at pm hf1 hr1 hl1 ⊢
    rw [Array.toList_push, e1] at pm
    have pm2 : es1.toList.Perm (((x, tk) :: ks).map (xrow P w)) := pm.trans (List.perm_append_singleton _ _)
    obtain ⟨ks1, r1, r2⟩ := rows_perm pm2
    have nd1 : (ks1.map (·.1)).Nodup := (r2.map (·.1)).nodup_iff.mpr (by rw [List.map_cons]; exact List.nodup_cons.mpr ⟨out, R.nd⟩)
    have few1 : ks1.length < 4096 := by rw [r2.length_eq, List.length_cons]; exact room
    have led1 : w.params.followText "set-order" = true ∨ t1.led = true := hl.imp id fun z => by rw [hl1]; exact z
    have fin : ∀ h' ks', Heap.SameBut c s.heap h' → SetX P w h' c ks' → ks'.Perm ks1 → Q true { s with heap := h' } := fun h' ks' sb r pp =>
      q true h' ks' sb r (fun z => absurd z out) fun _ => pp.trans r2
    refine wpAny_bind (gw _ _ _ ?_)
    split
    · refine wpAny_bind ?_
      rw [hashByValue_scannable 8 (x := .str x tk) rfl]
      refine wpAny_pure ?_
      refine tailX gw ho hex hd r1 nd1 few1 ?_ ?_ ?_ ?_
      · first | (split <;> first | exact hf1 | exact SetTable.fits_plain_off hf1) | exact hf1
      · first | (split <;> exact hr1) | exact hr1
      · first | (split <;> exact led1) | exact led1
      · intro h' ks' sb r pp
        dsimp only
        exact wpAny_pure (fin h' ks' sb r pp)
    · refine wpAny_bind (wpAny_pure ?_)
      simp only [↓reduceIte]
      refine tailX gw ho hex hd r1 nd1 few1 hf1 hr1 led1 ?_
      intro h' ks' sb r pp
      dsimp only
      exact wpAny_pure (fin h' ks' sb r pp)
structure GotX (xs : List Str) (i : Nat) (ks : List XT) : Prop where
  sub : ∀ p ∈ ks, p.1 ∈ xs.take i
  all : ∀ x ∈ xs.take i, x ∈ ks.map (·.1)
theorem gotX_same {xs : List Str} {i : Nat} {x : Str} (g : GotX xs i ks) (h : xs[i]? = some x) (hm : x ∈ ks.map (·.1)) : GotX xs (i + 1) ks := by
  have et : xs.take (i + 1) = xs.take i ++ [x] := by rw [List.take_add_one, h]; rfl
  constructor
  · intro p hp
    rw [et]
    exact List.mem_append_left _ (g.sub p hp)
  · intro y hy
    rw [et, List.mem_append, List.mem_singleton] at hy
    rcases hy with hy | rfl
    · exact g.all y hy
    · exact hm
theorem gotX_more {xs : List Str} {i : Nat} {x : Str} {t : Tok} {ks' : List XT} (g : GotX xs i ks) (h : xs[i]? = some x) (pm : ks'.Perm ((x, t) :: ks)) : GotX xs (i + 1) ks' := by
  have et : xs.take (i + 1) = xs.take i ++ [x] := by rw [List.take_add_one, h]; rfl
  constructor
  · intro p hp
    rw [et, List.mem_append, List.mem_singleton]
    rcases List.mem_cons.mp (pm.mem_iff.mp hp) with rfl | hp
    · exact .inr rfl
    · exact .inl (g.sub p hp)
  · intro y hy
    rw [(pm.map (·.1)).mem_iff, List.map_cons, List.mem_cons]
    rw [et, List.mem_append, List.mem_singleton] at hy
    rcases hy with hy | rfl
    · exact .inr (g.all y hy)
    · exact .inl rfl
theorem SetX.carry {hp hp' : Heap} (R : SetX P w hp c ks) (ha : ∀ o, hp.get? c = some o → hp'.get? c = some o) : SetX P w hp' c ks :=
  ⟨let ⟨o, es, ep, t, ho, r⟩ := R.ob; ⟨o, es, ep, t, ha o ho, r⟩, R.nd, R.few⟩
theorem setX_new {hp : Heap} (ho : hp.get? c = some { cls := .type "set", dict := none, data := .set #[] 0 (.fresh 0 0 (!w.params.followText "set-order")) }) : SetX P w hp c [] := by
  refine ⟨⟨_, #[], 0, _, ho, ⟨rfl, rfl, rfl⟩, rfl, rfl, rfl, List.Pairwise.nil, ?_⟩, List.nodup_nil, by simp⟩
  show _ ∨ (!w.params.followText "set-order") = true
  cases w.params.followText "set-order"
  · exact .inr rfl
  · exact .inl rfl
/-- the loop that takes one text after another -/
theorem fillX {I : Addr} {fp wr : List Addr} {G : Array GenState → Array GenState → Prop} {n : Nat} {Pv : Nat → Value → Prop} {St : Nat → Shared → Prop} {R : Result → Shared → Prop}
    (W : WalksS P w A.in1 I fp wr G n Pv St) (S : Addr) (outside : S ∉ fp) (xs : List Str) (hn : n = xs.length) (hlen : xs.length < 4000) (val : ∀ i v, Pv i v → ∃ x t, xs[i]? = some x ∧ v = .str x t)
    (h0 : Heap) (S0 : h0.get? S = none) (w0 : ∀ b ∈ wr, h0.get? b = none) :
    ∀ (left i : Nat) (s : Shared), n - i = left → i ≤ n → St i s → (∀ b o, h0.get? b = some o → s.heap.get? b = some o) → (∃ ks, SetX P w s.heap S ks ∧ GotX xs i ks) →
      (∀ s' ks, Moved (S :: wr) G s s' → SetX P w s'.heap S ks → GotX xs n ks → (∀ b o, h0.get? b = some o → s'.heap.get? b = some o) → R (.ok (.ret .none)) s') →
      codeAny (model P w) A (.builtin "set.update.loop" ⟨[.ref S, .ref I], []⟩) R s := by
  have offW : S ∉ wr := fun z => outside (W.sub _ z)
  have wide : ∀ b ∈ wr, b ∈ S :: wr := fun b hb => List.mem_cons_of_mem _ hb
  have still : ∀ {s s' : Shared}, Moved wr G s s' → (∀ b o, h0.get? b = some o → s.heap.get? b = some o) → ∀ b o, h0.get? b = some o → s'.heap.get? b = some o := fun mv hk b o e =>
    mv.heap b o (fun hb => by rw [w0 b hb] at e; cases e) (hk b o e)
  intro left
  induction left with
  | zero =>
    intro i s hleft hi hst hk ⟨ks, RS, g⟩ fin
    obtain rfl : i = n := by omega
    refine codeAny_builtin F.entry_set_update_loop ?_
    rw [Around.under_plainId F.plain_set_update_loop _]
    show wpAny _ A.in1 (pyNext (.ref I) >>= _) _ _ s
    refine wpAny_bind (W.done s _ _ hst fun s' mv => ?_)
    exact wpAny_pure (fin s' ks (mv.mono wide) (RS.carry fun o e => mv.heap S o offW e) g (still mv hk))
  | succ left ih =>
    intro i s hleft hi hst hk ⟨ks, RS, g⟩ fin
    have hlt : i < n := by omega
    refine codeAny_builtin F.entry_set_update_loop ?_
    rw [Around.under_plainId F.plain_set_update_loop _]
    show wpAny _ A.in1 (pyNext (.ref I) >>= _) _ _ s
    refine wpAny_bind (W.item i s _ _ hlt hst fun v s' hPv hst' mv => ?_)
    obtain ⟨x, t, hx, rfl⟩ := val i v hPv
    have hk' := still mv hk
    have RS' : SetX P w s'.heap S ks := RS.carry fun o e => mv.heap S o offW e
    show wpAny _ A.in1 (holding [Value.str x t] (setAdd S (.str x t)) >>= _) _ _ s'
    refine wpAny_bind (wpAny_holding ?_)
    unfold setAdd
    refine wpAny_holding ?_
    refine wpAny_bind ((PySem.strKind P w).pyHash (k := x) (strKind_is _ _ _ _) ?_)
    have room : ks.length + 1 < 4096 := by
      have h1 := short_of (D := xs.take i) RS.nd fun y hy => by
        obtain ⟨p, hp, rfl⟩ := List.mem_map.mp hy
        exact g.sub p hp
      rw [List.length_map, List.length_take] at h1
      omega
    refine addX (s := { s' with toks := s'.toks + 1 }) RS' room fun b hp' ks' sb RS2 c1 c2 => ?_
    have g' : GotX xs (i + 1) ks' := by
      by_cases z : x ∈ ks.map (·.1)
      · rw [c1 z]; exact gotX_same g hx z
      · exact gotX_more g hx (c2 z)
    have hk2 : ∀ b o, h0.get? b = some o → hp'.get? b = some o := fun b o e => (sb.2 b (fun z => by rw [z, S0] at e; cases e)).trans (hk' b o e)
    refine wpAny_pure ⟨plainId_quiet F.plain_set_update_loop _, ih (i + 1) _ (by omega) hlt (W.frame _ s' _ _ hst' (Nat.le_succ _) fun b hb o e => ?_) hk2 ⟨ks', RS2, g'⟩ fun s'' ks2 mv2 RS3 g3 hk3 => ?_⟩
    · have : b ≠ S := fun z => outside (z ▸ hb)
      rw [sb.2 b this]; exact e
    · refine fin s'' ks2 (Moved.trans W.gtrans ((mv.mono wide).then_heap (Nat.le_succ _) fun b o hb e => ?_) mv2) RS3 g3 hk3
      have : b ≠ S := fun z => hb (by rw [z]; exact List.mem_cons_self)
      rw [sb.2 b this]; exact e
set_option maxHeartbeats 3200000 in
/-- set(tuple) of texts -/
theorem call_setX {l : Addr} {items : Array Value} (xs : List Str) {Q : Value → Shared → Prop} (hh : A.handled = none) (hl : s.heap.IsTuple l items) (hit : ∀ (i : Nat) v, items[i]? = some v → ∃ x t, xs[i]? = some x ∧ v = .str x t) (isz : items.size = xs.length) (hlen : xs.length < 4000)
    (fin : ∀ (hp : Heap) (tk : Nat) ks, SetX P w hp s.heap.objs.size ks → GotX xs xs.length ks → (∀ b o, s.heap.get? b = some o → hp.get? b = some o) → Q (.ref s.heap.objs.size) { s with heap := hp, toks := tk }) :
    wpAny (model P w) A (call (.type "set") [.ref l]) Q E s := by
  obtain ⟨kls, tl, hmro⟩ := F.called_set.mro
  have hmade := F.called_set.made
  have hsub := F.called_set.sub
  refine wpAny_call (codeAny_of_tree ?_)
  show wpAny _ _ (callAny (.type "set") _) _ _ _
  refine wpAny_pure ⟨Code.quiet_builtin _ (by decide +kernel), codeAny_builtin F.entry_type_call ?_⟩
  rw [Around.under_plain (weight_type_call_type "set" [.ref l] []) rfl]
  have a1 := F.called_set.notType
  have a2 := F.called_set.canCreate
  have a3 := F.typeCall_set_1 (.ref l)
  repeat (any_goals (first | assumption | wp_step))
  refine codeAny_mono (code_set_led1 (.ref l) (E := E) (Q₁ := fun obj s1 => obj = .ref s.heap.objs.size ∧ s1 = { s with heap := s.heap.push { cls := .type "set", dict := none, data := .set #[] 0 (.fresh 0 0 (!w.params.followText "set-order")) } }) ⟨rfl, rfl⟩) fun r s1 hr => ?_
  cases r with
  | error e => exact hr
  | ok fl =>
    cases fl with
    | ret obj =>
      obtain ⟨rfl, rfl⟩ := hr
      have hS : (s.heap.push { cls := .type "set", dict := none, data := .set #[] 0 (.fresh 0 0 (!w.params.followText "set-order")) }).get? s.heap.objs.size = some { cls := .type "set", dict := none, data := .set #[] 0 (.fresh 0 0 (!w.params.followText "set-order")) } := Heap.get?_push_size _ rfl
      have hT : Shared.TypeIs { s with heap := s.heap.push { cls := .type "set", dict := none, data := .set #[] 0 (.fresh 0 0 (!w.params.followText "set-order")) } } (.ref s.heap.objs.size) "set" := ⟨_, hS, rfl⟩
      have hli := F.called_set.init.lookup
      have hbi := F.called_set.init.bind (.ref s.heap.objs.size)
      repeat (any_goals (first | assumption | wp_step))
      refine codeAny_mono (codeAny_call_builtin (R := wants (fun r s2 => r = .none ∧ ∃ hp tk ks, s2 = { s with heap := hp, toks := tk } ∧ SetX P w hp s.heap.objs.size ks ∧ GotX xs xs.length ks ∧
          (∀ b o, s.heap.get? b = some o → hp.get? b = some o)) E) F.called_set.init.plain F.entry_set_init (check_set_init_1 hT ?_)) fun r2 s2 hr2 => ?_
      · obtain ⟨ol, hol, hcl, nl, hdl⟩ := hl
        obtain ⟨ocls, odict, odata, oslots⟩ := ol
        simp only at hcl hdl
        subst hcl; subst hdl
        have hol2 : (s.heap.push { cls := .type "set", dict := none, data := .set #[] 0 (.fresh 0 0 (!w.params.followText "set-order")) }).get? l = some { cls := .type "tuple", dict := odict, data := .seq items nl, slots := oslots } := Heap.get?_push_of_some _ hol
        have b1 := PySem.F.sub_tuple_set
        have b2 := PySem.F.sub_tuple_frozenset
        have b3 : (Value.type "tuple" == Value.type "dict") = false := by decide
        have tup1 : (s.heap.push { cls := .type "set", dict := none, data := .set #[] 0 (.fresh 0 0 (!w.params.followText "set-order")) }).IsTuple l items := ⟨_, hol2, rfl, nl, rfl⟩
        unfold Builtin.«set.__init__» noKeywords Builtin.Frozenset.updateFrom
        generalize hPI : pyIter = PI
        wp_walk
        subst hPI
        refine wpAny_pyIter_tuple (s := { s with heap := s.heap.push { cls := .type "set", dict := none, data := .set #[] 0 (.fresh 0 0 (!w.params.followText "set-order")) } }) tup1 ?_
        refine wpAny_bind (wpAny_runValue ?_)
        have lS : l < s.heap.objs.size := Heap.lt_size hol
        have hh3 : A.in1.in1.in1.handled = none := by simp [hh]
        have sz1 : (s.heap.push { cls := .type "set", dict := none, data := .set #[] 0 (.fresh 0 0 (!w.params.followText "set-order")) }).objs.size = s.heap.objs.size + 1 := Heap.size_push ..
        have neI : l ≠ (s.heap.push { cls := .type "set", dict := none, data := .set #[] 0 (.fresh 0 0 (!w.params.followText "set-order")) }).objs.size := by rw [sz1]; exact Nat.ne_of_lt (Nat.lt_succ_of_lt lS)
        have offS : s.heap.objs.size ∉ [(s.heap.push { cls := .type "set", dict := none, data := .set #[] 0 (.fresh 0 0 (!w.params.followText "set-order")) }).objs.size, l] := by
          rw [sz1]
          simp only [List.mem_cons, List.not_mem_nil, or_false, not_or]
          refine ⟨?_, ?_⟩
          · exact Nat.ne_of_lt (Nat.lt_succ_self _)
          · exact Nat.ne_of_gt lS
        have none_at : ∀ b, s.heap.objs.size ≤ b → s.heap.get? b = none := fun b hb => by
          cases z : s.heap.get? b with
          | none => rfl
          | some o => exact absurd (Nat.lt_of_lt_of_le (Heap.lt_size z) hb) (Nat.lt_irrefl b)
        refine fillX ((Walks.tuple hh3 _ l neI items).toS) s.heap.objs.size offS xs isz hlen hit s.heap (none_at _ (Nat.le_refl _)) (fun b hb => none_at b (by
            rw [List.mem_singleton.mp hb, sz1]
            exact Nat.le_succ _)) (items.size - 0) 0 _ (by omega) (Nat.zero_le _)
          ⟨⟨_, Heap.get?_push_size _ rfl, rfl, rfl⟩, (tup1.push _)⟩ (fun b o e => Heap.get?_push_of_some _ (Heap.get?_push_of_some _ e)) ?start ?stop
        case start =>
          exact ⟨[], setX_new (Heap.get?_push_of_some _ hS), fun p hp => (by cases hp), fun p hp => (by simp at hp)⟩
        case stop =>
          intro s' ks mv RS g hk'
          obtain ⟨hp, g2, d2, tk2, os2⟩ := s'
          have eg : g2 = s.gens := mv.gens
          have ed : d2 = s.drawn := mv.drawn
          have eo : os2 = s.os := mv.os
          subst eg; subst ed; subst eo
          show wpAny _ _ _ _ _ _
          refine wpAny_pure ?_
          show wpAny _ _ (ret Value.none) _ _ _
          rw [isz] at g
          exact wpAny_pure ⟨rfl, hp, tk2, ks, rfl, RS, g, hk'⟩
      · cases r2 with
        | error e => exact hr2
        | ok fl2 =>
          cases fl2 with
          | ret r =>
            obtain ⟨rfl, hp, tk, ks, rfl, RS, g, hk'⟩ := hr2
            repeat (any_goals (first | assumption | wp_step))
            exact fin _ _ _ RS g hk'
          | _ => exact hr2.elim
    | _ => exact hr.elim
/-! ### sorted -/
def xdat (p : XT) : PyData := .str p.1
theorem xvals_each : ∀ (qs : List XT), PySem.W.EachIs (fun u (p : XT) => u = xval p) (qs.map xval) qs
  | [] => .nil
  | _ :: qs => .cons rfl (xvals_each qs)
theorem xvals_read (hp : Heap) (b : Addr) : ∀ (qs : List XT), PySem.W.EachIs (fun u (p : XT) => ∃ as, Reads hp u (xdat p) as ∧ b ∉ as) (qs.map xval) qs
  | [] => .nil
  | p :: qs => .cons ⟨[], .str _ _, by simp⟩ (xvals_read hp b qs)
theorem xvals_back : ∀ {out : List Value} {qs : List XT}, PySem.W.EachIs (fun u (p : XT) => u = xval p) out qs → out = qs.map xval
  | _, [], h => by cases h; rfl
  | _, _ :: _, h => by
    cases h with
    | cons h1 h2 => rw [List.map_cons, h1, xvals_back h2]
/-- the new list, and list.sort on it -/
theorem sortX (s : Shared) (qs : List XT) (few : qs.length ≤ 8000) (hu : A.units + 3 < cLine) {Q : Value → Shared → Prop}
    (fin : ∀ s' (n : Nat) (rs : List XT), (∀ d o, s.heap.get? d = some o → s'.heap.get? d = some o) → s'.gens = s.gens → s'.os = s.os → s'.toks = s.toks → s'.drawn = s.drawn →
      s'.heap.get? s.heap.objs.size = some (seqObj "list" (rs.map xval).toArray n) → rs.Perm qs → rs.Pairwise (fun p q => PySem.W.dataLe false xdat p q = true) → Q (.ref s.heap.objs.size) s') :
    wpAny (model P w) A (do
      let l ← newList (qs.map xval)
      let _ ← holding [l] (call (.builtin "list.sort") [l])
      ret l) (fun f s' => ∃ v, f = .done (.ret v) ∧ Q v s') E s := by
  refine wpAny_bind (wpAny_newList ?_ (by rw [sizeLine_eq, List.length_map]; omega))
  have hoL : (s.heap.push (seqObj "list" (qs.map xval).toArray 0)).get? s.heap.objs.size = some (seqObj "list" (qs.map xval).toArray 0) := Heap.get?_push_size _ rfl
  refine wpAny_bind (wpAny_holding (PySem.W.list_sort_data (s := { s with heap := s.heap.push (seqObj "list" (qs.map xval).toArray 0) }) (enc := xdat) (R := fun u (p : XT) => u = xval p) hoL (xvals_each qs) (xvals_read _ _ qs) ?_ ?_ (by rw [sizeLine_eq]; omega) (fun q hq => ?_) fun out hlo eo => ?_))
  · exact PySem.W.AllAlike.of fun p q => by simp [xdat, PySem.W.alike]
  · exact PySem.W.Sortable.others fun p => ⟨fun z => (by cases z), fun xs z => (by cases z)⟩
  · simp only [xdat, PyData.depth]
    omega
  · have tot : PySem.W.TotalLe (PySem.W.dataLe false xdat) := PySem.W.sortLe_total _ _ _
    have eout := xvals_back eo
    subst eout
    obtain ⟨n, hn⟩ := sortedHeap_at (vs := qs.map xval) (out := ((qs.mergeSort (PySem.W.dataLe false xdat)).map xval).toArray) hoL
    refine wpAny_pure ⟨_, rfl, fin _ n (qs.mergeSort (PySem.W.dataLe false xdat)) (fun d u e => ?_) rfl rfl rfl rfl hn (List.mergeSort_perm _ _) (PySem.W.sort_pairwise tot qs)⟩
    have lt := Heap.lt_size e
    rw [sortedHeap_old (Nat.ne_of_lt lt) (by rw [size_push']; exact Nat.lt_succ_of_lt lt)]
    exact Heap.get?_push_of_some _ e
end
end BF

set_option Elab.async false
set_option linter.all false
set_option autoImplicit false
set_option maxRecDepth 100000
/-! sorted(set(tuple of texts)), sorted(tuple of texts): rules and promises. -/
namespace BF
open PySem PySem.Spec
open PyProof.Rows L2
def SetXO (P : Program) (w : World) (c : Addr) (ks : List XT) : HO := .ext fun hp => SetX P w hp c ks
theorem setXO_new {P : Program} {w : World} {H : Hp} {hp : Heap} {c : Addr} {ks : List XT} (R : SetX P w hp c ks) : ObjOk P w H hp c (SetXO P w c ks) := by
  refine ⟨R, ?_, fun g1 g2 p k => ?_⟩
  · obtain ⟨o, es, ep, t, ho, _⟩ := R.ob
    exact ⟨o, ho⟩
  · exact (show SetX P w g2 c ks from (show SetX P w g1 c ks from p).carry k)
theorem sv_get : ∀ {xs : List Str} {us : List Value}, Vals (xs.map V.str) us → us.length = xs.length ∧ ∀ (i : Nat) v, us[i]? = some v → ∃ x t, xs[i]? = some x ∧ v = .str x t
  | [], _, h => by cases h; exact ⟨rfl, fun i v hv => by simp at hv⟩
  | x :: xs, _, h => by
    cases h with
    | cons h1 h2 =>
      obtain ⟨l, g⟩ := sv_get h2
      obtain ⟨t, e⟩ := h1
      refine ⟨by simp [l], fun i v hv => ?_⟩
      cases i with
      | zero =>
        simp only [List.getElem?_cons_zero, Option.some.injEq] at hv
        exact ⟨x, t, rfl, by rw [← hv, e]⟩
      | succ i => exact g i v (by simpa using hv)
theorem sv_toks : ∀ {xs : List Str} {us : List Value}, Vals (xs.map V.str) us → ∃ qs : List XT, us = qs.map xval ∧ qs.map (·.1) = xs
  | [], _, h => by cases h; exact ⟨[], rfl, rfl⟩
  | x :: xs, _, h => by
    cases h with
    | cons h1 h2 =>
      obtain ⟨qs, e1, e2⟩ := sv_toks h2
      obtain ⟨t, e⟩ := h1
      exact ⟨(x, t) :: qs, by rw [List.map_cons, e1, e]; rfl, by rw [List.map_cons, e2]⟩
theorem vals_sv : ∀ (qs : List XT), Vals (qs.map fun q => V.str q.1) (qs.map xval)
  | [] => .nil
  | q :: qs => .cons ⟨q.2, rfl⟩ (vals_sv qs)
section
variable {X : Cx}
def rSetX (X : Cx) : List V → Hp → VK → Prop := fun vs H Q => ∃ (l : Addr) (xs : List Str), vs = [V.ref l] ∧ SqT X.K H l (xs.map V.str) ∧ xs.length < 4000 ∧
  ∀ a ks, H a = none → (∀ p ∈ ks, p.1 ∈ xs) → (∀ x ∈ xs, x ∈ ks.map (·.1)) → (ks.map (·.1)).Nodup → ks.length ≤ xs.length → Q (.ref a) (upd H a (SetXO X.prog X.w a ks))
theorem cr_setX (hc : X.calm = true) : CallR X (.type "set") (rSetX X) := by
  intro pins s σ H vs us Q I r h
  obtain ⟨l, xs, rfl, hl, hz, q⟩ := h
  rw [Vals.ref1 r]
  obtain ⟨its, rv, pl, _⟩ := I.tuple hl
  have hn : H s.heap.objs.size = none := I.hok.fresh (Nat.le_refl _)
  obtain ⟨g1, g2⟩ := sv_get rv
  refine call_setX (P := X.prog) (w := X.w) xs (I.ok.hd hc) pl (fun i v hv => g2 i v (by simpa using hv)) (by simpa using g1) hz fun hp tk ks R g k => ?_
  have sub : ∀ p ∈ ks, p.1 ∈ xs := fun p hp => List.mem_of_mem_take (g.sub p hp)
  refine ⟨.ref s.heap.objs.size, upd H s.heap.objs.size (SetXO X.prog X.w s.heap.objs.size ks), I.laid (t' := tk) k (Nat.le_refl _) (setXO_new R), rfl, q _ ks hn sub (fun x hx => g.all x (by rw [List.take_length]; exact hx)) R.nd ?_⟩
  have := short_of (D := xs) R.nd fun y hy => by
    obtain ⟨p, hp, rfl⟩ := List.mem_map.mp hy
    exact sub p hp
  rwa [List.length_map] at this
def xle (p q : XT) : Bool := PySem.W.dataLe false xdat p q
def rSortX (X : Cx) : List V → Hp → VK → Prop := fun vs H Q => ∃ (a : Addr) (ks : List XT), vs = [V.ref a] ∧ H a = some (SetXO X.prog X.w a ks) ∧
  ∀ (qs : List XT) (b : Addr), qs.Perm ks → qs.Pairwise (fun p q => xle p q = true) → H b = none → Q (.ref b) (upd H b (.lst (qs.map fun q => V.str q.1)))
theorem sorted_fin {pins : List (Addr × Obj)} {s : Shared} {σ : L2.St} {H : Hp} {Q : VK} (I : Inv X pins σ H s) {s' : Shared} {b : Addr} {n : Nat} {rs : List XT} (k : ∀ d o, s.heap.get? d = some o → s'.heap.get? d = some o) (g : s'.gens = s.gens) (o : s'.os = s.os) (hb : s.heap.objs.size ≤ b)
    (hg : s'.heap.get? b = some (seqObj "list" (rs.map xval).toArray n)) (few : rs.length ≤ 8000) (q : H b = none → Q (.ref b) (upd H b (.lst (rs.map fun q => V.str q.1)))) : EP X pins σ Q (.ref b) s' := by
  have hlen : (rs.map fun q => V.str q.1).length ≤ sizeLine := by rw [List.length_map, sizeLine_eq]; omega
  have hn : H b = none := I.hok.fresh hb
  have J : Inv X pins σ (upd H b (.lst (rs.map fun q => V.str q.1))) { s with heap := s'.heap, gens := s'.gens, drawn := s'.drawn, toks := s'.toks } :=
    I.call (ch := []) (Un.laid k hb hn) (I.hok.laid k hb ⟨hlen, rs.map xval, n, vals_sv rs, hg⟩) (by rw [g]; exact I.bare) (fun _ z => nomatch z)
  have e : s' = { s with heap := s'.heap, gens := s'.gens, drawn := s'.drawn, toks := s'.toks } := by
    cases s'
    cases s
    cases o
    rfl
  rw [e]
  exact ⟨.ref b, _, J, rfl, q hn⟩
theorem xvals_of {ks : List XT} {vs : List Value} (pm : vs.Perm (ks.map xval)) : ∃ qs : List XT, vs = qs.map xval ∧ qs.Perm ks := by
  have un : ∀ ks : List XT, (ks.map xval).map (fun v => match v with | .str x t => ((x, t) : XT) | _ => (Str.empty, 0)) = ks := fun ks => by
    rw [List.map_map]
    exact (List.map_congr_left fun p _ => rfl).trans (List.map_id _)
  have p2 := pm.map fun v => match v with | .str x t => ((x, t) : XT) | _ => (Str.empty, 0)
  rw [un] at p2
  refine ⟨_, ?_, p2⟩
  rw [List.map_map]
  refine ((List.map_congr_left fun v hv => ?_).trans (List.map_id _)).symm
  obtain ⟨p, _, rfl⟩ := List.mem_map.mp (pm.mem_iff.mp hv)
  rfl
theorem cr_sortX (hc : X.calm = true) (hu : X.A.units + 65 < cLine) : CallR X (.builtin "sorted") (rSortX X) := by
  intro pins s σ H vs us Q I r h
  obtain ⟨a, ks, rfl, ha, q⟩ := h
  have R : SetX X.prog X.w s.heap a ks := (I.hok a _ ha).1
  rw [Vals.ref1 r]
  obtain ⟨o, es, ep, t, ho, hex, hd, e1, hf, hr, hl⟩ := R.ob
  have few := R.few
  have z1 : es.size = ks.length := by rw [← Array.length_toList, e1, List.length_map]
  have hh := I.ok.hd hc
  refine Calls.call_function_entry kind_sorted plain_sorted entry_sorted (args_sorted1 _) ?_
  unfold Builtin.«sorted»
  refine wpAny_bind (m := checkCount "sorted" 1 1 _) (wpAny_pure ?_)
  refine wpAny_bind (collect_set (A := X.A.in1) hh ⟨o, ho, hex.1, hd⟩ hf (by unfold scanBound; omega) hr hl fun s1 vs k1 y1 g1 o1 pm => ?_)
  have evs : es.toList.map (·.2) = ks.map xval := by
    rw [e1, List.map_map]; rfl
  rw [evs] at pm
  obtain ⟨qs, rfl, pq⟩ := xvals_of pm
  have lq : qs.length ≤ 8000 := by rw [pq.length_eq]; omega
  refine sortX s1 qs lq (by simp only [Around.in1_units]; omega) fun s' n rs k g o _ _ hg pr pw => ?_
  exact sorted_fin I (fun d u e => k d u (k1 d u e)) (g.trans g1) (o.trans o1) y1 hg (by rw [pr.length_eq]; exact lq) (q rs _ (pr.trans pq) pw)
/-- what a tuple hands over, and the heap behind it -/
theorem collect_tup {prog : Program} {w : World} {A : Around} {E : Value → Shared → Prop} {s : Shared} {Q : List Value → Shared → Prop} (a : Addr) {o : Obj} {its : Array Value} {n : Nat} (ho : s.heap.get? a = some o) (hc : o.cls = .type "tuple") (hd : o.data = .seq its n) (hz : its.size ≤ sizeLine)
    (q : ∀ h', (∀ d u, s.heap.get? d = some u → h'.get? d = some u) → s.heap.objs.size ≤ h'.objs.size → Q its.toList { s with heap := h' }) : wpAny (model prog w) A (collect (.ref a)) Q E s := by
  unfold collect
  refine wpAny_bind (wpAny_runValue (codeAny_builtin F.entry_proto_collect ?_))
  rw [Around.under_plainId F.plain_proto_collect _]
  show wpAny _ A.in1 (newList [] >>= fun l => again (.builtin "list.__iadd__" ⟨[l, .ref a], []⟩)) _ _ s
  refine wpAny_bind (wpAny_newObj_type ?_)
  refine wpAny_pure ⟨plainId_quiet F.plain_list_iadd _, codeAny_builtin F.entry_list_iadd ?_⟩
  rw [Around.under_plainId F.plain_list_iadd _]
  show wpAny _ A.in1 (Builtin.List.listExtendWith (.ref s.heap.objs.size) (.ref a) (.ref s.heap.objs.size)) _ _ _
  have at1 : (s.heap.push { cls := .type "list", data := .seq ([] : List Value).toArray }).get? s.heap.objs.size = some { cls := .type "list", data := .seq #[] 0 } := Heap.get?_push_size _ rfl
  have at2 := Heap.get?_update_self (Obj.mapSeq (· ++ its)) at1 rfl
  have behind : wpAny (model prog w) A (match Value.ref s.heap.objs.size with
      | Value.ref b => do
        match (← load b).data with
          | Data.seq xs _ => pure xs.toList
          | _ => unsupported "internal:collect"
      | _ => unsupported "internal:collect") Q E { s with heap := (s.heap.push { cls := .type "list", data := .seq ([] : List Value).toArray }).update s.heap.objs.size (Obj.mapSeq (· ++ its)) } := by
    show wpAny _ A (load s.heap.objs.size >>= _) _ _ _
    refine wpAny_bind (wpAny_load at2 (wpAny_pure ?_))
    show Q ((#[] : Array Value) ++ its).toList _
    rw [show ((#[] : Array Value) ++ its).toList = its.toList by simp]
    refine q _ (fun d u hb => (Heap.get?_update_other _ _ (Nat.ne_of_gt (Heap.lt_size hb))).trans (Heap.get?_push_of_some _ hb)) ?_
    rw [Heap.size_update, size_push']
    exact Nat.le_succ _
  refine wpAny_mono (wpAny_extend_seq (hsz := hz) (A := A) (R := fun r s' => r = .ok (.ret (.ref s.heap.objs.size)) ∧ s' = { s with heap := (s.heap.push { cls := .type "list", data := .seq ([] : List Value).toArray }).update s.heap.objs.size (Obj.mapSeq (· ++ its)) })
    (s := { s with heap := s.heap.push { cls := .type "list", data := .seq ([] : List Value).toArray } }) _ a _ 0 (.inr rfl) at1 (Heap.get?_push_of_some _ ho) hc hd ⟨rfl, rfl⟩) (fun fin s' h => ?_) (fun e s' h => ?_)
  · cases fin with
    | done f =>
      obtain ⟨e, rfl⟩ := h
      cases e
      exact behind
    | again c' => exact ⟨h.1, codeAny_mono h.2 fun r s'' hr => by obtain ⟨rfl, rfl⟩ := hr; exact behind⟩
  · exact absurd h.1 (by simp)
/-- sorted(tuple of texts) -/
def rSortTX (X : Cx) : List V → Hp → VK → Prop := fun vs H Q => ∃ (a : Addr) (xs : List Str), vs = [V.ref a] ∧ SqT X.K H a (xs.map V.str) ∧ xs.length ≤ 4000 ∧
  ∀ (qs : List XT) (b : Addr), (qs.map (·.1)).Perm xs → qs.Pairwise (fun p q => xle p q = true) → H b = none → Q (.ref b) (upd H b (.lst (qs.map fun q => V.str q.1)))
theorem cr_sortTX (hu : X.A.units + 65 < cLine) : CallR X (.builtin "sorted") (rSortTX X) := by
  intro pins s σ H vs us Q I r h
  obtain ⟨a, xs, rfl, ha, hz, q⟩ := h
  rw [Vals.ref1 r]
  obtain ⟨its, rv, ⟨o, ho, hc, n0, hd⟩, _⟩ := I.tuple ha
  obtain ⟨qs, rfl, e2⟩ := sv_toks rv
  have lq : qs.length = xs.length := by rw [← e2, List.length_map]
  refine Calls.call_function_entry kind_sorted plain_sorted entry_sorted (args_sorted1 _) ?_
  unfold Builtin.«sorted»
  refine wpAny_bind (m := checkCount "sorted" 1 1 _) (wpAny_pure ?_)
  refine wpAny_bind (collect_tup a ho hc hd (by rw [List.size_toArray, List.length_map, sizeLine_eq]; omega) fun h' k1 z1 => ?_)
  rw [show ((qs.map xval).toArray).toList = qs.map xval from rfl]
  refine sortX { s with heap := h' } qs (by omega) (by simp only [Around.in1_units]; omega) fun s' n rs k g o _ _ hg pr pw => ?_
  exact sorted_fin I (fun d u e => k d u (k1 d u e)) g o z1 hg (by rw [pr.length_eq]; omega) (q rs _ (by rw [← e2]; exact pr.map _) pw)
end
/-! ### promises -/
def sle (x y : Str) : Bool := decide (x.cps.toList ≤ y.cps.toList)
def sortS (xs : List Str) : List Str := xs.mergeSort sle
def fstS (xs : List Str) : List Str := (xs.zipIdx.filter fun p => decide (p.1 ∉ xs.take p.2)).map (·.1)
theorem mem_fstS (l : List Str) (t : Str) : t ∈ fstS l ↔ t ∈ l := by
  unfold fstS
  constructor
  · intro h
    obtain ⟨p, hp, rfl⟩ := List.mem_map.mp h
    exact List.fst_mem_of_mem_zipIdx (List.mem_filter.mp hp).1
  · intro h
    have key : ∀ l : List Str, t ∈ l → ∃ i, l[i]? = some t ∧ t ∉ l.take i := by
      intro l
      induction l with
      | nil => intro h; cases h
      | cons x l ih =>
        intro h
        by_cases e : x = t
        · exact ⟨0, by rw [e]; rfl, by simp⟩
        · obtain ⟨i, h1, h2⟩ := ih ((List.mem_cons.mp h).resolve_left fun z => e z.symm)
          refine ⟨i + 1, h1, ?_⟩
          rw [List.take_succ_cons, List.mem_cons]
          rintro (z | z)
          · exact e z.symm
          · exact h2 z
    obtain ⟨i, h1, h2⟩ := key l h
    refine List.mem_map.mpr ⟨(t, i), List.mem_filter.mpr ⟨?_, decide_eq_true h2⟩, rfl⟩
    refine List.mem_of_getElem? (i := i) ?_
    rw [List.getElem?_zipIdx, h1]
    simp
theorem fstS_sub (l : List Str) : (fstS l).Sublist l := by
  have h1 : ((l.zipIdx.filter fun p => decide (p.1 ∉ l.take p.2)).map (·.1)).Sublist (l.zipIdx.map (·.1)) := List.filter_sublist.map _
  have h2 : l.zipIdx.map (·.1) = l := List.zipIdx_map_fst 0 l
  rw [h2] at h1
  exact h1
theorem fstS_nodup (l : List Str) : (fstS l).Nodup := by
  unfold fstS
  refine List.pairwise_map.mpr ?_
  have h1 : l.zipIdx.Pairwise fun p q => q.1 ∉ l.take q.2 → p.1 ≠ q.1 := by
    refine List.pairwise_iff_getElem.mpr fun i j hi hj hij => ?_
    have hil : i < l.length := by simpa using hi
    simp only [List.getElem_zipIdx, Nat.zero_add]
    intro h e
    refine h ?_
    rw [← e]
    exact List.mem_of_getElem? (i := i) (by rw [List.getElem?_take, if_pos hij, List.getElem?_eq_getElem hil])
  exact (List.Pairwise.and_mem.mp (h1.filter _)).imp fun {p q} ⟨_, hq, h⟩ => h (of_decide_eq_true (List.mem_filter.mp hq).2)
theorem sle_eq (p q : XT) : xle p q = sle p.1 q.1 := by
  unfold xle xdat
  rw [PySem.W.dataLe_str]; rfl
theorem sle_anti {x y : Str} (h1 : sle x y = true) (h2 : sle y x = true) : x = y := by
  have e := List.le_antisymm (of_decide_eq_true h1) (of_decide_eq_true h2)
  cases x; cases y
  congr 1
  exact Array.toList_inj.mp e
theorem sle_tot (x y : Str) : sle x y = true ∨ sle y x = true := by
  have := List.le_total x.cps.toList y.cps.toList
  exact this.imp decide_eq_true decide_eq_true
theorem sle_trans {x y z : Str} (h1 : sle x y = true) (h2 : sle y z = true) : sle x z = true := decide_eq_true (List.le_trans (of_decide_eq_true h1) (of_decide_eq_true h2))
theorem sortS_pw (xs : List Str) : (sortS xs).Pairwise fun x y => sle x y = true :=
  List.pairwise_mergeSort (le := sle) (fun _ _ _ => sle_trans) (fun x y => by rw [Bool.or_eq_true]; exact sle_tot x y) xs
theorem sortS_perm (xs : List Str) : (sortS xs).Perm xs := List.mergeSort_perm _ _
theorem sorted_one {l m : List Str} (hp : l.Perm m) (h1 : l.Pairwise fun x y => sle x y = true) (h2 : m.Pairwise fun x y => sle x y = true) : l = m :=
  List.Perm.eq_of_pairwise (le := fun x y => sle x y = true) (fun _ _ _ _ z1 z2 => sle_anti z1 z2) h1 h2 hp
def txtsOf : List W → Option (List Str)
  | [] => some []
  | .str x :: ws => (txtsOf ws).map (x :: ·)
  | _ :: _ => none
theorem txtsOf_map : ∀ xs : List Str, txtsOf (xs.map W.str) = some xs
  | [] => rfl
  | x :: xs => by rw [List.map_cons, txtsOf, txtsOf_map xs]; rfl
theorem txtsOf_some : ∀ {ws : List W} {xs : List Str}, txtsOf ws = some xs → ws = xs.map W.str
  | [], _, h => by cases h; rfl
  | w :: ws, xs, h => by
    cases w with
    | str x =>
      obtain ⟨ys, h1, rfl⟩ := Option.map_eq_some_iff.mp h
      rw [List.map_cons, txtsOf_some h1]
    | _ => cases h
def pSortX : Fn := fun ws M => match ws with
  | [.tup ws] => match txtsOf ws with
    | some xs => if xs.length < 4000 then some (.ref M.length, M ++ [.lst ((sortS xs).map W.str)]) else none
    | none => none
  | _ => none
def pSortSetX : Fn := fun ws M => match ws with
  | [.tup ws] => match txtsOf ws with
    | some xs => if xs.length < 4000 then some (.ref M.length, M ++ [.lst ((fstS (sortS xs)).map W.str)]) else none
    | none => none
  | _ => none
theorem pSortX_ok {xs : List Str} (M : Mem) (h : xs.length < 4000) : pSortX [.tup (xs.map W.str)] M = some (.ref M.length, M ++ [.lst ((sortS xs).map W.str)]) := by
  simp only [pSortX, txtsOf_map, if_pos h]
theorem pSortSetX_ok {xs : List Str} (M : Mem) (h : xs.length < 4000) : pSortSetX [.tup (xs.map W.str)] M = some (.ref M.length, M ++ [.lst ((fstS (sortS xs)).map W.str)]) := by
  simp only [pSortSetX, txtsOf_map, if_pos h]
theorem rds_txt {K : KW} {H : Hp} {loc : List Addr} : ∀ {vs : List V} {xs : List Str}, Rds K H loc vs (xs.map W.str) → vs = xs.map V.str ∧ ∀ x ∈ xs, PyData.strOk x = true ∧ x.length ≤ 16777216
  | _, [], r => by cases r; exact ⟨rfl, fun _ h => (by cases h)⟩
  | _, x :: xs, r => by
    cases r with
    | cons r1 r2 =>
      obtain ⟨e, h⟩ := rds_txt r2
      cases r1 with
      | str _ h1 h2 => exact ⟨by rw [List.map_cons, e], fun y hy => (List.mem_cons.mp hy).elim (fun z => z ▸ ⟨h1, h2⟩) (h y)⟩
theorem txt_rds {K : KW} {H : Hp} {loc : List Addr} : ∀ {xs : List Str}, (∀ x ∈ xs, PyData.strOk x = true ∧ x.length ≤ 16777216) → Rds K H loc (xs.map V.str) (xs.map W.str)
  | [], _ => .nil
  | x :: xs, h => .cons (.str x (h x List.mem_cons_self).1 (h x List.mem_cons_self).2) (txt_rds fun y hy => h y (List.mem_cons_of_mem _ hy))
section
variable {X : Cx}
theorem n_sortX : LiftN X.KW (rSortTX X) pSortX := by
  intro H loc M ws vs w M' Q s r e aft
  unfold pSortX at e
  split at e
  · split at e
    · rename_i xs hx
      split at e
      · rename_i hl
        cases e
        rw [txtsOf_some hx] at r
        match vs, r with
        | [_], .cons (.tup (a := a) q1 q2) .nil =>
          obtain ⟨rfl, ok⟩ := rds_txt q2
          refine ⟨a, xs, rfl, q1, by omega, fun qs b pm pw hb => ?_⟩
          have e1 : qs.map (·.1) = sortS xs := sorted_one (pm.trans (sortS_perm xs).symm) (List.pairwise_map.mpr (pw.imp fun {p q} z => by rw [← sle_eq]; exact z)) (sortS_pw xs)
          have e2 : (qs.map fun q => V.str q.1) = (sortS xs).map V.str := by rw [← e1, List.map_map]; rfl
          rw [e2]
          exact aft_lst s (txt_rds fun x hx => ok x ((sortS_perm xs).mem_iff.mp hx)) hb aft
      · cases e
    · cases e
  · cases e
/-- sorted(set(e)), e a tuple of texts -/
theorem r_sortSetX {e : Expr} {c : CE} {p p2 pos pos2 : Pos} (hc : X.calm = true) (hu : X.A.units + 65 < cLine) (hg : Gl X "sorted") (hm : X.mg "sorted" = none) (hg2 : Gl X "set") (hm2 : X.mg "set" = none) (ha : EV X e c)
    (n2 : starEach [e] X.env = (false, eval e X.env) :: starEach [] X.env := by rfl) (n1 : starEach [.Call (.Name "set" p2) [e] [] pos2] X.env = (false, eval (.Call (.Name "set" p2) [e] [] pos2) X.env) :: starEach [] X.env := by rfl) :
    EV X (.Call (.Name "sorted" p) [.Call (.Name "set" p2) [e] [] pos2] [] pos) (eN pSortSetX [c]) := by
  have inner := pe_callTy (pos := pos2) (p := p2) (cr_setX hc) hg2 hm2 (by decide +kernel) (pa_cons ha pa_nil n2) (by decide) (by decide) n2 (by rfl)
  refine (pe_callB (pos := pos) (p := p) (cr_sortX hc hu) hg hm (by decide +kernel) (pa_cons inner pa_nil n1) (by decide) (by decide) n1 (by rfl)).mono fun σV H Q ⟨loc, σ, M, w, M', rel, e, aft⟩ => ?_
  obtain ⟨q, hq, e⟩ := bind_some e
  obtain ⟨r, hr, hq⟩ := bind_some hq
  obtain ⟨t, ht, hq⟩ := bind_some hq
  cases ht
  cases hq
  refine run1 rel hr fun v H1 loc1 rel1 rd1 ex1 l1 => ?_
  unfold pSortSetX at e
  simp only at e
  split at e
  · rename_i ws hn
    obtain ⟨hn1, _⟩ := List.cons.inj hn
    split at e
    · rename_i xs hx
      split at e
      · rename_i hl
        cases e
        rw [hn1, txtsOf_some hx] at rd1
        cases rd1 with
        | tup q1 q2 =>
          rename_i l vs
          obtain ⟨rfl, ok⟩ := rds_txt q2
          have st := rel1.st
          refine ⟨l, xs, rfl, q1, hl, fun a ks h0 k1 k2 k3 k4 => ⟨a, ks, rfl, upd_same, fun qs b pm pw hb => ?_⟩⟩
          have ex2 : Ext X.KW H1 (upd H1 a (SetXO X.prog X.w a ks)) := .new h0
          have st2 : Store X.KW (upd H1 a (SetXO X.prog X.w a ks)) loc1 r.2 := st.newT h0
          have nq : (qs.map (·.1)).Nodup := (pm.map (·.1)).nodup_iff.mpr k3
          have mem : ∀ x, x ∈ qs.map (·.1) ↔ x ∈ fstS (sortS xs) := fun x => by
            rw [mem_fstS, (sortS_perm xs).mem_iff, (pm.map (·.1)).mem_iff]
            exact ⟨fun z => by
              obtain ⟨p, hp, rfl⟩ := List.mem_map.mp z
              exact k1 p hp, k2 x⟩
          have e1 : qs.map (·.1) = fstS (sortS xs) := sorted_one (perm_of_mem nq (fstS_nodup _) mem) (List.pairwise_map.mpr (pw.imp fun {p q} z => by rw [← sle_eq]; exact z)) ((sortS_pw xs).sublist (fstS_sub _))
          have e2 : (qs.map fun q => V.str q.1) = (fstS (sortS xs)).map V.str := by rw [← e1, List.map_map]; rfl
          rw [e2]
          exact aft_lst st2 (txt_rds fun x hx => ok x ((sortS_perm xs).mem_iff.mp ((mem_fstS _ _).mp hx))) hb ((aft.after ex1 l1).after ex2 (List.prefix_refl _))
      · cases e
    · cases e
  · cases e
end
end BF

set_option Elab.async false
set_option linter.all false
set_option autoImplicit false
set_option maxRecDepth 10000
/-! Calls by the names of the parameters alone, in their order. -/
namespace BF
open PySem PySem.Spec
open PyProof.Rows L2
def BindsKw (fd : FuncData) (ps : List Str) : Prop := ∀ (s : Shared) (ws : List Value), ws.length = ps.length → BindsTo s fd ⟨[], ps.zip ws⟩ (ps.zip ws)
abbrev BindsAllK (x : Str) (st : Stmt) (ps : List Str) : Prop := ∀ (kV doc pm : Value) (an : Option Addr) (cdv ct : Value) (ws : List Value), ws.length = ps.length → bindArgs (PySem.W.fnOf x x (defArgs st) (defBody st) (defScope st) .none kV doc pm an cdv ct) ⟨[], ps.zip ws⟩ = pure (ps.zip ws)
def KnownB (P : Program) (w : World) (K : PySem.W.Frag) (mg : Str → Option Value) (base : Heap) (k : Nat) (x : Str) (ps : List Str) (F : Fn) : Prop :=
  ∃ f fd, FnOk P w K mg base CX0 k f fd ps (spF ⟨K, w⟩ ps.length F) ∧ mg x = some (.ref f) ∧ PySem.W.keepIn K (.ref f) = true ∧ Binds K fd ps [] ∧ BindsKw fd ps
section
variable {P : Program} {w : World} {K : PySem.W.Frag} {mg : Str → Option Value} {base : Heap} {x : Str} {st : Stmt} {N ps : List Str} {k : Nat} {body : CS} {G : Fn}
theorem knownB (D : DefAt K mg x st) (S : FnScope N ps (defScope st)) (hb : BindsAll x st ps) (hbk : BindsAllK x st ps) (hk : Keeps N.length body G)
    (der : ∀ (f : Addr) (cdv : Value) (A : Around) (outer : List Env) (s : Shared) (H : Hp) (E : XK), Room k (A.deeper (envOfC x (defScope st) s.heap.objs.size f cdv)) →
      ESs (cxOf CX0 P w K mg base N x (defScope st) f cdv A outer s H E).nox (defBody st) body) : KnownB P w K mg base (k + 1) x ps G := by
  obtain ⟨f, fd, F, g⟩ := D
  refine ⟨f, fd, fn_ok F S hk (der f), g, F.kp, F.binds hb, ?_⟩
  obtain ⟨oc, od, kV, doc, pm, an, cdv, ct, osl, rfl, lk, hcd⟩ := F.ex
  exact fun s ws hl => .of_eq (hbk kV doc pm an cdv ct ws hl)
theorem KnownB.known (G1 : KnownB P w K mg base k x ps G) : Known P w K mg base k x ps G := by
  obtain ⟨f, fd, a, b, c, d, _⟩ := G1
  exact ⟨f, fd, a, b, c, d⟩
end
section
variable {X : Cx} {x : Str} {p pos kpos : Pos} {e : Expr} {kws : List Keyword} {cs : List CE} {ca : CE} {nm : Option Str}
abbrev EK (X : Cx) (kws : List Keyword) (c : List CE) : Prop := PK X kws (TA' X.KW (eArgs c))
theorem PK.weak {t t' : TA} (h : PK X kws t) (hm : ∀ σ H Q, t' σ H Q → t σ H Q) : PK X kws t' := ⟨fun pos pins s σ H Q I q => h.run pos pins s σ H Q I (hm _ _ _ q)⟩
theorem k_nil : EK X [] [] := PK.weak pk_nil fun σV H Q ⟨loc, σ, M, ws, M', rel, e, aft⟩ => by
  cases e
  exact aft [] H loc rel.st .nil .refl (List.prefix_refl _)
theorem k_cons (ha : EV X e ca) (hb : EK X kws cs) : EK X (⟨nm, e, kpos⟩ :: kws) (ca :: cs) :=
  PK.weak (pk_cons ha hb) fun σV H Q ⟨loc, σ, M, ws, M', rel, e, aft⟩ => by
    obtain ⟨p, hp, e⟩ := bind_some e
    obtain ⟨q, hq, e⟩ := bind_some e
    cases e
    exact run1 rel hp fun v H1 loc1 rel1 rd1 ex1 l1 => runA rel1 hq fun vs H2 loc2 rel2 rd2 ex2 l2 => aft _ H2 loc2 rel2.st (.cons (rd1.mono ex2 l2) rd2) (ex1.trans ex2) (l1.trans l2)
def tCallW (sp : Sp) (E : XK) (tk : TA) : TE := fun σ H Q => tk σ H fun zs H2 => sp zs H2 Q E
theorem pe_callW {CX : CXT} {k : Nat} {f : Addr} {fd : FuncData} {ps : List Str} {sp : Sp} {E : XK} {tk : TA} (F : FnOk X.prog X.w X.K X.mg X.base CX k f fd ps sp) (hr : Room k X.A) (hg : Gl X x) (hm : X.mg x = some (.ref f)) (hk : PySem.W.keepIn X.K (.ref f) = true) (hb : BindsKw fd ps) (hx : Passes CX X E)
    (hkw : PK X kws tk) (hall : (backToKw pos (keywordEach kws X.env)).all (·.1.isSome) = true := by rfl) (hks : (backToKw pos (keywordEach kws X.env)).filterMap (·.1) = ps := by rfl) (hdb : (x == ("__debug__" : Str)) = false := by decide)
    (hpl : ((backTo pos (starEach [] X.env)).any (·.1) || (backToKw pos (keywordEach kws X.env)).any (·.1.isNone)) = false := by rfl) :
    PE X (.Call (.Name x p) [] kws pos) (tCallW sp E tk) := by
  refine ⟨fun pins s σ H Q I h => ?_⟩
  refine wpAny_Call_Name_kw (ld_glob I hg hm ?_ hdb)
  refine PySem.W.callWith_KW0 (h₀ := X.base) I.ok.mod.kin hk hall ?_ hpl
  refine thn (hkw.run pos pins s σ H _ I h) fun ws s2 ⟨zs, H2, I2, rz, q2⟩ => ⟨I2.kIn, ?_⟩
  rw [hks]
  have hl : ws.length = ps.length := by rw [← rz.length]; exact F.len _ _ _ _ q2
  refine wpAny_call (codeAny_mono (F.run X.A X.stack s2 H2 ⟨[], ps.zip ws⟩ ws zs Q E hr I2.env0 (hb s2 ws hl) rz q2) fun r s' hq => ?_)
  cases r with
  | error e => exact hx pins σ H2 s2 e s' I2 hq
  | ok fl =>
    cases fl with
    | ret u => exact I2.after hq
    | next => exact False.elim hq
    | brk => exact False.elim hq
    | cont => exact False.elim hq
theorem r_callW {F : Fn} {k : Nat} {ps : List Str} (G : KnownB X.prog X.w X.K X.mg X.base k x ps F) (hr : Room k X.A) (hg : Gl X x) (ha : EK X kws cs) (hn : cs.length = ps.length := by rfl)
    (hall : (backToKw pos (keywordEach kws X.env)).all (·.1.isSome) = true := by rfl) (hks : (backToKw pos (keywordEach kws X.env)).filterMap (·.1) = ps := by rfl) (hdb : (x == ("__debug__" : Str)) = false := by decide)
    (hpl : ((backTo pos (starEach [] X.env)).any (·.1) || (backToKw pos (keywordEach kws X.env)).any (·.1.isNone)) = false := by rfl) :
    EV X (.Call (.Name x p) [] kws pos) (eN F cs) := by
  obtain ⟨f, fd, G, hm, hk, _, hb⟩ := G
  refine (pe_callW G hr hg hm hk hb pass0 ha hall hks hdb hpl).mono fun σV H Q ⟨loc, σ, M, w, M', rel, e, aft⟩ => ?_
  obtain ⟨q, hq, e⟩ := bind_some e
  refine runA rel hq fun vs H1 loc1 rel1 rd1 ex1 l1 => ?_
  exact ⟨by rw [rd1.length, eArgs_length hq, hn], loc1, q.2, q.1, w, M', rel1.st, rd1, e, aft.after ex1 l1⟩
end
/-- the head's part of a law, whatever its parameter's name -/
theorem law_headX {l : PySem.W.OpenLaw} {w : World} {K : PySem.W.Frag} {h : Heap} {mg : Str → Option Value} {fa f : Addr} {k : Nat} {st : Stmt} {x : Str} {oc : Value} {od an : Option Addr} {osl : Array (Option Value)} {kV doc pm cdv ct : Value} (X : K.In h) (G : h.Ns mainGlobals mg) (hfa : mg "law" = some (.ref fa))
    (a : PySem.W.nsIn K mainGlobals "law" = some (some (.ref f))) (lk : K.lookup f = some ⟨oc, od, .func (PySem.W.fnOf "law" "law" (defArgs st) (defBody st) (defScope st) .none kV doc pm an cdv ct), osl⟩) (c : PySem.W.codeIn K cdv "law" = true) (kp : PySem.W.keepIn K (.ref f) = true)
    (hb : BindsAll "law" st [x]) (ok : ∀ (base : Heap) (fd : FuncData), Fun K "law" "law" st fa fd → FnOk l.prog w K mg base CX0 k fa fd [x] (spF ⟨K, w⟩ ([x] : List Str).length lawF)) :
    ∃ fd : FuncData, (∀ (s : Shared) (v : Value), BindsTo s fd ⟨[v], []⟩ [(x, v)]) ∧ ∀ base : Heap, K.In base → base.Ns mainGlobals mg → FnOk l.prog w K mg base CX0 k fa fd [x] (spLaw K) := by
  have e := hfa.symm.trans (PySem.W.mg_of X G a)
  cases e
  exact ⟨PySem.W.fnOf "law" "law" (defArgs st) (defBody st) (defScope st) .none kV doc pm an cdv ct, fun s v => .of_eq (hb kV doc pm an cdv ct [v] rfl), fun base _ _ => law_ok rfl (ok base _ (fun_mk lk c kp))⟩
end BF

set_option Elab.async false
set_option linter.all false
set_option autoImplicit false
set_option maxRecDepth 10000
namespace BF
open PySem Enc
/-! histories: what an action does -/
def valid (h : Hist) : Prop := h.at_ < h.ps.length ∧ h.ps.length ≤ 1000
instance (h : Hist) : Decidable (valid h) := by unfold valid; infer_instance
def stepH (h : Hist) : Act → Hist
  | .visit p => ⟨h.ps.take (h.at_ + 1) ++ [p], h.at_ + 1⟩
  | .back => ⟨h.ps, h.at_ - 1⟩
  | .forward => ⟨h.ps, min (h.ps.length - 1) (h.at_ + 1)⟩
  | .go i => if i < h.ps.length then ⟨h.ps, i⟩ else h
def plain : Act → Bool
  | .go _ => false
  | _ => true
/-- valid, with room for so many more pages -/
def roomy (h : Hist) (n : Nat) : Prop := h.at_ < h.ps.length ∧ h.ps.length + n ≤ 1000
instance (h : Hist) (n : Nat) : Decidable (roomy h n) := by unfold roomy; infer_instance
theorem roomy_step {h : Hist} {n : Nat} (a : Act) (hr : roomy h (n + 1)) : roomy (stepH h a) n := by
  obtain ⟨h1, h2⟩ := hr
  cases a with
  | visit p => constructor <;> simp [stepH] <;> omega
  | back => constructor <;> simp [stepH] <;> omega
  | forward => constructor <;> simp [stepH] <;> omega
  | go i =>
    show roomy (if i < h.ps.length then ⟨h.ps, i⟩ else h) n
    by_cases hi : i < h.ps.length
    · rw [if_pos hi]; exact ⟨hi, by show h.ps.length + n ≤ 1000; omega⟩
    · rw [if_neg hi]; exact ⟨h1, by omega⟩
def runH (h : Hist) (l : List Act) : Hist := l.foldl stepH h
theorem roomy_run : ∀ (l : List Act) {h : Hist} {n : Nat}, roomy h (n + l.length) → roomy (runH h l) n
  | [], _, _, hr => hr
  | a :: l, h, n, hr => roomy_run l (roomy_step a (by rw [List.length_cons, ← Nat.add_assoc] at hr; exact hr))
theorem roomy_mono {h : Hist} {n m : Nat} (hr : roomy h n) (hm : m ≤ n) : roomy h m := ⟨hr.1, by have := hr.2; omega⟩
theorem enc_hist' (h : Hist) : (enc h : W) = .tup [.tup (h.ps.map W.str), .int h.at_] := rfl
theorem enc_mk (ps : List Str) (i : Nat) : (.tup [.tup (ps.map W.str), .int i] : W) = enc (⟨ps, i⟩ : Hist) := rfl
end BF

set_option Elab.async false
set_option linter.all false
set_option autoImplicit false
set_option maxRecDepth 10000
namespace BF
open PySem Enc
/-! pages that are texts or numbers -/
inductive Pg where
  | s (x : Str)
  | i (n : Nat)
  deriving DecidableEq
def wp : Pg → W
  | .s x => .str x
  | .i n => .int n
@[simp] theorem wp_s (x : Str) : wp (.s x) = .str x := rfl
@[simp] theorem wp_i (n : Nat) : wp (.i n) = .int n := rfl
instance : Enc Pg where
  enc := wp
  dec w := match w with
    | .str x => some (.s x)
    | .int i => if 0 ≤ i then some (.i i.toNat) else none
    | _ => none
  dec_enc a := by cases a <;> simp [wp]
  enc_dec w a h := by
    split at h
    · cases h; rfl
    · split at h
      · cases h; simp [wp]; omega
      · cases h
    · cases h
  dep := 1
  ok a := by cases a <;> rfl
  eqE a b := by cases a <;> cases b <;> simp [wp, eqP]; omega
/-- a history of such pages -/
structure HistP where
  ps : List Pg
  at_ : Nat
  deriving DecidableEq
instance : Enc HistP where
  enc h := .tup [.tup (h.ps.map wp), .int h.at_]
  dec w := (dec w : Option (List Pg × Nat)).map fun p => ⟨p.1, p.2⟩
  dec_enc h := by
    have : (dec (.tup [.tup (h.ps.map wp), .int h.at_]) : Option (List Pg × Nat)) = some (h.ps, h.at_) := dec_enc (h.ps, h.at_)
    rw [this]; rfl
  enc_dec w a h := by
    obtain ⟨p, h1, h2⟩ := Option.map_eq_some_iff.mp h
    rw [enc_dec w p h1, ← h2]; rfl
  dep := 3
  ok h := ok (h.ps, h.at_)
  eqE a b := by
    have := eqE (a.ps, a.at_) (b.ps, b.at_)
    refine this.trans ?_
    cases a; cases b
    simp
theorem enc_histP (h : HistP) : (enc h : W) = .tup [.tup (h.ps.map wp), .int h.at_] := rfl
theorem map_encP (l : List Pg) : l.map (Enc.enc : Pg → W) = l.map wp := rfl
@[simp] theorem eqW_pgs (M : Mem) (a b : List Pg) : eqW M (.tup (a.map wp)) (.tup (b.map wp)) = some (decide (a = b)) := eqW_enc (α := List Pg) M a b
@[simp] theorem eqW_histP (M : Mem) (a b : List Pg) (i j : Nat) : eqW M (.tup [.tup (a.map wp), .int i]) (.tup [.tup (b.map wp), .int j]) = some (decide (a = b ∧ i = j)) := by
  have := eqW_enc (α := HistP) M ⟨a, i⟩ ⟨b, j⟩
  rw [show decide (a = b ∧ i = j) = decide ((⟨a, i⟩ : HistP) = ⟨b, j⟩) from decide_eq_decide.mpr (by simp)]
  exact this
/-! histories: what an action does -/
def validP (h : HistP) : Prop := h.at_ < h.ps.length ∧ h.ps.length ≤ 1000
instance (h : HistP) : Decidable (validP h) := by unfold validP; infer_instance
def stepP (h : HistP) : Act → HistP
  | .visit p => ⟨h.ps.take (h.at_ + 1) ++ [.s p], h.at_ + 1⟩
  | .back => ⟨h.ps, h.at_ - 1⟩
  | .forward => ⟨h.ps, min (h.ps.length - 1) (h.at_ + 1)⟩
  | .go i => if i < h.ps.length then ⟨h.ps, i⟩ else h
/-- validP, with room for so many more pages -/
def roomyP (h : HistP) (n : Nat) : Prop := h.at_ < h.ps.length ∧ h.ps.length + n ≤ 1000
instance (h : HistP) (n : Nat) : Decidable (roomyP h n) := by unfold roomyP; infer_instance
theorem roomyP_step {h : HistP} {n : Nat} (a : Act) (hr : roomyP h (n + 1)) : roomyP (stepP h a) n := by
  obtain ⟨h1, h2⟩ := hr
  cases a with
  | visit p => constructor <;> simp [stepP] <;> omega
  | back => constructor <;> simp [stepP] <;> omega
  | forward => constructor <;> simp [stepP] <;> omega
  | go i =>
    show roomyP (if i < h.ps.length then ⟨h.ps, i⟩ else h) n
    by_cases hi : i < h.ps.length
    · rw [if_pos hi]; exact ⟨hi, by show h.ps.length + n ≤ 1000; omega⟩
    · rw [if_neg hi]; exact ⟨h1, by omega⟩
def runP (h : HistP) (l : List Act) : HistP := l.foldl stepP h
theorem roomyP_run : ∀ (l : List Act) {h : HistP} {n : Nat}, roomyP h (n + l.length) → roomyP (runP h l) n
  | [], _, _, hr => hr
  | a :: l, h, n, hr => roomyP_run l (roomyP_step a (by rw [List.length_cons, ← Nat.add_assoc] at hr; exact hr))
theorem roomyP_mono {h : HistP} {n m : Nat} (hr : roomyP h n) (hm : m ≤ n) : roomyP h m := ⟨hr.1, by have := hr.2; omega⟩
end BF

set_option Elab.async false
set_option linter.all false
set_option autoImplicit false
set_option maxRecDepth 10000
namespace BF
open PySem Enc
/-! after -/
def afterF (h : HistP) (a : Act) : Option HistP := if validP h ∧ plain a = true then some (stepP h a) else none
def F_after : Fn := fn2 afterF
abbrev N_after : List Str := ["history", "action", "pages", "place"]
def c_after : CS :=
  (sSeq (sSet (gT [(gV 2), (gV 3)]) (eV 0))
  (sSeq (sIf (tB (e2 gEq (e2 gIx (eV 1) (eL (.int 0))) (eL (.str "visit")))) (sRet (eTup [(e2 gAdd (eSl (eV 2) none (some (e2 gAdd (eV 3) (eL (.int 1))))) (eTup [(e2 gIx (eV 1) (eL (.int 1)))])), (e2 gAdd (eV 3) (eL (.int 1)))])) sNil)
  (sSeq (sIf (tB (e2 gEq (e2 gIx (eV 1) (eL (.int 0))) (eL (.str "back")))) (sRet (eTup [(eV 2), (eN pMax [(eL (.int 0)), (e2 gSub (eV 3) (eL (.int 1)))])])) sNil)
  (sRet (eTup [(eV 2), (eN pMin [(e2 gSub (eN pLen [(eV 2)]) (eL (.int 1))), (e2 gAdd (eV 3) (eL (.int 1)))])])))))
theorem after_okP {h : HistP} {a : Act} (M : Mem) (hv : validP h) (ha : plain a = true) : F_after [enc h, enc a] M = some (enc (stepP h a), M) := by
  have := fn2_eq afterF h a M
  unfold afterF at this
  rw [if_pos ⟨hv, ha⟩] at this
  exact this
theorem keeps_after : Keeps 4 c_after F_after := by
  refine keeps2 fun h a c M e => ⟨[], ?_⟩
  unfold afterF at e
  split at e
  · rename_i hv
    cases e
    obtain ⟨⟨h1, h2⟩, h3⟩ := hv
    rw [List.append_nil]
    have k1 : h.ps.length ≤ 16777215 := by omega
    cases a with
    | visit p =>
      have k2 : (h.ps.take (h.at_ + 1)).length + 1 ≤ 16777216 := by simp; omega
      simp [c_after, enc_histP, stepP, cutW_map, List.length_take] at k2 ⊢
      rw [if_pos k2]
      simp
    | back =>
      simp [c_after, enc_histP, stepP]
      split <;> omega
    | forward =>
      simp [c_after, enc_histP, stepP]
      split <;> omega
    | go i => cases h3
  · cases e
/-- a history of texts is one of pages -/
def toP (h : Hist) : HistP := ⟨h.ps.map .s, h.at_⟩
theorem enc_toP (h : Hist) : (enc (toP h) : W) = enc h := by
  rw [enc_histP, enc_hist]
  unfold toP
  rw [List.map_map]; rfl
theorem step_toP (h : Hist) (a : Act) : stepP (toP h) a = toP (stepH h a) := by
  cases a with
  | visit p => simp [stepP, stepH, toP, List.map_take]
  | back => simp [stepP, stepH, toP]
  | forward => simp [stepP, stepH, toP]
  | go i =>
    unfold stepP stepH toP
    simp only [List.length_map]
    split <;> rfl
theorem after_ok {h : Hist} {a : Act} (M : Mem) (hv : valid h) (ha : plain a = true) : F_after [enc h, enc a] M = some (enc (stepH h a), M) := by
  have := after_okP (h := toP h) (a := a) M (by unfold validP toP; simpa [valid] using hv) ha
  rw [enc_toP, step_toP, enc_toP] at this
  exact this
end BF

set_option Elab.async false
set_option linter.all false
set_option autoImplicit false
set_option maxRecDepth 10000
namespace BF
open PySem Enc
/-! apply -/
def applyF (h : HistP) (l : List Act) : Option HistP := if roomyP h l.length ∧ l.all plain = true then some (runP h l) else none
def F_apply : Fn := fn2 applyF
abbrev b1_apply : CS :=
  (sSet (gV 0) (eN F_after [(eV 0), (eV 2)]))
abbrev N_apply : List Str := ["history", "script", "action"]
def c_apply : CS :=
  (sSeq (sFor (iTup (eV 1)) (gV 2) (sSet (gV 0) (eN F_after [(eV 0), (eV 2)])))
  (sRet (eV 0)))
theorem apply_okP {h : HistP} {l : List Act} (M : Mem) (hv : roomyP h l.length) (ha : l.all plain = true) : F_apply [enc h, enc l] M = some (enc (runP h l), M) := by
  have := fn2_eq applyF h l M
  unfold applyF at this
  rw [if_pos ⟨hv, ha⟩] at this
  exact this
theorem keeps_apply : Keeps 3 c_apply F_apply := by
  refine keeps2 fun h l c M e => ⟨[], ?_⟩
  unfold applyF at e
  split at e
  · rename_i hv
    cases e
    obtain ⟨h1, h2⟩ := hv
    rw [List.append_nil]
    have key : ∀ (l : List Act) (h : HistP) (σ : Sl), roomyP h l.length → l.all plain = true → σ.length = 3 → σ[0]? = some (some (enc h)) →
        ∃ σ', forL gdT (gV 2) (sSet (gV 0) (eN F_after [(eV 0), (eV 2)])) (l.map enc) σ M = some (.nx σ' M) ∧ σ'[0]? = some (some (enc (runP h l))) := by
      intro l
      induction l with
      | nil => intro h σ _ _ _ h0; exact ⟨σ, forL_nil rfl, h0⟩
      | cons a l ih =>
        intro h σ hr hp hl h0
        rw [List.all_cons, Bool.and_eq_true] at hp
        rw [List.length_cons] at hr
        match σ, hl, h0 with
        | [s0, s1, s2], _, h0 =>
          cases h0
          obtain ⟨σ', e1, e2⟩ := ih (stepP h a) [some (enc (stepP h a)), s1, some (enc a)] (roomyP_step a hr) hp.2 rfl rfl
          refine ⟨σ', ?_, e2⟩
          rw [List.map_cons, forL_cons (σ1 := [some (enc h), s1, some (enc a)]) (o := .nx [some (enc (stepP h a)), s1, some (enc a)] M) rfl rfl (by simp [after_okP M ⟨hr.1, by have := hr.2; omega⟩ hp.1])]
          exact e1
    obtain ⟨σ', e1, e2⟩ := key l h [some (enc h), some (enc l), none] h1 h2 rfl rfl
    simp only [c_apply, sSeq_eq, sFor_eq, iTup_eq, eV_eq, List.replicate, List.getD_cons_zero, List.getD_cons_succ, Option.bind_some, enc_list]
    simp only [enc_list] at e1
    rw [e1]
    simp [e2]
  · cases e
theorem run_toP : ∀ (l : List Act) (h : Hist), runP (toP h) l = toP (runH h l)
  | [], h => rfl
  | a :: l, h => by
    show runP (stepP (toP h) a) l = toP (runH (stepH h a) l)
    rw [step_toP, run_toP l]
theorem apply_ok {h : Hist} {l : List Act} (M : Mem) (hv : roomy h l.length) (ha : l.all plain = true) : F_apply [enc h, enc l] M = some (enc (runH h l), M) := by
  have := apply_okP (h := toP h) (l := l) M (by unfold roomyP toP; simpa [roomy] using hv) ha
  rw [enc_toP, run_toP, enc_toP] at this
  exact this
end BF

set_option Elab.async false
set_option linter.all false
set_option autoImplicit false
set_option maxRecDepth 10000
namespace BF
open PySem Enc
/-! sight -/
def sightH (h : Hist) : Sight := ⟨h.ps.getD h.at_ default, decide (0 < h.at_), decide (h.at_ + 1 < h.ps.length)⟩
def sightF (h : Hist) : Option Sight := if valid h then some (sightH h) else none
def F_sight : Fn := fn1 sightF
abbrev N_sight : List Str := ["history", "pages", "place"]
def c_sight : CS :=
  (sSeq (sSet (gT [(gV 1), (gV 2)]) (eV 0))
  (sRet (eTup [(e2 gIx (eV 1) (eV 2)), (e2 gGt (eV 2) (eL (.int 0))), (e2 gLt (eV 2) (e2 gSub (eN pLen [(eV 1)]) (eL (.int 1))))])))
theorem sight_ok {h : Hist} (M : Mem) (hv : valid h) : F_sight [enc h] M = some (enc (sightH h), M) := by
  have := fn1_eq sightF h M
  unfold sightF at this
  rw [if_pos hv] at this
  exact this
theorem keeps_sight : Keeps 3 c_sight F_sight := by
  refine keeps1 fun h c M e => ⟨[], ?_⟩
  unfold sightF at e
  split at e
  · rename_i hv
    cases e
    obtain ⟨h1, h2⟩ := hv
    rw [List.append_nil]
    simp [c_sight, enc_hist, enc_sight, sightH, ixW_nat h1, h1]
    omega
  · cases e
end BF

set_option Elab.async false
set_option linter.all false
set_option autoImplicit false
set_option maxRecDepth 10000
namespace BF
open PySem Enc
/-! trail -/
def trailH (h : Hist) : List Act → List Sight
  | [] => [sightH h]
  | a :: l => sightH h :: trailH (stepH h a) l
def trailF (h : Hist) (l : List Act) : Option (List Sight) := if roomy h l.length ∧ l.length ≤ 900 ∧ l.all plain = true then some (trailH h l) else none
def F_trail : Fn := fnL2 trailF
abbrev b1_trail : CS :=
  (sSeq (sSet (gV 0) (eN F_after [(eV 0), (eV 3)]))
  (sExpr (eML mAppend (eV 2) [(eN F_sight [(eV 0)])])))
abbrev N_trail : List Str := ["history", "script", "found", "action"]
def c_trail : CS :=
  (sSeq (sSet (gV 2) (eLst [(eN F_sight [(eV 0)])]))
  (sSeq (sFor (iTup (eV 1)) (gV 3) (sSeq (sSet (gV 0) (eN F_after [(eV 0), (eV 3)]))
  (sExpr (eML mAppend (eV 2) [(eN F_sight [(eV 0)])]))))
  (sRet (eV 2))))
theorem roomy_valid {h : Hist} {n : Nat} (r : roomy h n) : valid h := ⟨r.1, by have := r.2; omega⟩
theorem trail_ok {h : Hist} {l : List Act} (M : Mem) (hv : roomy h l.length) (hl : l.length ≤ 900) (ha : l.all plain = true) : F_trail [enc h, enc l] M = some (.ref M.length, M ++ [.lst ((trailH h l).map enc)]) := by
  have := fnL2_eq trailF h l M
  unfold trailF at this
  rw [if_pos ⟨hv, hl, ha⟩] at this
  exact this
theorem keeps_trail : Keeps 4 c_trail F_trail := by
  refine keepsL2 fun h l cs M e => ?_
  unfold trailF at e
  split at e
  · rename_i hv
    cases e
    obtain ⟨h1, h0, h2⟩ := hv
    have key : ∀ (l : List Act) (h : Hist) (σ : Sl) (acc : List W), roomy h l.length → l.all plain = true → σ.length = 4 → σ[0]? = some (some (enc h)) → σ[2]? = some (some (.ref M.length)) → acc.length + l.length ≤ 1000 →
        ∃ σ', forL gdT (gV 3) (sSeq (sSet (gV 0) (eN F_after [(eV 0), (eV 3)])) (sExpr (eML mAppend (eV 2) [(eN F_sight [(eV 0)])]))) (l.map enc) σ (M ++ [.lst (acc ++ [enc (sightH h)])]) =
          some (.nx σ' (M ++ [.lst (acc ++ (trailH h l).map enc)])) ∧ σ'[2]? = some (some (.ref M.length)) := by
      intro l
      induction l with
      | nil => intro h σ acc _ _ _ h0 h2 _; exact ⟨σ, forL_nil rfl, h2⟩
      | cons a l ih =>
        intro h σ acc hr hp hl h0 h2 hlen
        rw [List.all_cons, Bool.and_eq_true] at hp
        rw [List.length_cons] at hr hlen
        match σ, hl, h0, h2 with
        | [s0, s1, s2, s3], _, h0, h2 =>
          cases h0; cases h2
          have hr' := roomy_step a hr
          obtain ⟨σ', e1, e2⟩ := ih (stepH h a) [some (enc (stepH h a)), s1, some (.ref M.length), some (enc a)] (acc ++ [enc (sightH h)]) hr' hp.2 rfl rfl rfl (by simp; omega)
          refine ⟨σ', ?_, e2⟩
          have k1 : acc.length + 1 < 16777216 := by omega
          rw [List.map_cons, forL_cons (σ1 := [some (enc h), s1, some (.ref M.length), some (enc a)]) (o := .nx [some (enc (stepH h a)), s1, some (.ref M.length), some (enc a)] (M ++ [.lst (acc ++ [enc (sightH h)] ++ [enc (sightH (stepH h a))])])) rfl rfl ?_]
          · rw [show acc ++ (trailH h (a :: l)).map enc = (acc ++ [enc (sightH h)]) ++ (trailH (stepH h a) l).map enc by simp [trailH]]
            exact e1
          · simp [after_ok _ (roomy_valid hr) hp.1, sight_ok _ (roomy_valid hr'), k1]
    obtain ⟨σ', e1, e2⟩ := key l h [some (enc h), some (enc l), some (.ref M.length), none] [] h1 h2 rfl rfl rfl (by simp; omega)
    refine ⟨M.length, [.lst ((trailH h l).map enc)], ?_, Nat.le_refl _, by simp⟩
    simp only [List.nil_append] at e1
    simp only [enc_list] at e1
    simp [c_trail, sight_ok _ (roomy_valid h1), enc_list, e1, e2]
  · cases e
end BF

set_option Elab.async false
set_option linter.all false
set_option autoImplicit false
set_option maxRecDepth 10000
namespace BF
open PySem Enc
/-! the pages that two lists begin with -/
def commonN : List Str → List Str → Nat
  | a :: as, b :: bs => if a = b then commonN as bs + 1 else 0
  | _, _ => 0
theorem commonN_le : ∀ a b : List Str, commonN a b ≤ a.length ∧ commonN a b ≤ b.length
  | a :: as, b :: bs => by
    have := commonN_le as bs
    rw [commonN]
    simp only [List.length_cons]
    split <;> omega
  | [], b => by simp [commonN]
  | _ :: _, [] => by simp [commonN]
def commonF (a b : List Str) : Option Nat := if a.length ≤ 900 ∧ b.length ≤ 900 then some (commonN a b) else none
def F_common : Fn := fn2 commonF
abbrev b1_common : CS :=
  (sAug 2 gAdd1 (eL (.int 1)))
abbrev N_common : List Str := ["one", "other", "count"]
def c_common : CS :=
  (sSeq (sSet (gV 2) (eL (.int 0)))
  (sSeq (sWhile 1000 (tAnd (tB (e2 gLt (eV 2) (eN pMin [(eN pLen [(eV 0)]), (eN pLen [(eV 1)])]))) (tB (e2 gEq (e2 gIx (eV 0) (eV 2)) (e2 gIx (eV 1) (eV 2))))) (sAug 2 gAdd1 (eL (.int 1))))
  (sRet (eV 2))))
theorem common_ok {a b : List Str} (M : Mem) (h1 : a.length ≤ 900) (h2 : b.length ≤ 900) : F_common [enc a, enc b] M = some (.int (commonN a b), M) := by
  have := fn2_eq commonF a b M
  unfold commonF at this
  rw [if_pos ⟨h1, h2⟩] at this
  exact this
theorem commonN_drop {a b : List Str} {i : Nat} (h1 : i < a.length) (h2 : i < b.length) : commonN (a.drop i) (b.drop i) = if a[i] = b[i] then commonN (a.drop (i + 1)) (b.drop (i + 1)) + 1 else 0 := by
  rw [List.drop_eq_getElem_cons h1, List.drop_eq_getElem_cons h2, commonN]
theorem keeps_common : Keeps 3 c_common F_common := by
  refine keeps2p fun a b c M e => ?_
  unfold commonF at e
  split at e
  · rename_i hv
    cases e
    obtain ⟨h1, h2⟩ := hv
    have key : ∀ (n i : Nat), i ≤ a.length → i ≤ b.length → a.length - i < n → ∃ σ', whileL (tAnd (tB (e2 gLt (eV 2) (eN pMin [(eN pLen [(eV 0)]), (eN pLen [(eV 1)])]))) (tB (e2 gEq (e2 gIx (eV 0) (eV 2)) (e2 gIx (eV 1) (eV 2))))) (sAug 2 gAdd1 (eL (.int 1))) n [some (enc a), some (enc b), some (.int i)] M =
        some (.nx σ' M) ∧ σ'[2]? = some (some (.int ((i + commonN (a.drop i) (b.drop i) : Nat) : Int))) := by
      intro n
      induction n with
      | zero => intro i _ _ h; omega
      | succ n ih =>
        intro i ha hb hn
        by_cases hi : i < a.length ∧ i < b.length
        · obtain ⟨i1, i2⟩ := hi
          have g1 : a[i]? = some a[i] := List.getElem?_eq_getElem i1
          have g2 : b[i]? = some b[i] := List.getElem?_eq_getElem i2
          by_cases he : a[i] = b[i]
          · obtain ⟨σ', e1, e2⟩ := ih (i + 1) i1 i2 (by omega)
            refine ⟨σ', ?_, ?_⟩
            · rw [whileL_on (M1 := M) (σ' := [some (enc a), some (enc b), some (.int ((i + 1 : Nat) : Int))]) (M' := M) (by simp [enc_list, i1, i2, ixW_nat i1, ixW_nat i2, he, Nat.lt_min]) (by simp)]
              exact e1
            · rw [e2, commonN_drop i1 i2, if_pos he]
              congr 3; omega
          · refine ⟨_, whileL_off (M1 := M) (by simp [enc_list, i1, i2, ixW_nat i1, ixW_nat i2, he, Nat.lt_min]), ?_⟩
            rw [commonN_drop i1 i2, if_neg he]; rfl
        · refine ⟨_, whileL_off (M1 := M) ?_, ?_⟩
          · have : decide (i < min a.length b.length) = false := by rw [decide_eq_false_iff_not]; omega
            simp only [tAnd_eq, tB_eq, e2_eq, eV_eq, eN_eq, eArgs_cons, eArgs_nil, enc_list, List.getD_cons_zero, List.getD_cons_succ, Option.bind_some, pLen_tup, pMin_nat, gLt_nat, List.length_map, this]
            rfl
          · have : commonN (a.drop i) (b.drop i) = 0 := by
              have := commonN_le (a.drop i) (b.drop i)
              simp only [List.length_drop] at this
              omega
            rw [this]; rfl
    obtain ⟨σ', e1, e2⟩ := key 1000 0 (Nat.zero_le _) (Nat.zero_le _) (by omega)
    simp only [enc_list] at e1
    refine ⟨M, ?_, List.prefix_refl _⟩
    have e0 : ((0 : Nat) : Int) = 0 := rfl
    rw [e0] at e1
    simp at e2
    simp [c_common, enc_list, sWhile, e1, e2]
  · cases e
end BF

set_option Elab.async false
set_option linter.all false
set_option autoImplicit false
set_option maxRecDepth 10000
namespace BF
open PySem Enc
/-! kept pages -/
def keptN (h t : Hist) : Nat := min (commonN h.ps t.ps) (t.ps.length - 1)
def keptF (h t : Hist) : Option Nat := if valid h ∧ valid t ∧ h.ps.length ≤ 900 ∧ t.ps.length ≤ 900 then some (keptN h t) else none
def F_kept_pages : Fn := fn2 keptF
abbrev N_kept_pages : List Str := ["history", "target"]
def c_kept_pages : CS :=
  (sRet (eN pMin [(eN F_common [(e2 gIx (eV 0) (eL (.int 0))), (e2 gIx (eV 1) (eL (.int 0)))]), (e2 gSub (eN pLen [(e2 gIx (eV 1) (eL (.int 0)))]) (eL (.int 1)))]))
theorem kept_ok {h t : Hist} (M : Mem) (h1 : valid h) (h2 : valid t) (h3 : h.ps.length ≤ 900) (h4 : t.ps.length ≤ 900) : F_kept_pages [enc h, enc t] M = some (.int (keptN h t), M) := by
  have := fn2_eq keptF h t M
  unfold keptF at this
  rw [if_pos ⟨h1, h2, h3, h4⟩] at this
  exact this
theorem keeps_kept_pages : Keeps 2 c_kept_pages F_kept_pages := by
  refine keeps2p fun h t c M e => ?_
  unfold keptF at e
  split at e
  · rename_i hv
    cases e
    obtain ⟨h1, h2, h3, h4⟩ := hv
    have c1 := common_ok M h3 h4
    have k1 : (t.ps.length : Int) - 1 = ((t.ps.length - 1 : Nat) : Int) := by have := h2.1; omega
    simp only [enc_list, map_encS] at c1
    refine ⟨M, ?_, List.prefix_refl _⟩
    simp [c_kept_pages, enc_hist, map_encS, keptN, c1, k1]
  · cases e
end BF

set_option Elab.async false
set_option linter.all false
set_option autoImplicit false
set_option maxRecDepth 10000
namespace BF
open PySem Enc
/-! the distance -/
def distH (h t : Hist) : Option Int :=
  if h.ps = t.ps then some ((((h.at_ : Int) - t.at_).natAbs : Nat) : Int)
  else if keptN h t = 0 then none
  else some ((((min h.at_ (keptN h t - 1) : Nat) - h.at_ : Int).natAbs : Int) + t.ps.length - 1 - (min h.at_ (keptN h t - 1) : Nat) + t.ps.length - 1 - t.at_)
def distF (h t : Hist) : Option (Option Int) := if valid h ∧ valid t ∧ h.ps.length ≤ 900 ∧ t.ps.length ≤ 900 then some (distH h t) else none
def F_distance : Fn := fn2 distF
abbrev N_distance : List Str := ["history", "target", "pages", "place", "wanted", "end", "kept"]
def c_distance : CS :=
  (sSeq (sSet (gT [(gT [(gV 2), (gV 3)]), (gT [(gV 4), (gV 5)])]) (eTup [(eV 0), (eV 1)]))
  (sSeq (sIf (tB (e2 gEq (eV 2) (eV 4))) (sRet (eN pAbs [(e2 gSub (eV 3) (eV 5))])) sNil)
  (sSeq (sSet (gV 6) (eN F_kept_pages [(eV 0), (eV 1)]))
  (sSeq (sIf (tB (e2 gEq (eV 6) (eL (.int 0)))) (sRet (eL .non)) sNil)
  (sRet (e2 gSub (e2 gSub (e2 gAdd (e2 gSub (e2 gSub (e2 gAdd (eN pAbs [(e2 gSub (eN pMin [(eV 3), (e2 gSub (eV 6) (eL (.int 1)))]) (eV 3))]) (eN pLen [(eV 4)])) (eL (.int 1))) (eN pMin [(eV 3), (e2 gSub (eV 6) (eL (.int 1)))])) (eN pLen [(eV 4)])) (eL (.int 1))) (eV 5)))))))
theorem distance_ok {h t : Hist} (M : Mem) (h1 : valid h) (h2 : valid t) (h3 : h.ps.length ≤ 900) (h4 : t.ps.length ≤ 900) : F_distance [enc h, enc t] M = some (enc (distH h t), M) := by
  have := fn2_eq distF h t M
  unfold distF at this
  rw [if_pos ⟨h1, h2, h3, h4⟩] at this
  exact this
theorem abs_eq (i : Int) : (if i < 0 then -i else i) = (i.natAbs : Int) := by split <;> omega
theorem keeps_distance : Keeps 7 c_distance F_distance := by
  refine keeps2p fun h t c M e => ?_
  unfold distF at e
  split at e
  · rename_i hv
    cases e
    obtain ⟨h1, h2, h3, h4⟩ := hv
    have c1 := kept_ok M h1 h2 h3 h4
    refine ⟨M, ?_, List.prefix_refl _⟩
    simp only [enc_hist] at c1
    unfold distH
    by_cases hp : h.ps = t.ps
    · simp [c_distance, enc_hist, hp, abs_eq]
    · by_cases hk : keptN h t = 0
      · simp [c_distance, enc_hist, hp, hk, c1]
      · have k1 : (keptN h t : Int) - 1 = ((keptN h t - 1 : Nat) : Int) := by omega
        simp [c_distance, enc_hist, hp, hk, c1, abs_eq, k1]
  · cases e
end BF

set_option Elab.async false
set_option linter.all false
set_option autoImplicit false
set_option maxRecDepth 10000
namespace BF
open PySem Enc
/-! what one action does to the distance -/
theorem commonN_self : ∀ a : List Str, commonN a a = a.length
  | [] => rfl
  | x :: a => by rw [commonN, if_pos rfl, commonN_self a]; rfl
theorem commonN_snoc : ∀ (a : List Str) (x : Str) (w : List Str), (commonN a w < a.length → commonN (a ++ [x]) w = commonN a w) ∧ (commonN a w = a.length → (commonN (a ++ [x]) w = a.length ∨ commonN (a ++ [x]) w = a.length + 1) ∧ (w[a.length]? = some x → commonN (a ++ [x]) w = a.length + 1))
  | [], x, w => by
    cases w with
    | nil => simp [commonN]
    | cons y w =>
      simp [commonN]
      by_cases h : x = y
      · simp [h]
      · simp [h]; exact fun z => h z.symm
  | a :: as, x, [] => by simp [commonN]
  | a :: as, x, y :: w => by
    obtain ⟨h1, h2⟩ := commonN_snoc as x w
    simp only [List.cons_append, commonN, List.length_cons]
    by_cases h : a = y
    · simp only [if_pos h]
      refine ⟨fun z => by rw [h1 (by omega)], fun z => ?_⟩
      obtain ⟨h3, h4⟩ := h2 (by omega)
      refine ⟨by omega, fun q => ?_⟩
      rw [h4 (by simpa using q)]
    · simp only [if_neg h]
      exact ⟨fun _ => by simp, fun z => by omega⟩
theorem commonN_take : ∀ (p w : List Str) (k : Nat), commonN (p.take k) w = min k (commonN p w)
  | [], w, k => by simp [commonN]
  | a :: p, [], k => by cases k <;> simp [commonN]
  | a :: p, y :: w, 0 => by simp [commonN]
  | a :: p, y :: w, k + 1 => by
    rw [List.take_succ_cons, commonN, commonN, commonN_take p w k]
    split <;> omega
/-- a visit: what is common behind it -/
theorem common_visit {p w : List Str} {i : Nat} (x : Str) (hi : i < p.length) :
    (commonN p w ≤ i → commonN (p.take (i + 1) ++ [x]) w = commonN p w) ∧
    (i + 1 ≤ commonN p w → (commonN (p.take (i + 1) ++ [x]) w = i + 1 ∨ commonN (p.take (i + 1) ++ [x]) w = i + 2) ∧ (w[i + 1]? = some x → commonN (p.take (i + 1) ++ [x]) w = i + 2)) ∧
    (p.take (i + 1) ++ [x] = w → w.length = i + 2 ∧ i + 1 ≤ commonN p w) := by
  have hl : (p.take (i + 1)).length = i + 1 := by simp; omega
  have ht := commonN_take p w (i + 1)
  obtain ⟨h1, h2⟩ := commonN_snoc (p.take (i + 1)) x w
  rw [hl, ht] at h1 h2
  refine ⟨fun z => by rw [h1 (by omega)]; omega, fun z => h2 (by omega), fun z => ?_⟩
  have e1 : commonN (p.take (i + 1) ++ [x]) w = i + 2 := by
    rw [← z, commonN_self]; simp; omega
  have : w.length = i + 2 := by rw [← z]; simp; omega
  refine ⟨this, ?_⟩
  omega
theorem distH_self (h : Hist) : distH h h = some 0 := by unfold distH; rw [if_pos rfl]; simp
theorem step_valid {h : Hist} {a : Act} (hv : h.at_ < h.ps.length) (ha : plain a = true) : (stepH h a).at_ < (stepH h a).ps.length := by
  cases a with
  | visit p => simp [stepH]; omega
  | back => simp [stepH]; omega
  | forward => simp [stepH]; omega
  | go i => cases ha
theorem dist_mk (p w : List Str) (i e : Nat) : distH ⟨p, i⟩ ⟨w, e⟩ = if p = w then some ((((i : Int) - e).natAbs : Nat) : Int) else if min (commonN p w) (w.length - 1) = 0 then none else some ((((min i (min (commonN p w) (w.length - 1) - 1) : Nat) - i : Int).natAbs : Int) + w.length - 1 - (min i (min (commonN p w) (w.length - 1) - 1) : Nat) + w.length - 1 - e) := rfl
/-- one action lowers the distance by at most one -/
theorem dist_step {h t : Hist} {a : Act} (hv : h.at_ < h.ps.length) (tv : t.at_ < t.ps.length) (ha : plain a = true) {v : Int} (hd : distH (stepH h a) t = some v) : ∃ u, distH h t = some u ∧ u ≤ v + 1 := by
  obtain ⟨p, i⟩ := h
  obtain ⟨w, e⟩ := t
  simp only at hv tv
  have cl := commonN_le p w
  cases a with
  | go j => cases ha
  | back =>
    change distH ⟨p, i - 1⟩ ⟨w, e⟩ = some v at hd
    rw [dist_mk] at hd ⊢
    by_cases hp : p = w
    · rw [if_pos hp] at hd ⊢
      exact ⟨_, rfl, by have := Option.some.inj hd; omega⟩
    · rw [if_neg hp] at hd ⊢
      by_cases hk : min (commonN p w) (w.length - 1) = 0
      · rw [if_pos hk] at hd; cases hd
      · rw [if_neg hk] at hd ⊢
        exact ⟨_, rfl, by have := Option.some.inj hd; omega⟩
  | forward =>
    change distH ⟨p, min (p.length - 1) (i + 1)⟩ ⟨w, e⟩ = some v at hd
    rw [dist_mk] at hd ⊢
    by_cases hp : p = w
    · rw [if_pos hp] at hd ⊢
      exact ⟨_, rfl, by have := Option.some.inj hd; omega⟩
    · rw [if_neg hp] at hd ⊢
      by_cases hk : min (commonN p w) (w.length - 1) = 0
      · rw [if_pos hk] at hd; cases hd
      · rw [if_neg hk] at hd ⊢
        exact ⟨_, rfl, by have := Option.some.inj hd; omega⟩
  | visit x =>
    obtain ⟨c1, c2, c3⟩ := common_visit (w := w) x hv
    change distH ⟨p.take (i + 1) ++ [x], i + 1⟩ ⟨w, e⟩ = some v at hd
    rw [dist_mk] at hd ⊢
    by_cases hp : p = w
    · rw [if_pos hp]
      refine ⟨_, rfl, ?_⟩
      have hpl : p.length = w.length := by rw [hp]
      split at hd
      · have := Option.some.inj hd; omega
      · split at hd
        · cases hd
        · have := Option.some.inj hd; omega
    · rw [if_neg hp]
      split at hd
      · rename_i hq
        obtain ⟨l1, l2⟩ := c3 hq
        rw [if_neg (by omega)]
        exact ⟨_, rfl, by have := Option.some.inj hd; omega⟩
      · split at hd
        · cases hd
        · rename_i hk'
          have := Option.some.inj hd
          by_cases hc : commonN p w ≤ i
          · have e1 := c1 hc
            rw [if_neg (by omega)]
            exact ⟨_, rfl, by omega⟩
          · obtain ⟨e1, _⟩ := c2 (by omega)
            rw [if_neg (by omega)]
            exact ⟨_, rfl, by omega⟩
theorem run_valid : ∀ (l : List Act) {h : Hist}, h.at_ < h.ps.length → l.all plain = true → (runH h l).at_ < (runH h l).ps.length
  | [], _, hv, _ => hv
  | a :: l, h, hv, hp => by
    rw [List.all_cons, Bool.and_eq_true] at hp
    exact run_valid l (step_valid hv hp.1) hp.2
theorem dist_run : ∀ (l : List Act) {h t : Hist} {v : Int}, h.at_ < h.ps.length → t.at_ < t.ps.length → l.all plain = true → distH (runH h l) t = some v → ∃ u, distH h t = some u ∧ u ≤ v + l.length
  | [], h, t, v, _, _, _, hd => ⟨v, hd, by simp⟩
  | a :: l, h, t, v, hv, tv, hp, hd => by
    rw [List.all_cons, Bool.and_eq_true] at hp
    obtain ⟨u, h1, h2⟩ := dist_run l (step_valid hv hp.1) tv hp.2 (show distH (runH (stepH h a) l) t = some v from hd)
    obtain ⟨u', h3, h4⟩ := dist_step hv tv hp.1 h1
    refine ⟨u', h3, ?_⟩
    rw [List.length_cons]
    omega
theorem commonN_all {a b : List Str} (h : commonN a b = b.length) (h2 : commonN a b = a.length) : a = b := by
  induction a generalizing b with
  | nil => cases b with
    | nil => rfl
    | cons y b => simp [commonN] at h
  | cons x a ih => cases b with
    | nil => simp [commonN] at h2
    | cons y b =>
      rw [commonN] at h h2
      split at h
      · rename_i e
        rw [if_pos e] at h2
        simp only [List.length_cons, Nat.add_right_cancel_iff] at h h2
        rw [e, ih h h2]
      · simp at h
theorem distH_zero {h t : Hist} (h1 : h.at_ < h.ps.length) (h2 : t.at_ < t.ps.length) : (distH h t = some 0) ↔ h = t := by
  unfold distH
  obtain ⟨hp, ha⟩ := h
  obtain ⟨tp, ta⟩ := t
  have l1 := h1
  have l2 := h2
  simp only at l1 l2 ⊢
  constructor
  · intro e
    split at e
    · rename_i q
      subst q
      simp only [Option.some.injEq] at e
      congr 1
      omega
    · rename_i q
      split at e
      · cases e
      · rename_i q2
        exfalso
        simp only [Option.some.injEq] at e
        have kle : keptN ⟨hp, ha⟩ ⟨tp, ta⟩ ≤ tp.length - 1 := Nat.min_le_right _ _
        omega
  · intro e
    cases e
    rw [if_pos rfl]
    simp
/-! plans -/
def mostF (h t : Hist) : Nat := if h.ps = t.ps then t.at_ - h.at_ else keptN h t - 1 - h.at_
def countP (h t : Hist) : Nat := if distH h t = none then 0 else if h.ps = t.ps ∧ ¬ (h.at_ < t.at_ ∧ t.at_ = t.ps.length - 1) then 1 else mostF h t + 1
def downF (h t : Hist) : Nat := if h.ps = t.ps then 0 else h.at_ + 1 - keptN h t
def planH (h t : Hist) (n : Nat) : Option (List Act) :=
  if countP h t ≤ n then none
  else if h.ps = t.ps ∧ n = 0 then some (List.replicate (mostF h t - n) .forward ++ List.replicate (h.at_ - t.at_) .back)
  else some (List.replicate (downF h t) .back ++ List.replicate (mostF h t - n) .forward ++ (t.ps.drop (h.at_ - downF h t + (mostF h t - n) + 1)).map .visit ++ List.replicate (t.ps.length - 1 - t.at_) .back)
/-- the plan's first action is one nearer -/
theorem plan_first {h t : Hist} (hv : h.at_ < h.ps.length) (tv : t.at_ < t.ps.length) {v : Int} (hd : distH h t = some v) (h0 : 0 < v) : ∃ a l, planH h t 0 = some (a :: l) ∧ plain a = true ∧ distH (stepH h a) t = some (v - 1) := by
  obtain ⟨p, i⟩ := h
  obtain ⟨w, e⟩ := t
  have hc : ¬ countP ⟨p, i⟩ ⟨w, e⟩ ≤ 0 := by
    unfold countP
    rw [hd, if_neg (by simp)]
    split <;> omega
  unfold planH
  rw [if_neg hc]
  simp only [Nat.sub_zero]
  simp only at hv tv
  have cl := commonN_le p w
  rw [dist_mk] at hd
  by_cases hp : p = w
  · rw [if_pos hp] at hd
    have hd2 := Option.some.inj hd
    have hpl : p.length = w.length := by rw [hp]
    rw [if_pos (by simp [hp])]
    unfold mostF
    simp only [if_pos hp]
    by_cases hlt : i < e
    · obtain ⟨k, hk⟩ : ∃ k, e - i = k + 1 := ⟨e - i - 1, by omega⟩
      rw [hk, List.replicate_succ]
      refine ⟨.forward, _, rfl, rfl, ?_⟩
      show distH ⟨p, min (p.length - 1) (i + 1)⟩ ⟨w, e⟩ = _
      rw [dist_mk, if_pos hp]
      congr 1; omega
    · obtain ⟨k, hk⟩ : ∃ k, i - e = k + 1 := ⟨i - e - 1, by omega⟩
      rw [show e - i = 0 by omega, hk, List.replicate_succ]
      refine ⟨.back, _, rfl, rfl, ?_⟩
      show distH ⟨p, i - 1⟩ ⟨w, e⟩ = _
      rw [dist_mk, if_pos hp]
      congr 1; omega
  · rw [if_neg hp] at hd
    rw [if_neg (fun z => hp z.1)]
    split at hd
    · cases hd
    · rename_i hk
      have hd2 := Option.some.inj hd
      have hkn : keptN ⟨p, i⟩ ⟨w, e⟩ = min (commonN p w) (w.length - 1) := rfl
      have hdn : downF ⟨p, i⟩ ⟨w, e⟩ = i + 1 - min (commonN p w) (w.length - 1) := by unfold downF; simp only [if_neg hp]; rw [hkn]
      have hmo : mostF ⟨p, i⟩ ⟨w, e⟩ = min (commonN p w) (w.length - 1) - 1 - i := by unfold mostF; simp only [if_neg hp]; rw [hkn]
      rw [hdn, hmo]
      by_cases h1 : min (commonN p w) (w.length - 1) ≤ i
      · obtain ⟨k, hk2⟩ : ∃ k, i + 1 - min (commonN p w) (w.length - 1) = k + 1 := ⟨i - min (commonN p w) (w.length - 1), by omega⟩
        rw [hk2, List.replicate_succ]
        refine ⟨.back, _, rfl, rfl, ?_⟩
        show distH ⟨p, i - 1⟩ ⟨w, e⟩ = _
        rw [dist_mk, if_neg hp, if_neg hk]
        congr 1; omega
      · have e0 : i + 1 - min (commonN p w) (w.length - 1) = 0 := by omega
        rw [e0, List.replicate_zero, List.nil_append]
        by_cases h2 : i + 1 < min (commonN p w) (w.length - 1)
        · obtain ⟨k, hk2⟩ : ∃ k, min (commonN p w) (w.length - 1) - 1 - i = k + 1 := ⟨min (commonN p w) (w.length - 1) - 1 - i - 1, by omega⟩
          rw [hk2, List.replicate_succ]
          refine ⟨.forward, _, rfl, rfl, ?_⟩
          show distH ⟨p, min (p.length - 1) (i + 1)⟩ ⟨w, e⟩ = _
          rw [dist_mk, if_neg hp, if_neg hk]
          congr 1; omega
        · have e1 : min (commonN p w) (w.length - 1) - 1 - i = 0 := by omega
          rw [e1, List.replicate_zero, List.nil_append, Nat.add_zero, Nat.sub_zero]
          have hi : i + 1 < w.length := by omega
          have hx : w[i + 1]? = some w[i + 1] := List.getElem?_eq_getElem hi
          rw [List.drop_eq_getElem_cons hi, List.map_cons]
          refine ⟨.visit w[i + 1], _, rfl, rfl, ?_⟩
          show distH ⟨p.take (i + 1) ++ [w[i + 1]], i + 1⟩ ⟨w, e⟩ = _
          obtain ⟨c1, c2, c3⟩ := common_visit (w := w) w[i + 1] hv
          have c4 := (c2 (by omega)).2 hx
          rw [dist_mk]
          by_cases hq : p.take (i + 1) ++ [w[i + 1]] = w
          · obtain ⟨l1, l2⟩ := c3 hq
            rw [if_pos hq]
            congr 1; omega
          · have hlen : w.length ≠ i + 2 := by
              intro hl
              apply hq
              have a1 : (p.take (i + 1) ++ [w[i + 1]]).length = i + 2 := by simp; omega
              refine commonN_all ?_ ?_
              · rw [c4, hl]
              · rw [c4, a1]
            rw [if_neg hq, if_neg (by omega)]
            congr 1; omega
theorem dist_nonneg {h t : Hist} (hv : h.at_ < h.ps.length) (tv : t.at_ < t.ps.length) {v : Int} (hd : distH h t = some v) : 0 ≤ v := by
  obtain ⟨p, i⟩ := h
  obtain ⟨w, e⟩ := t
  simp only at hv tv
  rw [dist_mk] at hd
  split at hd
  · have := Option.some.inj hd; omega
  · split at hd
    · cases hd
    · have := Option.some.inj hd; omega
theorem dist_reach : ∀ (n : Nat) {h t : Hist}, h.at_ < h.ps.length → t.at_ < t.ps.length → distH h t = some (n : Int) → ∃ l : List Act, l.length = n ∧ l.all plain = true ∧ runH h l = t
  | 0, h, t, hv, tv, hd => ⟨[], rfl, rfl, (distH_zero hv tv).mp hd⟩
  | n + 1, h, t, hv, tv, hd => by
    obtain ⟨a, _, _, pa, h1⟩ := plan_first hv tv hd (by omega)
    obtain ⟨l, l1, l2, l3⟩ := dist_reach n (step_valid hv pa) tv (by rw [h1]; congr 1; omega)
    exact ⟨a :: l, by simp [l1], by simp [pa, l2], l3⟩
/-- by way of a third history -/
theorem dist_tri {h o t : Hist} (hv : h.at_ < h.ps.length) (ov : o.at_ < o.ps.length) (tv : t.at_ < t.ps.length) {u v : Int} (h1 : distH h o = some u) (h2 : distH o t = some v) : ∃ x, distH h t = some x ∧ x ≤ u + v := by
  have := dist_nonneg hv ov h1
  obtain ⟨n, rfl⟩ : ∃ n : Nat, u = n := ⟨u.toNat, by omega⟩
  obtain ⟨l, l1, l2, l3⟩ := dist_reach n hv ov h1
  rw [← l3] at h2
  obtain ⟨x, h3, h4⟩ := dist_run l hv tv l2 h2
  exact ⟨x, h3, by omega⟩
theorem take_of_common : ∀ (p w : List Str) (k : Nat), k ≤ commonN p w → p.take k = w.take k
  | _, _, 0, _ => by simp
  | [], w, k + 1, h => by simp [commonN] at h
  | _ :: _, [], k + 1, h => by simp [commonN] at h
  | a :: p, b :: w, k + 1, h => by
    rw [commonN] at h
    split at h
    · rename_i e
      rw [List.take_succ_cons, List.take_succ_cons, e, take_of_common p w k (by omega)]
    · omega
end BF

set_option Elab.async false
set_option linter.all false
set_option autoImplicit false
set_option maxRecDepth 10000
namespace BF
open PySem Enc
/-! most_forward -/
def mostF2 (h t : Hist) : Option Nat := if valid h ∧ valid t ∧ h.ps.length ≤ 900 ∧ t.ps.length ≤ 900 then some (mostF h t) else none
def F_most_forward : Fn := fn2 mostF2
abbrev N_most_forward : List Str := ["history", "target", "pages", "place", "wanted", "end"]
def c_most_forward : CS :=
  (sSeq (sSet (gT [(gT [(gV 2), (gV 3)]), (gT [(gV 4), (gV 5)])]) (eTup [(eV 0), (eV 1)]))
  (sSeq (sIf (tB (e2 gEq (eV 2) (eV 4))) (sRet (eN pMax [(eL (.int 0)), (e2 gSub (eV 5) (eV 3))])) sNil)
  (sRet (eN pMax [(eL (.int 0)), (e2 gSub (e2 gSub (eN F_kept_pages [(eV 0), (eV 1)]) (eL (.int 1))) (eV 3))]))))
theorem most_ok {h t : Hist} (M : Mem) (h1 : valid h) (h2 : valid t) (h3 : h.ps.length ≤ 900) (h4 : t.ps.length ≤ 900) : F_most_forward [enc h, enc t] M = some (.int (mostF h t), M) := by
  have := fn2_eq mostF2 h t M
  unfold mostF2 at this
  rw [if_pos ⟨h1, h2, h3, h4⟩] at this
  exact this
theorem keeps_most_forward : Keeps 6 c_most_forward F_most_forward := by
  refine keeps2p fun h t c M e => ?_
  unfold mostF2 at e
  split at e
  · rename_i hv
    cases e
    obtain ⟨h1, h2, h3, h4⟩ := hv
    have f1 := kept_ok M h1 h2 h3 h4
    refine ⟨M, ?_, List.prefix_refl _⟩
    simp only [enc_hist] at f1
    unfold mostF
    by_cases hp : h.ps = t.ps
    · simp [c_most_forward, enc_hist, hp]
    · simp [c_most_forward, enc_hist, hp, f1]
      omega
  · cases e
end BF

set_option Elab.async false
set_option linter.all false
set_option autoImplicit false
set_option maxRecDepth 10000
namespace BF
open PySem Enc
/-! count_plans -/
def countF (h t : Hist) : Option Nat := if valid h ∧ valid t ∧ h.ps.length ≤ 900 ∧ t.ps.length ≤ 900 then some (countP h t) else none
def F_count_plans : Fn := fn2 countF
abbrev N_count_plans : List Str := ["history", "target", "pages", "place", "wanted", "end"]
def c_count_plans : CS :=
  (sSeq (sSet (gT [(gT [(gV 2), (gV 3)]), (gT [(gV 4), (gV 5)])]) (eTup [(eV 0), (eV 1)]))
  (sSeq (sIf (tB (e1 gIsN (eN F_distance [(eV 0), (eV 1)]))) (sRet (eL (.int 0))) sNil)
  (sSeq (sIf (tAnd (tB (e2 gEq (eV 2) (eV 4))) (tNot (tB (eChain gLt gEq (eV 3) (eV 5) (e2 gSub (eN pLen [(eV 4)]) (eL (.int 1))))))) (sRet (eL (.int 1))) sNil)
  (sRet (e2 gAdd (eN F_most_forward [(eV 0), (eV 1)]) (eL (.int 1)))))))
theorem count_ok {h t : Hist} (M : Mem) (h1 : valid h) (h2 : valid t) (h3 : h.ps.length ≤ 900) (h4 : t.ps.length ≤ 900) : F_count_plans [enc h, enc t] M = some (.int (countP h t), M) := by
  have := fn2_eq countF h t M
  unfold countF at this
  rw [if_pos ⟨h1, h2, h3, h4⟩] at this
  exact this
theorem keeps_count_plans : Keeps 6 c_count_plans F_count_plans := by
  refine keeps2p fun h t c M e => ?_
  unfold countF at e
  split at e
  · rename_i hv
    cases e
    obtain ⟨h1, h2, h3, h4⟩ := hv
    have f1 := distance_ok M h1 h2 h3 h4
    have f2 := most_ok M h1 h2 h3 h4
    refine ⟨M, ?_, List.prefix_refl _⟩
    simp only [enc_hist] at f1 f2
    unfold countP
    have tl := h2.1
    obtain ⟨L, hL⟩ : ∃ L, L = t.ps.length - 1 := ⟨_, rfl⟩
    have k1 : (t.ps.length : Int) - 1 = (L : Int) := by omega
    rw [← hL]
    cases hd : distH h t with
    | none =>
      rw [hd] at f1
      simp only [enc_on] at f1
      simp [c_count_plans, enc_hist, f1]
    | some v =>
      rw [hd] at f1
      simp only [enc_os] at f1
      by_cases hp : h.ps = t.ps
      · simp only [hp] at f1 f2
        by_cases hc : h.at_ < t.at_
        · by_cases hc2 : L = t.at_
          · subst hc2
            simp [c_count_plans, enc_hist, f1, f2, hp, hc, k1]
          · have hc3 : ¬ t.at_ = L := fun z => hc2 z.symm
            simp [c_count_plans, enc_hist, f1, f2, hp, hc, k1, hc3, Int.natCast_inj]
        · simp [c_count_plans, enc_hist, f1, f2, hp, hc, k1]
      · simp [c_count_plans, enc_hist, f1, f2, hp]
  · cases e
end BF

set_option Elab.async false
set_option linter.all false
set_option autoImplicit false
set_option maxRecDepth 10000
namespace BF
open PySem Enc
/-! lists of actions, or None -/
instance : Enc (Option (List Act)) where
  enc o := match o with
    | none => .non
    | some l => enc l
  dec w := match w with
    | .non => some none
    | w => (dec w : Option (List Act)).map some
  dec_enc a := by
    cases a with
    | none => rfl
    | some l =>
      show (dec (enc l) : Option (List Act)).map some = _
      rw [dec_enc]; rfl
  enc_dec w a h := by
    split at h
    · cases h; rfl
    · obtain ⟨l, h1, h2⟩ := Option.map_eq_some_iff.mp h
      subst h2
      exact enc_dec _ _ h1
  dep := 3
  ok a := by
    cases a with
    | none => rfl
    | some l => exact ok l
  eqE a b := by
    cases a with
    | none => cases b with
      | none => simp [eqP]
      | some l => simp [enc_list, eqP]
    | some l => cases b with
      | none => simp [enc_list, eqP]
      | some l2 =>
        show eqP (enc l) (enc l2) = true ↔ _
        rw [eqE]; simp
theorem enc_opn : (enc (none : Option (List Act)) : W) = .non := rfl
theorem enc_ops (l : List Act) : (enc (some l : Option (List Act)) : W) = .tup (l.map enc) := rfl
theorem visits_ok (σ : Sl) (i : Nat) (hl : i < σ.length) (M : Mem) (us : List Str) (j : Nat) (hu : us.length ≤ 16777216) :
    lcL gdT (gV i) tTrue (eTup [(eL (.str "visit")), (eV i)]) [i] σ M.length ((us.map W.str).drop j) (M ++ [.lst []]) = some (M ++ [.lst ((us.map (enc ∘ Act.visit)).drop j)]) := by
  have := lcL_pure (gd := gdT) (g := gV i) (e := eTup [(eL (.str "visit")), (eV i)]) (vs := [i]) (σ := σ) ((us.map W.str).drop j) (fun w => .tup [.str "visit", w]) M [] (by simp; omega) (fun _ => rfl) (fun w _ l => ⟨_, rfl, by simp [wipe, hl]⟩)
  rw [this]
  simp [List.map_drop]
  rfl
end BF

set_option Elab.async false
set_option linter.all false
set_option autoImplicit false
set_option maxRecDepth 10000
namespace BF
open PySem Enc
/-! plan_at -/
def planF (h t : Hist) (n : Nat) : Option (Option (List Act)) := if valid h ∧ valid t ∧ h.ps.length ≤ 900 ∧ t.ps.length ≤ 900 then some (planH h t n) else none
def F_plan_at : Fn := fn3 planF
abbrev N_plan_at : List Str := ["history", "target", "number", "pages", "place", "wanted", "end", "steps", "down", "visits", "page"]
def c_plan_at : CS :=
  (sSeq (sIf (tB (e2 gGe (eV 2) (eN F_count_plans [(eV 0), (eV 1)]))) (sRet (eL .non)) sNil)
  (sSeq (sSet (gT [(gT [(gV 3), (gV 4)]), (gT [(gV 5), (gV 6)])]) (eTup [(eV 0), (eV 1)]))
  (sSeq (sSet (gV 7) (e2 gSub (eN F_most_forward [(eV 0), (eV 1)]) (eV 2)))
  (sSeq (sIf (tAnd (tB (e2 gEq (eV 3) (eV 5))) (tB (e2 gEq (eV 2) (eL (.int 0))))) (sRet (e2 gAdd (e2 gRepA (eTup [(eTup [(eL (.str "forward"))])]) (eV 7)) (e2 gRepA (eTup [(eTup [(eL (.str "back"))])]) (eN pMax [(eL (.int 0)), (e2 gSub (eV 4) (eV 6))])))) sNil)
  (sSeq (sSet (gV 8) (eIf (tB (e2 gNe (eV 3) (eV 5))) (eN pMax [(eL (.int 0)), (e2 gAdd (e2 gSub (eV 4) (eN F_kept_pages [(eV 0), (eV 1)])) (eL (.int 1)))]) (eL (.int 0))))
  (sSeq (sSet (gV 9) (eN pTuple [(eLc (iTup (eSl (eV 5) (some (e2 gAdd (e2 gAdd (e2 gSub (eV 4) (eV 8)) (eV 7)) (eL (.int 1)))) none)) (gV 10) tTrue (eTup [(eL (.str "visit")), (eV 10)]) [10])]))
  (sRet (e2 gAdd (e2 gAdd (e2 gAdd (e2 gRepA (eTup [(eTup [(eL (.str "back"))])]) (eV 8)) (e2 gRepA (eTup [(eTup [(eL (.str "forward"))])]) (eV 7))) (eV 9)) (e2 gRepA (eTup [(eTup [(eL (.str "back"))])]) (e2 gSub (e2 gSub (eN pLen [(eV 5)]) (eL (.int 1))) (eV 6)))))))))))
theorem plan_ok {h t : Hist} (n : Nat) (M : Mem) (h1 : valid h) (h2 : valid t) (h3 : h.ps.length ≤ 900) (h4 : t.ps.length ≤ 900) : F_plan_at [enc h, enc t, .int n] M = some (enc (planH h t n), M) := by
  have := fn3_eq planF h t n M
  unfold planF at this
  rw [if_pos ⟨h1, h2, h3, h4⟩] at this
  exact this
theorem rep_one (k : Nat) (w : W) : (List.replicate k [w]).flatten = List.replicate k w := by
  induction k with
  | zero => rfl
  | succ k ih => rw [List.replicate_succ, List.flatten_cons, ih, List.replicate_succ]; rfl
@[simp high] theorem gRepA_one {M : Mem} (w : W) (k : Nat) : gRepA M (.tup [w]) (.int (k : Int)) = if k ≤ 1000 then some (.tup (List.replicate k w), M) else none := by
  rw [gRepA_tup]
  by_cases hk : k ≤ 1000
  · rw [if_pos hk, if_pos ⟨by simp, by omega, by omega⟩, Int.toNat_natCast, rep_one]
  · rw [if_neg hk, if_neg (fun z => hk (by omega))]
theorem most_le (h t : Hist) (h1 : valid h) (h2 : valid t) : mostF h t ≤ 1000 := by
  have l1 := h1.1; have l2 := h1.2; have l3 := h2.1; have l4 := h2.2
  unfold mostF keptN
  split <;> omega
theorem keeps_plan_at : Keeps 11 c_plan_at F_plan_at := by
  refine keeps3p fun h t n c M e => ?_
  unfold planF at e
  split at e
  · rename_i hv
    cases e
    obtain ⟨h1, h2, h3, h4⟩ := hv
    have f1 := fun M => count_ok M h1 h2 h3 h4
    have f2 := fun M => most_ok M h1 h2 h3 h4
    have f3 := fun M => kept_ok M h1 h2 h3 h4
    have ml := most_le h t h1 h2
    simp only [enc_hist] at f1 f2 f3
    have tl := h2.1
    have hl := h1.1
    unfold planH
    by_cases hc : countP h t ≤ n
    · refine ⟨M, ?_, List.prefix_refl _⟩
      simp [c_plan_at, enc_hist, f1, hc, enc_opn]
    · have hnm : n ≤ mostF h t := by
        unfold countP at hc
        split at hc
        · omega
        · split at hc <;> omega
      have k1 : (mostF h t : Int) - n = ((mostF h t - n : Nat) : Int) := by omega
      rw [if_neg hc]
      by_cases hpn : h.ps = t.ps ∧ n = 0
      · rw [if_pos hpn]
        obtain ⟨hp, h0⟩ := hpn
        subst h0
        refine ⟨M, ?_, List.prefix_refl _⟩
        simp only [hp] at f1 f2 f3
        have a1 : mostF h t ≤ 1000 := ml
        have a2 : h.at_ - t.at_ ≤ 1000 := by omega
        have hc0 : ¬ countP h t = 0 := fun z => hc (by omega)
        have a3 : mostF h t + (h.at_ - t.at_) ≤ 16777216 := by omega
        simp [c_plan_at, enc_hist, enc_ops, f1, f2, hc0, hp, a1, a2, a3]
      · rw [if_neg hpn]
        have hdn : downF h t ≤ h.at_ := by
          unfold downF
          split
          · omega
          · rename_i hp
            have : keptN h t ≠ 0 := fun z => by
              unfold countP distH at hc
              rw [if_neg hp, if_pos z] at hc
              simp at hc
            omega
        obtain ⟨st, hst⟩ : ∃ st, st = mostF h t - n := ⟨_, rfl⟩
        obtain ⟨z, hz⟩ : ∃ z, z = t.ps.length - 1 - t.at_ := ⟨_, rfl⟩
        obtain ⟨dn, hdd⟩ : ∃ dn, dn = downF h t := ⟨_, rfl⟩
        have l1 := h1.2
        have l2 := h2.2
        rw [← hst] at k1 ⊢
        rw [← hz, ← hdd]
        rw [← hdd] at hdn
        have k3 : (t.ps.length : Int) - 1 - (t.at_ : Int) = (z : Int) := by omega
        have a1 : st ≤ 1000 := by omega
        have a2 : dn ≤ 1000 := by omega
        have a3 : z ≤ 1000 := by omega
        have hc' : ¬ (countP h t : Int) ≤ (n : Int) := by omega
        have vo := fun σ hl M => visits_ok σ 10 hl M t.ps (h.at_ - dn + st + 1) (by omega)
        have c1 : cutW (t.ps.map W.str) (some ((h.at_ : Int) - (dn : Int) + (st : Int) + 1)) none = (t.ps.map W.str).drop (h.at_ - dn + st + 1) := by
          rw [show (h.at_ : Int) - (dn : Int) + (st : Int) + 1 = ((h.at_ - dn + st + 1 : Nat) : Int) by omega, cutW_lo]
        have vl : ((t.ps.map (enc ∘ Act.visit)).drop (h.at_ - dn + st + 1) : List W).length ≤ 1000 := by simp; omega
        rw [show (t.ps.drop (h.at_ - dn + st + 1)).map Act.visit = (t.ps.map Act.visit).drop (h.at_ - dn + st + 1) by rw [List.map_drop], enc_ops]
        rw [show (List.replicate dn Act.back ++ List.replicate st Act.forward ++ (t.ps.map Act.visit).drop (h.at_ - dn + st + 1) ++ List.replicate z Act.back).map (enc : Act → W) = List.replicate dn (.tup [.str "back"]) ++ List.replicate st (.tup [.str "forward"]) ++ (t.ps.map (enc ∘ Act.visit)).drop (h.at_ - dn + st + 1) ++ List.replicate z (.tup [.str "back"]) by simp]
        generalize hvl : ((t.ps.map (enc ∘ Act.visit)).drop (h.at_ - dn + st + 1) : List W) = vs at vo vl ⊢
        have b1 : dn + st ≤ 16777216 := by omega
        have b2 : dn + st + vs.length ≤ 16777216 := by omega
        have b3 : dn + st + vs.length + z ≤ 16777216 := by omega
        have b4 : dn + (st + vs.length) + z ≤ 16777216 := by omega
        refine ⟨M ++ [.lst vs], ?_, List.prefix_append _ _⟩
        by_cases hp : h.ps = t.ps
        · have hn : ¬ n = 0 := fun z => hpn ⟨hp, z⟩
          have d0 : dn = 0 := by rw [hdd]; unfold downF; rw [if_pos hp]
          subst d0
          simp only [hp] at f1 f2 f3
          simp only [Nat.zero_add, Nat.sub_zero, Int.natCast_zero, Int.sub_zero, Int.cast_ofNat_Int] at c1 vo b1 b2 b3
          simp [-pMax_eq, hc', c1, vo, c_plan_at, enc_hist, f1, f2, f3, hp, hn, k1, k3, a1, a2, a3, b1, b2, b3, b4]
        · have dm : ∀ M : Mem, pMax [.int 0, .int ((h.at_ : Int) - (keptN h t : Int) + 1)] M = some (.int (dn : Int), M) := fun M => by
            rw [pMax_eq]
            congr 3
            rw [hdd]; unfold downF; rw [if_neg hp]
            omega
          simp [-pMax_eq, dm, hc', c1, vo, c_plan_at, enc_hist, f1, f2, f3, hp, k1, k3, a1, a2, a3, b1, b2, b3, b4]
  · cases e
end BF

set_option Elab.async false
set_option linter.all false
set_option autoImplicit false
set_option maxRecDepth 10000
namespace BF
open PySem Enc
/-! apply_with_menu -/
def menuF (h : Hist) (l : List Act) : Option Hist := if roomy h l.length then some (runH h l) else none
def F_apply_with_menu : Fn := fn2 menuF
abbrev b1_apply_with_menu : CS :=
  (sIf (tB (e2 gNe (e2 gIx (eV 2) (eL (.int 0))) (eL (.str "go")))) (sSet (gV 0) (eN F_after [(eV 0), (eV 2)])) (sIf (tB (e2 gLt (e2 gIx (eV 2) (eL (.int 1))) (eN pLen [(e2 gIx (eV 0) (eL (.int 0)))]))) (sSet (gV 0) (eTup [(e2 gIx (eV 0) (eL (.int 0))), (e2 gIx (eV 2) (eL (.int 1)))])) sNil))
abbrev N_apply_with_menu : List Str := ["history", "script", "action"]
def c_apply_with_menu : CS :=
  (sSeq (sFor (iTup (eV 1)) (gV 2) (sIf (tB (e2 gNe (e2 gIx (eV 2) (eL (.int 0))) (eL (.str "go")))) (sSet (gV 0) (eN F_after [(eV 0), (eV 2)])) (sIf (tB (e2 gLt (e2 gIx (eV 2) (eL (.int 1))) (eN pLen [(e2 gIx (eV 0) (eL (.int 0)))]))) (sSet (gV 0) (eTup [(e2 gIx (eV 0) (eL (.int 0))), (e2 gIx (eV 2) (eL (.int 1)))])) sNil)))
  (sRet (eV 0)))
theorem menu_ok {h : Hist} {l : List Act} (M : Mem) (hv : roomy h l.length) : F_apply_with_menu [enc h, enc l] M = some (enc (runH h l), M) := by
  have := fn2_eq menuF h l M
  unfold menuF at this
  rw [if_pos hv] at this
  exact this
theorem keeps_apply_with_menu : Keeps 3 c_apply_with_menu F_apply_with_menu := by
  refine keeps2p fun h l c M e => ?_
  unfold menuF at e
  split at e
  · rename_i hv
    cases e
    have key : ∀ (l : List Act) (h : Hist) (σ : Sl), roomy h l.length → σ.length = 3 → σ[0]? = some (some (enc h)) →
        ∃ σ', forL gdT (gV 2) b1_apply_with_menu (l.map enc) σ M = some (.nx σ' M) ∧ σ'[0]? = some (some (enc (runH h l))) := by
      intro l
      induction l with
      | nil => intro h σ _ _ h0; exact ⟨σ, forL_nil rfl, h0⟩
      | cons a l ih =>
        intro h σ hr hl h0
        rw [List.length_cons] at hr
        match σ, hl, h0 with
        | [s0, s1, s2], _, h0 =>
          cases h0
          obtain ⟨σ', e1, e2⟩ := ih (stepH h a) [some (enc (stepH h a)), s1, some (enc a)] (roomy_step a hr) rfl rfl
          refine ⟨σ', ?_, e2⟩
          have hv : valid h := ⟨hr.1, by have := hr.2; omega⟩
          rw [List.map_cons, forL_cons (σ1 := [some (enc h), s1, some (enc a)]) (o := .nx [some (enc (stepH h a)), s1, some (enc a)] M) rfl rfl ?_]
          · exact e1
          · cases a with
            | go i =>
              by_cases hi : i < h.ps.length
              · simp [stepH, enc_hist, hi]
              · simp [stepH, enc_hist, hi]
            | visit p =>
              have f1 := after_ok M hv (a := .visit p) rfl
              simp only [enc_visit] at f1
              simp [f1]
            | back =>
              have f1 := after_ok M hv (a := .back) rfl
              simp only [enc_back] at f1
              simp [f1]
            | forward =>
              have f1 := after_ok M hv (a := .forward) rfl
              simp only [enc_forward] at f1
              simp [f1]
    obtain ⟨σ', e1, e2⟩ := key l h [some (enc h), some (enc l), none] hv rfl rfl
    simp only [enc_list] at e1
    refine ⟨M, ?_, List.prefix_refl _⟩
    simp [c_apply_with_menu, enc_list, e1, e2]
  · cases e
end BF

set_option Elab.async false
set_option linter.all false
set_option autoImplicit false
set_option maxRecDepth 10000
namespace BF
open PySem Enc
/-! jump -/
def jumpL (i j : Nat) : List Act := if i = j then [] else [.go j]
def F_jump : Fn := fn2 fun (i j : Nat) => some (jumpL i j)
abbrev N_jump : List Str := ["start", "end"]
def c_jump : CS :=
  (sRet (eIf (tB (e2 gNe (eV 0) (eV 1))) (eTup [(eTup [(eL (.str "go")), (eV 1)])]) (eTup [])))
theorem jump_ok (i j : Nat) (M : Mem) : F_jump [.int i, .int j] M = some (enc (jumpL i j), M) := fn2_eq (fun (i j : Nat) => some (jumpL i j)) i j M
theorem keeps_jump : Keeps 2 c_jump F_jump := by
  refine keeps2p fun i j c M e => ?_
  cases e
  refine ⟨M, ?_, List.prefix_refl _⟩
  unfold jumpL
  by_cases h : i = j
  · subst h
    simp [c_jump, enc_list]
  · simp [c_jump, enc_list, h, Int.natCast_inj]
end BF

set_option Elab.async false
set_option linter.all false
set_option autoImplicit false
set_option maxRecDepth 10000
namespace BF
open PySem Enc
/-! plan_with_menu -/
def planB (h t : Hist) (b : Nat) : List Act := jumpL h.at_ b ++ (t.ps.drop (b + 1)).map .visit ++ jumpL (t.ps.length - 1) t.at_
def baseB (h t : Hist) : Nat := min h.at_ (keptN h t - 1)
def planM (h t : Hist) : Option (List Act) :=
  if h.ps = t.ps then some (jumpL h.at_ t.at_)
  else if keptN h t = 0 then none
  else some (if (planB h t (keptN h t - 1)).length ≤ (planB h t (baseB h t)).length then planB h t (keptN h t - 1) else planB h t (baseB h t))
def planMF (h t : Hist) : Option (Option (List Act)) := if valid h ∧ valid t ∧ h.ps.length ≤ 900 ∧ t.ps.length ≤ 900 then some (planM h t) else none
def F_plan_with_menu : Fn := fn2 planMF
abbrev b1_plan_with_menu : CS :=
  (sSeq (sSet (gV 10) (eN pTuple [(eLc (iTup (eSl (eV 4) (some (e2 gAdd (eV 9) (eL (.int 1)))) none)) (gV 11) tTrue (eTup [(eL (.str "visit")), (eV 11)]) [11])]))
  (sExpr (eML mAppend (eV 8) [(e2 gAdd (e2 gAdd (eN F_jump [(eV 3), (eV 9)]) (eV 10)) (eN F_jump [(eV 7), (eV 5)]))])))
abbrev N_plan_with_menu : List Str := ["history", "target", "pages", "place", "wanted", "end", "kept", "last", "some", "base", "visits", "page"]
def c_plan_with_menu : CS :=
  (sSeq (sSet (gT [(gT [(gV 2), (gV 3)]), (gT [(gV 4), (gV 5)])]) (eTup [(eV 0), (eV 1)]))
  (sSeq (sIf (tB (e2 gEq (eV 2) (eV 4))) (sRet (eN F_jump [(eV 3), (eV 5)])) sNil)
  (sSeq (sPar [6, 7] [(eN F_kept_pages [(eV 0), (eV 1)]), (e2 gSub (eN pLen [(eV 4)]) (eL (.int 1)))])
  (sSeq (sIf (tB (e2 gEq (eV 6) (eL (.int 0)))) (sRet (eL .non)) sNil)
  (sSeq (sSet (gV 8) (eLst []))
  (sSeq (sFor (iLst (eLst [(e2 gSub (eV 6) (eL (.int 1))), (eN pMin [(eV 3), (e2 gSub (eV 6) (eL (.int 1)))])])) (gV 9) (sSeq (sSet (gV 10) (eN pTuple [(eLc (iTup (eSl (eV 4) (some (e2 gAdd (eV 9) (eL (.int 1)))) none)) (gV 11) tTrue (eTup [(eL (.str "visit")), (eV 11)]) [11])]))
  (sExpr (eML mAppend (eV 8) [(e2 gAdd (e2 gAdd (eN F_jump [(eV 3), (eV 9)]) (eV 10)) (eN F_jump [(eV 7), (eV 5)]))]))))
  (sRet (eIf (tB (e2 gLe (eN pLen [(e2 gIx (eV 8) (eL (.int 0)))]) (eN pLen [(e2 gIx (eV 8) (eL (.int 1)))]))) (e2 gIx (eV 8) (eL (.int 0))) (e2 gIx (eV 8) (eL (.int 1)))))))))))
theorem planM_ok {h t : Hist} (M : Mem) (h1 : valid h) (h2 : valid t) (h3 : h.ps.length ≤ 900) (h4 : t.ps.length ≤ 900) : F_plan_with_menu [enc h, enc t] M = some (enc (planM h t), M) := by
  have := fn2_eq planMF h t M
  unfold planMF at this
  rw [if_pos ⟨h1, h2, h3, h4⟩] at this
  exact this
theorem jumpL_len (i j : Nat) : (jumpL i j).length ≤ 1 := by unfold jumpL; split <;> simp
theorem menu_body (h t : Hist) (h4 : t.ps.length ≤ 900) (b : Nat) (M g : Mem) (acc ws : List W) (ha : acc.length ≤ 10) (s0 s1 s2 s6 s10 s11 : Option W) :
    b1_plan_with_menu [s0, s1, s2, some (.int h.at_), some (.tup (t.ps.map W.str)), some (.int t.at_), s6, some (.int ((t.ps.length - 1 : Nat) : Int)), some (.ref M.length), some (.int b), s10, s11] (M ++ (.lst acc :: .lst ws :: g)) =
      some (.nx [s0, s1, s2, some (.int h.at_), some (.tup (t.ps.map W.str)), some (.int t.at_), s6, some (.int ((t.ps.length - 1 : Nat) : Int)), some (.ref M.length), some (.int b), some (.tup ((t.ps.map (enc ∘ Act.visit)).drop (b + 1))), s11] (M ++ (.lst (acc ++ [enc (planB h t b)]) :: .lst ws :: (g ++ [.lst ((t.ps.map (enc ∘ Act.visit)).drop (b + 1))])))) := by
  have vo := visits_ok [s0, s1, s2, some (.int h.at_), some (.tup (t.ps.map W.str)), some (.int t.at_), s6, some (.int ((t.ps.length - 1 : Nat) : Int)), some (.ref M.length), some (.int b), s10, s11] 11 (by simp) (M ++ (.lst acc :: .lst ws :: g)) t.ps (b + 1) (by omega)
  have f1 := fun M => jump_ok h.at_ b M
  have f2 := fun M => jump_ok (t.ps.length - 1) t.at_ M
  have l1 := jumpL_len h.at_ b
  have l2 := jumpL_len (t.ps.length - 1) t.at_
  have vl : ((t.ps.map (enc ∘ Act.visit)).drop (b + 1) : List W).length ≤ 1000 := by simp; omega
  have ep : (enc (planB h t b) : W) = .tup ((jumpL h.at_ b).map enc ++ (t.ps.map (enc ∘ Act.visit)).drop (b + 1) ++ (jumpL (t.ps.length - 1) t.at_).map enc) := by
    simp [planB, enc_list, List.map_drop]
  rw [ep]
  simp only [enc_list] at f1 f2
  generalize ((t.ps.map (enc ∘ Act.visit)).drop (b + 1) : List W) = vs at *
  generalize jumpL h.at_ b = j1 at *
  generalize jumpL (t.ps.length - 1) t.at_ = j2 at *
  have b1 : j1.length + vs.length ≤ 16777216 := by omega
  have b2 : j1.length + vs.length + j2.length ≤ 16777216 := by omega
  have b3 : acc.length < 16777216 := by omega
  simp at vo
  simp [vo, f1, f2, b1, b2, b3]
theorem keeps_plan_with_menu : Keeps 12 c_plan_with_menu F_plan_with_menu := by
  refine keeps2p fun h t c M e => ?_
  unfold planMF at e
  split at e
  · rename_i hv
    cases e
    obtain ⟨h1, h2, h3, h4⟩ := hv
    have f1 := fun M => jump_ok h.at_ t.at_ M
    have f3 := fun M => kept_ok M h1 h2 h3 h4
    simp only [enc_hist] at f3
    have tl := h2.1
    unfold planM
    by_cases hp : h.ps = t.ps
    · refine ⟨M, ?_, List.prefix_refl _⟩
      simp only [enc_list] at f1
      simp [c_plan_with_menu, enc_hist, enc_ops, f1, hp]
    · rw [if_neg hp]
      have k1 : (t.ps.length : Int) - 1 = ((t.ps.length - 1 : Nat) : Int) := by omega
      by_cases hk : keptN h t = 0
      · refine ⟨M, ?_, List.prefix_refl _⟩
        simp [c_plan_with_menu, enc_hist, enc_opn, f3, hp, hk]
      · rw [if_neg hk]
        have k2 : (keptN h t : Int) - 1 = ((keptN h t - 1 : Nat) : Int) := by omega
        obtain ⟨A, hA⟩ : ∃ A, A = keptN h t - 1 := ⟨_, rfl⟩
        obtain ⟨B, hB⟩ : ∃ B, B = min h.at_ A := ⟨_, rfl⟩
        have hB2 : baseB h t = B := by rw [hB, hA]; rfl
        rw [hB2, ← hA]
        rw [← hA] at k2
        have m1 := fun s0 s1 s2 s6 s10 s11 => menu_body h t h4 A M [] [] [.int A, .int B] (by simp) s0 s1 s2 s6 s10 s11
        have m2 := fun s0 s1 s2 s6 s10 s11 => menu_body h t h4 B M [.lst ((t.ps.map (enc ∘ Act.visit)).drop (A + 1))] [enc (planB h t A)] [.int A, .int B] (by simp) s0 s1 s2 s6 s10 s11
        have lp : forL (fun M' => decide (M'[M.length + 1]? = some (.lst [.int A, .int B]))) (gV 9) b1_plan_with_menu [.int A, .int B]
            [some (enc h), some (enc t), some (.tup (h.ps.map W.str)), some (.int h.at_), some (.tup (t.ps.map W.str)), some (.int t.at_), some (.int (keptN h t)), some (.int ((t.ps.length - 1 : Nat) : Int)), some (.ref M.length), none, none, none] (M ++ [.lst [], .lst [.int A, .int B]]) =
            some (.nx [some (enc h), some (enc t), some (.tup (h.ps.map W.str)), some (.int h.at_), some (.tup (t.ps.map W.str)), some (.int t.at_), some (.int (keptN h t)), some (.int ((t.ps.length - 1 : Nat) : Int)), some (.ref M.length), some (.int B), some (.tup ((t.ps.map (enc ∘ Act.visit)).drop (B + 1))), none]
              (M ++ [.lst [enc (planB h t A), enc (planB h t B)], .lst [.int A, .int B], .lst ((t.ps.map (enc ∘ Act.visit)).drop (A + 1)), .lst ((t.ps.map (enc ∘ Act.visit)).drop (B + 1))])) := by
          rw [forL_cons (by simp) rfl (m1 _ _ _ _ _ _)]
          simp only [contO, List.nil_append]
          rw [forL_cons (by simp) rfl (m2 _ _ _ _ _ _)]
          simp only [contO, List.cons_append, List.nil_append]
          exact forL_nil (by simp)
        have eA : (enc (planB h t A) : W) = .tup ((planB h t A).map enc) := rfl
        have eB : (enc (planB h t B) : W) = .tup ((planB h t B).map enc) := rfl
        generalize planB h t A = pA at *
        generalize planB h t B = pB at *
        simp only [enc_hist, eA, eB] at lp
        refine ⟨_, ?_, List.prefix_append M [.lst [enc pA, enc pB], .lst [.int A, .int B], .lst ((t.ps.map (enc ∘ Act.visit)).drop (A + 1)), .lst ((t.ps.map (enc ∘ Act.visit)).drop (B + 1))]⟩
        by_cases hle : pA.length ≤ pB.length
        · simp [c_plan_with_menu, enc_hist, enc_ops, f3, hp, hk, k1, k2, ← hB, lp, hle, eA, eB]
        · simp [c_plan_with_menu, enc_hist, enc_ops, f3, hp, hk, k1, k2, ← hB, lp, hle, eA, eB]
  · cases e
end BF

set_option Elab.async false
set_option linter.all false
set_option autoImplicit false
set_option maxRecDepth 10000
namespace BF
open PySem Enc
/-! distance_with_menu -/
def distM (h t : Hist) : Option Int := (planM h t).map fun l => (l.length : Int)
def distMF (h t : Hist) : Option (Option Int) := if valid h ∧ valid t ∧ h.ps.length ≤ 900 ∧ t.ps.length ≤ 900 then some (distM h t) else none
def F_distance_with_menu : Fn := fn2 distMF
abbrev N_distance_with_menu : List Str := ["history", "target", "plan"]
def c_distance_with_menu : CS :=
  (sSeq (sSet (gV 2) (eN F_plan_with_menu [(eV 0), (eV 1)]))
  (sRet (eIf (tB (e1 gNotN (eV 2))) (eN pLen [(eV 2)]) (eL .non))))
theorem distM_ok {h t : Hist} (M : Mem) (h1 : valid h) (h2 : valid t) (h3 : h.ps.length ≤ 900) (h4 : t.ps.length ≤ 900) : F_distance_with_menu [enc h, enc t] M = some (enc (distM h t), M) := by
  have := fn2_eq distMF h t M
  unfold distMF at this
  rw [if_pos ⟨h1, h2, h3, h4⟩] at this
  exact this
theorem keeps_distance_with_menu : Keeps 3 c_distance_with_menu F_distance_with_menu := by
  refine keeps2p fun h t c M e => ?_
  unfold distMF at e
  split at e
  · rename_i hv
    cases e
    obtain ⟨h1, h2, h3, h4⟩ := hv
    have f1 := planM_ok M h1 h2 h3 h4
    refine ⟨M, ?_, List.prefix_refl _⟩
    unfold distM
    cases hp : planM h t with
    | none =>
      rw [hp] at f1
      simp only [enc_opn] at f1
      simp [c_distance_with_menu, f1, isN]
    | some l =>
      rw [hp] at f1
      simp only [enc_ops] at f1
      simp [c_distance_with_menu, f1, isN]
  · cases e
end BF

set_option Elab.async false
set_option linter.all false
set_option autoImplicit false
set_option maxRecDepth 10000
namespace BF
open PySem Enc
/-! _law_draw -/
def F__law_draw : Fn := fnT1 fun (m : Nat) ns s => if 0 < m ∧ m < 2 ^ 62 then some (drawD ns m s) else none
abbrev N__law_draw : List Str := ["tape", "many", "prime", "cell", "found"]
def c__law_draw : CS :=
  (sSeq (sSet (gV 2) (eL (.int 2305843009213693951)))
  (sSeq (sIf (tB (e2 gLt (e2 gIx (eV 0) (eL (.int 2))) (eV 1))) (sSeq (sSet (gV 3) (eL (.int 0)))
  (sSeq (sIf (tB (e2 gGt (eN pLen [(e2 gIx (eV 0) (eL (.int 0)))]) (eL (.int 0)))) (sSet (gV 3) (e2 gIx (e2 gIx (eV 0) (eL (.int 0))) (e2 gMod (e2 gIx (eV 0) (eL (.int 1))) (eN pLen [(e2 gIx (eV 0) (eL (.int 0)))])))) sNil)
  (sSeq (sIf (tOr (tB (e2 gGe (e2 gIx (eV 0) (eL (.int 1))) (eN pLen [(e2 gIx (eV 0) (eL (.int 0)))]))) (tB (e2 gLt (eV 3) (e2 gPow (eL (.int 10)) (eL (.int 18)))))) (sSeq (sSet (gV 3) (e2 gMod (e2 gAdd (eV 3) (e2 gMul (eL (.int 1000003)) (e2 gIx (eV 0) (eL (.int 1))))) (eV 2)))
  (sSeq (sSet (gV 3) (e2 gMod (e2 gAdd (e2 gAdd (e2 gMul (eV 3) (eV 3)) (e2 gMul (eL (.int 1181783497276652981)) (eV 3))) (eL (.int 2049848353892358983))) (eV 2)))
  (sSet (gV 3) (e2 gMod (e2 gAdd (e2 gMul (eV 3) (eV 3)) (eL (.int 1442695040888963407))) (eV 2))))) sNil)
  (sSeq (sPut putL (eV 0) (eL (.int 1)) (e2 gAdd (e2 gIx (eV 0) (eL (.int 1))) (eL (.int 1))))
  (sPut putL (eV 0) (eL (.int 2)) (eV 3)))))) sNil)
  (sSeq (sSet (gV 4) (e2 gMod (e2 gIx (eV 0) (eL (.int 2))) (eV 1)))
  (sSeq (sPut putL (eV 0) (eL (.int 2)) (e2 gDiv (e2 gIx (eV 0) (eL (.int 2))) (eV 1)))
  (sRet (eV 4))))))
theorem draw_ok (m : Nat) (ns : List Int) (s : Dr) (g : Mem) (h1 : 0 < m) (h2 : m < 2 ^ 62) : F__law_draw [.ref 2, .int m] (TM ns s g) = some (.int ((drawD ns m s).1 : Nat), TM ns (drawD ns m s).2 g) := by
  have := fnT1_eq (fun (m : Nat) ns s => if 0 < m ∧ m < 2 ^ 62 then some (drawD ns m s) else none) m ns s g
  rw [if_pos ⟨h1, h2⟩] at this
  exact this
theorem keeps__law_draw : Keeps 5 c__law_draw F__law_draw := by
  refine keepsT1 fun m ns s g b s' e => ?_
  split at e
  · rename_i hm
    cases e
    obtain ⟨h1, h2⟩ := hm
    obtain ⟨i, c⟩ := s
    refine ⟨[], ?_⟩
    have b1 : small64 1000003 = true := by decide
    have b2 : small64 1181783497276652981 = true := by decide
    have b3 : small62 10 = true := by decide
    have b4 : (0 : Int) < m := by omega
    have b5 : small64 (m : Int) = true := small64_of (by omega)
    have b6 : ∀ x : Int, small64 (x % 2305843009213693951) = true := fun x => by
      have q1 := Int.emod_nonneg x (show (2305843009213693951 : Int) ≠ 0 by decide)
      have q2 := Int.emod_lt_of_pos x (show (0 : Int) < 2305843009213693951 by decide)
      exact small64_of (by omega)
    have b7 : ∀ x : Int, max (x % (m : Int)) 0 = x % m := fun x => by
      have q1 := Int.emod_nonneg x (show (m : Int) ≠ 0 by omega)
      omega
    by_cases hc : c < m
    · by_cases hl : 0 < ns.length
      · have hl' : (0 : Int) < ns.length := by omega
        have j1 := Int.emod_nonneg i (show (ns.length : Int) ≠ 0 by omega)
        have j2 := Int.emod_lt_of_pos i hl'
        have j3 : (ixW ns.length (i % (ns.length : Int))) = some (i % (ns.length : Int)).toNat := by
          have := ixW_nat (n := ns.length) (j := (i % (ns.length : Int)).toNat) (by omega)
          rw [Int.toNat_of_nonneg j1] at this
          exact this
        obtain ⟨cell, j4⟩ : ∃ cell, ns[(i % (ns.length : Int)).toNat]? = some cell := ⟨_, List.getElem?_eq_getElem (by omega)⟩
        by_cases hi : (ns.length : Int) ≤ i
        · simp [c__law_draw, TM, hc, hl, j3, j4, hi, h1, b1, b2, b3, b4, b5, b6, b7, drawD, nextT, mixT]
        · by_cases hs : cell < 1000000000000000000
          · simp [c__law_draw, TM, hc, hl, j3, j4, hi, hs, h1, b1, b2, b3, b4, b5, b6, b7, drawD, nextT, mixT]
          · simp [c__law_draw, TM, hc, hl, j3, j4, hi, hs, h1, b1, b2, b3, b4, b5, b6, b7, drawD, nextT, mixT]
      · by_cases hi : (ns.length : Int) ≤ i
        · simp [c__law_draw, TM, hc, hl, hi, h1, b1, b2, b3, b4, b5, b6, b7, drawD, nextT, mixT]
        · simp [c__law_draw, TM, hc, hl, hi, h1, b1, b2, b3, b4, b5, b6, b7, drawD, nextT, mixT]
    · simp [c__law_draw, TM, hc, h1, b1, b2, b3, b4, b5, b6, b7, drawD, nextT, mixT]
  · cases e
end BF

set_option Elab.async false
set_option linter.all false
set_option autoImplicit false
set_option maxRecDepth 10000
namespace BF
open PySem Enc
/-! _law_like, to a depth -/
def likeW (M : Mem) : Nat → W → W → Option Bool
  | 0, _, _ => none
  | k + 1, x, y => match seqW M x with
    | some (b, xs) => match seqW M y with
      | some (c, ys) => if b ≠ c then some false else if xs.length ≠ ys.length then some false else if xs.length ≤ 100000 then (mapO (fun p => likeW M k p.1 p.2) (xs.zip ys)).map fun bs => bs.all id else none
      | none => if isScal y = true then some false else none
    | none => if isScal x = true then match seqW M y with
        | some _ => some false
        | none => if isScal y = true then (if isBl x = isBl y then eqW M x y else some false) else none
      else none
def F__law_like (d : Nat) : Fn := fun ws M => match ws with
  | [x, y] => (likeW M d x y).map fun b => (.bl b, M)
  | _ => none
abbrev N__law_like : List Str := ["one", "two", "k"]
def c__law_like (R : Fn) : CS :=
  (sSeq (sIf (tB (e1 (gIsi2 "list" "tuple") (eV 0))) (sSeq (sIf (tOr (tB (e2 gNe (e1 (gIsi "list") (eV 0)) (e1 (gIsi "list") (eV 1)))) (tB (e2 gNe (e1 (gIsi "tuple") (eV 0)) (e1 (gIsi "tuple") (eV 1))))) (sRet (eL (.bl false))) sNil)
  (sSeq (sIf (tB (e2 gNe (eN pLen [(eV 0)]) (eN pLen [(eV 1)]))) (sRet (eL (.bl false))) sNil)
  (sRet (e2 gEq (eLc (iRange1 (eN pLen [(eV 0)])) (gV 2) (tNot (tB (eN R [(e2 gIx (eV 0) (eV 2)), (e2 gIx (eV 1) (eV 2))]))) (eV 2) [2]) (eLst []))))) sNil)
  (sSeq (sIf (tB (e1 (gIsi2 "list" "tuple") (eV 1))) (sRet (eL (.bl false))) sNil)
  (sRet (eAnd (e2 gEq (e1 (gIsi "bool") (eV 0)) (e1 (gIsi "bool") (eV 1))) (e2 gEq (eV 0) (eV 1))))))
theorem like_seq {M : Mem} {x y : W} {b c : Bool} {xs ys : List W} (R : Fn) (hx : seqW M x = some (b, xs)) (hy : seqW M y = some (c, ys)) {r : Bool}
    (h : b = c → xs.length = ys.length → xs.length ≤ 100000 ∧ ∃ bs : List Bool, bs.length = xs.length ∧ bs.all id = r ∧ ∀ (i : Nat) (p q : W), xs[i]? = some p → ys[i]? = some q → ∀ g, ∃ z, bs[i]? = some z ∧ R [p, q] (M ++ g) = some (.bl z, M ++ g))
    (h2 : b ≠ c → r = false) (h3 : xs.length ≠ ys.length → r = false) :
    ∃ g, c__law_like R [some x, some y, none] M = some (.rt (.bl r) (M ++ g)) := by
  unfold c__law_like
  simp only [sSeq_eq, sIf_eq, tB_eq, e1_eq, eV_eq, List.getD_cons_zero, List.getD_cons_succ, Option.bind_some, isi2_seq hx, if_true, tOr_eq, e2_eq, gNe_eq, isiL_seq hx, isiL_seq hy, eqW_bl, Option.map_some]
  by_cases hb : b = c
  · subst hb
    simp only [decide_true, Bool.not_true, Bool.false_eq_true, if_false, isiT_seq hx, isiT_seq hy, Option.bind_some, eqW_bl, Option.map_some, sNil_eq, eN_eq, eArgs_cons, eArgs_nil, eV_eq, List.getD_cons_zero, List.getD_cons_succ, len_seq hx, len_seq hy, eqW_int, sRet_eq, eL_eq]
    by_cases hl : xs.length = ys.length
    · obtain ⟨hL, bs, hbl, hr, hR⟩ := h rfl hl
      have hx' := hx
      simp only [← hl, decide_true, Bool.not_true, Bool.false_eq_true, if_false, e2_eq, eLc_eq, iRange1_eq, eN_eq, eArgs_cons, eArgs_nil, eV_eq, List.getD_cons_zero, Option.bind_some, len_seq hx]
      have k2 : small62 (xs.length : Int) = true := small62_of (by omega)
      simp only [k2, if_true, Option.bind_some, Int.toNat_natCast]
      have key := lcL_filter (gd := gdT) (g := gV 2) (t := tNot (tB (eN R [(e2 gIx (eV 0) (eV 2)), (e2 gIx (eV 1) (eV 2))]))) (e := eV 2) (vs := [2]) (σ := [some x, some y, none]) (rangeW 0 xs.length) id
        (fun w => match w with | .int i => !(bs.getD i.toNat true) | _ => false) M [] (by rw [rangeW_length]; simp; omega) (fun _ => rfl) (fun w hw l => by
          obtain ⟨i, hi, rfl⟩ := rangeW_mem hw
          refine ⟨[some x, some y, some (.int (0 + (i : Nat)))], rfl, ?_, fun _ => rfl⟩
          obtain ⟨p, hp⟩ : ∃ p, xs[i]? = some p := ⟨_, List.getElem?_eq_getElem hi⟩
          obtain ⟨q, hq⟩ : ∃ q, ys[i]? = some q := ⟨_, List.getElem?_eq_getElem (by omega)⟩
          obtain ⟨z, hz, hRz⟩ := hR i p q hp hq [.lst l]
          have f1 := ix_seq' (seqW_app (g := [.lst l]) hx) hp
          have f2 := ix_seq' (seqW_app (g := [.lst l]) hy) hq
          simp [f1, f2, hRz, hz])
      rw [key]
      simp only [Option.bind_some, eLst_eq, eArgs_nil, List.length_nil, Nat.zero_le, if_true, List.nil_append, List.map_id, gEq_eq]
      have hf : ∃ is : List Int, (rangeW 0 xs.length).filter (fun w => match w with | .int i => !(bs.getD i.toNat true) | _ => false) = is.map enc ∧ (is = [] ↔ bs.all id = true) := by
        refine ⟨((List.range xs.length).filter fun i => !(bs.getD i true)).map fun i => (0 + (i : Nat) : Int), ?_, ?_⟩
        · unfold rangeW
          rw [List.filter_map, List.map_map]
          have hp : ((fun w => match w with | .int i => !(bs.getD i.toNat true) | _ => false) ∘ fun (i : Nat) => W.int (0 + (i : Int))) = fun i => !(bs.getD i true) := by
            funext i
            show (!(bs.getD (0 + (i : Int)).toNat true)) = _
            rw [Int.zero_add, Int.toNat_natCast]
          rw [hp]
          exact List.map_congr_left fun _ _ => rfl
        · rw [List.map_eq_nil_iff, List.filter_eq_nil_iff, List.all_eq_true]
          constructor
          · intro h0 z hz
            obtain ⟨i, hi⟩ := List.getElem?_of_mem hz
            have hil : i < xs.length := by rw [← hbl]; exact (List.getElem?_eq_some_iff.mp hi).1
            have := h0 i (List.mem_range.mpr hil)
            rw [List.getD_eq_getElem?_getD, hi] at this
            simpa using this
          · intro h0 i hi
            have hil : i < bs.length := by rw [hbl]; exact List.mem_range.mp hi
            have := h0 bs[i] (List.getElem_mem hil)
            simp [hil] at this ⊢
            exact this
      obtain ⟨is, hf1, hf2⟩ := hf
      rw [hf1]
      have := eqW_lst (α := Int) (M ++ [.lst (is.map enc)] ++ [.lst []]) M.length (M ++ [MO.lst (is.map enc)]).length is [] (by simp) (by simp)
      refine ⟨[.lst (is.map enc)] ++ [.lst []], ?_⟩
      have hd : decide (is = []) = r := by
        rw [← hr, Bool.eq_iff_iff, decide_eq_true_eq]
        exact hf2
      rw [hd, List.append_assoc] at this
      simp only [this, Option.map_some, Option.bind_some, List.append_assoc]
    · refine ⟨[], ?_⟩
      have k1 : (!decide ((xs.length : Int) = (ys.length : Int))) = true := by simp; omega
      simp only [if_pos k1, Option.bind_some, h3 hl, List.append_nil]
  · refine ⟨[], ?_⟩
    have k1 : (!decide (b = c)) = true := by simp [hb]
    simp only [k1, if_true, Option.bind_some, h2 hb, sRet_eq, eL_eq, List.append_nil]

theorem isScal_closed {w : W} (h : isScal w = true) (n : Nat) : w.closed n = true := by cases w <;> first | rfl | cases h
theorem like_scal1 {M : Mem} {x y : W} {b : Bool} {xs : List W} (R : Fn) (hx : seqW M x = some (b, xs)) (hy : isScal y = true) : ∃ g, c__law_like R [some x, some y, none] M = some (.rt (.bl false) (M ++ g)) := by
  refine ⟨[], ?_⟩
  unfold c__law_like
  cases b <;> simp [isi2_seq hx, isiL_seq hx, isiT_seq hx, isiL_scal hy, isiT_scal hy]
theorem like_scal2 {M : Mem} {x y : W} {b : Bool} {ys : List W} (R : Fn) (hx : isScal x = true) (hy : seqW M y = some (b, ys)) : ∃ g, c__law_like R [some x, some y, none] M = some (.rt (.bl false) (M ++ g)) := by
  refine ⟨[], ?_⟩
  unfold c__law_like
  simp [isi2_scal hx, isi2_seq hy]
theorem like_scal3 {M : Mem} {x y : W} (R : Fn) {r : Bool} (hx : isScal x = true) (hy : isScal y = true) (h : isBl x = isBl y → eqW M x y = some r) (h2 : isBl x ≠ isBl y → r = false) : ∃ g, c__law_like R [some x, some y, none] M = some (.rt (.bl r) (M ++ g)) := by
  refine ⟨[], ?_⟩
  unfold c__law_like
  by_cases hb : isBl x = isBl y
  · simp [isi2_scal hx, isi2_scal hy, isiB_scal hx, isiB_scal hy, hb, h hb]
  · simp [isi2_scal hx, isi2_scal hy, isiB_scal hx, isiB_scal hy, hb, h2 hb]
theorem toD_app {M g : Mem} : ∀ (k : Nat) (x : W) (d : PyData), toD M k x = some d → toD (M ++ g) k x = some d
  | 0, _, _, h => by cases h
  | k + 1, x, d, h => by
    have all : ∀ (ws : List W) (ds : List PyData), mapO (toD M k) ws = some ds → mapO (toD (M ++ g) k) ws = some ds := by
      intro ws
      induction ws with
      | nil => intro ds h; exact h
      | cons w ws ih =>
        intro ds h
        rw [mapO] at h
        split at h
        · rename_i b bs h1 h2
          cases h
          rw [mapO, toD_app k w b h1, ih bs h2]
        · cases h
    cases x with
    | tup ws =>
      rw [toD] at h ⊢
      obtain ⟨ds, h1, rfl⟩ := Option.map_eq_some_iff.mp h
      rw [all ws ds h1]; rfl
    | ref n =>
      rw [toD] at h ⊢
      split at h
      · rename_i ws hw
        obtain ⟨ds, h1, rfl⟩ := Option.map_eq_some_iff.mp h
        rw [get_app hw]
        simp only [all ws ds h1]; rfl
      · rename_i ws hw
        obtain ⟨ds, h1, rfl⟩ := Option.map_eq_some_iff.mp h
        rw [get_app hw]
        simp only [all ws ds h1]; rfl
      · cases h
    | _ => exact h
theorem eqW_app {M g : Mem} {x y : W} {b : Bool} (h : eqW M x y = some b) : eqW (M ++ g) x y = some b := by
  unfold eqW at h
  split at h
  · rename_i d e h1 h2
    cases h
    unfold eqW
    rw [toD_app 64 x d h1, toD_app 64 y e h2]
  · cases h
theorem seqW_none_app {M g : Mem} {x : W} (h : isScal x = true) : seqW M x = none ∧ seqW (M ++ g) x = none := by cases x <;> first | exact ⟨rfl, rfl⟩ | cases h
theorem likeW_grow {M g : Mem} : ∀ (k : Nat) (x y : W) (b : Bool), likeW M k x y = some b → likeW (M ++ g) k x y = some b
  | 0, _, _, _, h => by cases h
  | k + 1, x, y, b, h => by
    rw [likeW] at h ⊢
    split at h
    · rename_i b1 xs hx
      rw [seqW_app hx]
      split at h
      · rename_i c ys hy
        rw [seqW_app hy]
        simp only at h ⊢
        split at h
        · rename_i hb; rw [if_pos hb]; exact h
        · rename_i hb
          rw [if_neg hb]
          split at h
          · rename_i hl; rw [if_pos hl]; exact h
          · rename_i hl
            rw [if_neg hl]
            split at h
            · rename_i h5
              rw [if_pos h5]
              obtain ⟨bs, h1, h2⟩ := Option.map_eq_some_iff.mp h
              have all : ∀ (ps : List (W × W)) (bs : List Bool), mapO (fun p => likeW M k p.1 p.2) ps = some bs → mapO (fun p => likeW (M ++ g) k p.1 p.2) ps = some bs := by
                intro ps
                induction ps with
                | nil => intro ds h; exact h
                | cons w ws ih =>
                  intro ds h
                  rw [mapO] at h
                  split at h
                  · rename_i b bs h1 h2
                    cases h
                    rw [mapO, likeW_grow k w.1 w.2 b h1, ih bs h2]
                  · cases h
              rw [all _ bs h1, ← h2]; rfl
            · cases h
      · rename_i hy
        split at h
        · rename_i hs
          rw [(seqW_none_app (M := M) (g := g) hs).2]
          simp only [if_pos hs]; exact h
        · cases h
    · rename_i hx
      split at h
      · rename_i hs
        rw [(seqW_none_app (M := M) (g := g) hs).2]
        simp only [if_pos hs]
        split at h
        · rename_i hy
          rw [seqW_app hy]; exact h
        · split at h
          · rename_i hy
            rw [(seqW_none_app (M := M) (g := g) hy).2]
            simp only [if_pos hy]
            split at h
            · rename_i hb; rw [if_pos hb]; exact eqW_app h
            · rename_i hb; rw [if_neg hb]; exact h
          · cases h
      · cases h
theorem keeps__law_like (d : Nat) : Keeps 3 (c__law_like (F__law_like d)) (F__law_like (d + 1)) := by
  refine KeepsP.keeps ?_
  intro ws M w M' hc hw e
  unfold F__law_like at e
  split at e
  · rename_i x y
    obtain ⟨r, hr, e2⟩ := Option.map_eq_some_iff.mp e
    cases e2
    have fin : (∃ g, c__law_like (F__law_like d) [some x, some y, none] M = some (.rt (.bl r) (M ++ g))) → ∃ g, (c__law_like (F__law_like d) (([x, y] : List W).map some ++ List.replicate (3 - ([x, y] : List W).length) none) M = some (.rt (.bl r) (M ++ g)) ∨
      W.bl r = .non ∧ ∃ σ', c__law_like (F__law_like d) (([x, y] : List W).map some ++ List.replicate (3 - ([x, y] : List W).length) none) M = some (.nx σ' (M ++ g))) ∧ M.length ≤ M.length ∧ Closed M ∧ (W.bl r).closed M.length = true :=
      fun ⟨g, hg⟩ => ⟨g, .inl hg, Nat.le_refl _, hc, rfl⟩
    refine fin ?_
    rw [likeW] at hr
    split at hr
    · rename_i b xs hx
      split at hr
      · rename_i c ys hy
        refine like_seq _ hx hy (fun h1 h2 => ?_) (fun h1 => ?_) (fun h2 => ?_)
        · subst h1
          rw [if_neg (by simp), if_neg (by simpa using h2)] at hr
          split at hr
          · rename_i h5
            obtain ⟨bs, h3, h4⟩ := Option.map_eq_some_iff.mp hr
            obtain ⟨l1, l2⟩ := mapO_at h3
            refine ⟨h5, bs, by rw [l1, List.length_zip]; omega, h4, fun i p q hp hq g => ?_⟩
            obtain ⟨z, hz, hlk⟩ := l2 i (p, q) (by rw [List.getElem?_zip_eq_some]; exact ⟨hp, hq⟩)
            refine ⟨z, hz, ?_⟩
            show (likeW (M ++ g) d p q).map _ = _
            rw [likeW_grow d p q z hlk]; rfl
          · cases hr
        · rw [if_pos h1] at hr
          cases hr; rfl
        · by_cases h1 : b ≠ c
          · rw [if_pos h1] at hr; cases hr; rfl
          · rw [if_neg h1, if_pos h2] at hr; cases hr; rfl
      · split at hr
        · rename_i hs
          cases hr
          exact like_scal1 _ hx hs
        · cases hr
    · split at hr
      · rename_i hs
        split at hr
        · rename_i hy
          cases hr
          exact like_scal2 _ hs hy
        · split at hr
          · rename_i hs2
            refine like_scal3 _ hs hs2 (fun hb => ?_) (fun hb => ?_)
            · rw [if_pos hb] at hr; exact hr
            · rw [if_neg hb] at hr; cases hr; rfl
          · cases hr
      · cases hr
  · cases e
/-- no tuple in it is long -/
def smallW : Nat → W → Bool
  | 0, _ => false
  | k + 1, .tup ws => decide (ws.length ≤ 100000) && ws.all (smallW k)
  | _ + 1, .non | _ + 1, .bl _ | _ + 1, .int _ | _ + 1, .str _ | _ + 1, .ref _ => true
/-- of list-free values it is equality itself -/
theorem eqP_scal {x y : W} (hx : isScal x = true) (hy : isScal y = true) (hb : isBl x = isBl y) : eqP x y = decide (x = y) := by
  rw [Bool.eq_iff_iff, decide_eq_true_eq]
  cases x <;> cases y <;> simp [isScal, isBl, eqP] at *
theorem likeW_S (M : Mem) (k : Nat) (x y : W) (sx : isScal x = true) (sy : isScal y = true) (hx : okW (k + 1) x = true) (hy : okW (k + 1) y = true) (hk : k + 1 ≤ 64) : likeW M (k + 1) x y = some (decide (x = y)) := by
  rw [likeW, (seqW_none_app (M := M) (g := []) sx).1]
  simp only [sx, if_true]
  rw [(seqW_none_app (M := M) (g := []) sy).1]
  simp only [sy, if_true]
  split
  · rename_i hb
    rw [eqW_P M (okW_mono _ _ hx 64 hk) (okW_mono _ _ hy 64 hk), eqP_scal sx sy hb]
  · rename_i hb
    congr 1
    symm
    rw [decide_eq_false_iff_not]
    intro e
    exact hb (by rw [e])
theorem likeW_P (M : Mem) : ∀ (k : Nat) (x y : W), okW k x = true → okW k y = true → (∀ z, z = x ∨ z = y → smallW k z = true) → k ≤ 64 → likeW M k x y = some (decide (x = y))
  | 0, _, _, h, _, _, _ => by cases h
  | k + 1, x, y, hx, hy, hz, hk => by
    cases x with
    | ref _ => rw [okW] at hx; cases hx
    | tup xs =>
      cases y with
      | ref _ => rw [okW] at hy; cases hy
      | tup ys =>
        rw [okW, List.all_eq_true] at hx hy
        have s1 := hz _ (.inl rfl)
        have s2 := hz _ (.inr rfl)
        rw [smallW, Bool.and_eq_true, List.all_eq_true] at s1 s2
        rw [likeW]
        show (if false ≠ false then some false else if xs.length ≠ ys.length then some false else if xs.length ≤ 100000 then _ else none) = _
        rw [if_neg (by simp)]
        by_cases hl : xs.length = ys.length
        · rw [if_neg (by simpa using hl), if_pos (of_decide_eq_true s1.1)]
          have : ∀ (xs ys : List W), xs.length = ys.length → (∀ x ∈ xs, okW k x = true) → (∀ x ∈ ys, okW k x = true) → (∀ x ∈ xs, smallW k x = true) → (∀ x ∈ ys, smallW k x = true) →
              (mapO (fun p : W × W => likeW M k p.1 p.2) (xs.zip ys)).map (fun bs => bs.all id) = some (decide (xs = ys)) := by
            intro xs
            induction xs with
            | nil => intro ys h _ _ _ _; cases ys with
              | nil => rfl
              | cons _ _ => cases h
            | cons x xs ih =>
              intro ys h a1 a2 a3 a4
              cases ys with
              | nil => cases h
              | cons y ys =>
                have e1 := likeW_P M k x y (a1 x List.mem_cons_self) (a2 y List.mem_cons_self) (fun z hz => hz.elim (fun e => e ▸ a3 x List.mem_cons_self) (fun e => e ▸ a4 y List.mem_cons_self)) (by omega)
                have e2 := ih ys (by simpa using h) (fun z hz => a1 z (List.mem_cons_of_mem _ hz)) (fun z hz => a2 z (List.mem_cons_of_mem _ hz)) (fun z hz => a3 z (List.mem_cons_of_mem _ hz)) (fun z hz => a4 z (List.mem_cons_of_mem _ hz))
                obtain ⟨bs, h1, h2⟩ := Option.map_eq_some_iff.mp e2
                rw [List.zip_cons_cons, mapO, e1, h1]
                simp only [Option.map_some, List.all_cons, id, h2]
                congr 1
                by_cases hxy : x = y <;> by_cases hxs : xs = ys <;> simp [hxy, hxs]
          rw [this xs ys hl hx hy s1.2 s2.2]
          simp
        · rw [if_pos (by simpa using hl)]
          congr 1
          symm
          rw [decide_eq_false_iff_not]
          intro e
          cases e
          exact hl rfl
      | _ => rfl
    | _ => cases y with
      | ref _ => rw [okW] at hy; cases hy
      | tup _ => rfl
      | _ => exact likeW_S M k _ _ rfl rfl hx hy hk
theorem like_enc {α : Type} [Enc α] [DecidableEq α] (d : Nat) (a b : α) (M : Mem) (h1 : dep α ≤ d) (h2 : d ≤ 64) (sa : smallW d (enc a) = true) (sb : smallW d (enc b) = true) : F__law_like d [enc a, enc b] M = some (.bl (decide (a = b)), M) := by
  unfold F__law_like
  simp only
  rw [likeW_P M d _ _ (okW_mono _ _ (ok a) d h1) (okW_mono _ _ (ok b) d h1) (fun z hz => hz.elim (fun e => e ▸ sa) (fun e => e ▸ sb)) h2]
  have : decide ((enc a : W) = enc b) = decide (a = b) := by
    rw [Bool.eq_iff_iff, decide_eq_true_eq, decide_eq_true_eq]
    exact ⟨fun h => Enc.inj h, fun h => by rw [h]⟩
  rw [this]; rfl
theorem F0__law_like (ws : List W) (M : Mem) : F__law_like 0 ws M = none := by
  unfold F__law_like
  split <;> rfl
end BF

set_option Elab.async false
set_option linter.all false
set_option autoImplicit false
set_option maxRecDepth 10000
namespace BF
open PySem Enc
/-! what all laws begin with -/
abbrev pool3 : List Str := ["a", "b", "c"]
theorem keeps_lawT {n : Nat} {body : CS} (h : ∀ ns : List Int, ns.length ≤ 63 → ∃ s g, body (some (.ref 0) :: List.replicate (n - 1) none) [.ro (ns.map W.int)] = some (.rt (.bl true) (TM ns s g))) : Keeps n body lawF := keeps_law fun ns hn => by
  obtain ⟨s, g, e⟩ := h ns hn
  exact ⟨_, e⟩
theorem small_sight (d : Nat) (x : Sight) : smallW (d + 2) (enc x) = true := by simp [enc_sight, smallW]
theorem small_hist (d : Nat) (x : Hist) (h : x.ps.length ≤ 100000) : smallW (d + 3) (enc x) = true := by simp [enc_hist, smallW]; exact h
theorem small_oi (d : Nat) (x : Option Int) : smallW (d + 1) (enc x) = true := by cases x <;> rfl
/-- a law's frame: the tape, the pages, so many turns -/
theorem law_shape {n K : Nat} {B : CS} {pe : CE} {pl : List Str} (hk : small62 (K : Int) = true) (hp : ∀ σ M, pe σ M = some (enc pl, M)) (hn : 4 ≤ n)
    (turn : ∀ ns s g σ, σ.length = n → σ[1]? = some (some (.ref 2)) → σ[2]? = some (some (enc pl)) → ∃ σ2 s' g', B σ (TM ns s g) = some (.nx σ2 (TM ns s' g')) ∧ σ2.length = n ∧ σ2[1]? = some (some (.ref 2)) ∧ σ2[2]? = some (some (enc pl))) :
    Keeps n (sSeq (sSet (gV 1) (eLst [(eN pList [(eV 0)]), (eL (.int 0)), (eL (.int 0))])) (sSeq (sSet (gV 2) pe) (sSeq (sFor (iRange1 (eL (.int K))) (gV 3) B) (sRet (eL (.bl true)))))) lawF := by
  refine keeps_lawT fun ns hl => ?_
  obtain ⟨m, rfl⟩ : ∃ m, n = m + 4 := ⟨n - 4, by omega⟩
  have key := forL_ind (gd := gdT) (g := gV 3) (body := B) (rangeW 0 K) (fun _ σ M => ∃ s g, M = TM ns s g ∧ σ.length = m + 4 ∧ σ[1]? = some (some (.ref 2)) ∧ σ[2]? = some (some (enc pl)))
    (σ := some (.ref 0) :: some (.ref 2) :: some (enc pl) :: none :: List.replicate m none) (M := TM ns (0, 0) []) ⟨_, _, rfl, by simp, rfl, rfl⟩ (fun _ _ _ _ => rfl) (by
    intro i w σ M _ ⟨s, g, hM, hl, h1, h2⟩
    subst hM
    obtain ⟨σ2, s', g', e, l1, l2, l3⟩ := turn ns s g (σ.set 3 (some w)) (by simpa using hl) (by simpa using h1) (by simpa using h2)
    exact ⟨σ.set 3 (some w), rfl, σ2, _, .inl e, _, _, rfl, l1, l2, l3⟩)
  obtain ⟨σ', M', e, s, g, hM, _⟩ := key
  subst hM
  refine ⟨s, g, ?_⟩
  have kl : ns.length ≤ 16777216 := by omega
  have e0 : List.replicate (m + 4 - 1) (none : Option W) = none :: none :: none :: List.replicate m none := rfl
  rw [e0]
  simp only [TM] at e
  simp [hp, e, kl, hk, TM]
theorem law_tape {R : CS} {n : Nat} {ns : List Int} (hl : ns.length ≤ 63) : (sSeq (sSet (gV 1) (eLst [(eN pList [(eV 0)]), (eL (.int 0)), (eL (.int 0))])) R) (some (.ref 0) :: none :: List.replicate n none) [.ro (ns.map W.int)] = R (some (.ref 0) :: some (.ref 2) :: List.replicate n none) (TM ns (0, 0) []) := by
  have kl : ns.length ≤ 16777216 := by omega
  simp [kl, TM]
end BF

set_option Elab.async false
set_option linter.all false
set_option autoImplicit false
set_option maxRecDepth 10000
namespace BF
open PySem Enc
/-! _law_first_right -/
def pages3 : List Str := ["c", "cc", "zzzzzzzz"]
theorem pages3_or {p : Str} (h : p ∈ pages3) : p = "c" ∨ p = "cc" ∨ p = "zzzzzzzz" := by simpa [pages3] using h
def rightF (p : Str) : Option Bool := if p ∈ pages3 then some true else none
def F__law_first_right : Fn := fn1 rightF
abbrev N__law_first_right : List Str := ["page", "my_history", "due", "start", "my_target", "long"]
def c__law_first_right : CS :=
  (sSeq (sSet (gV 1) (eTup [(eTup [(eL (.str "a")), (eL (.str "b")), (eV 0)]), (eL (.int 1))]))
  (sSeq (sIf (tB (e2 gNe (eN F_apply [(eV 1), (eTup [(eTup [(eL (.str "visit")), (eL (.str "d"))]), (eTup [(eL (.str "visit")), (eL (.str "e"))]), (eTup [(eL (.str "back"))])])]) (eTup [(eTup [(eL (.str "a")), (eL (.str "b")), (eL (.str "d")), (eL (.str "e"))]), (eL (.int 2))]))) (sRet (eL (.bl false))) sNil)
  (sSeq (sSet (gV 2) (eLst [(eTup [(eL (.str "b")), (eL (.bl true)), (eL (.bl true))]), (eTup [(eL (.str "a")), (eL (.bl false)), (eL (.bl true))]), (eTup [(eL (.str "a")), (eL (.bl false)), (eL (.bl true))])]))
  (sSeq (sIf (tOr (tB (e2 gNe (eN F_trail [(eV 1), (eTup [(eTup [(eL (.str "back"))]), (eTup [(eL (.str "back"))])])]) (eV 2))) (tB (e2 gNe (eN F_sight [(eV 1)]) (e2 gIx (eV 2) (eL (.int 0)))))) (sRet (eL (.bl false))) sNil)
  (sSeq (sPar [3, 4] [(eTup [(eTup [(eL (.str "a")), (eL (.str "b")), (eV 0)]), (eL (.int 0))]), (eTup [(eTup [(eL (.str "a")), (eL (.str "b")), (eL (.str "d"))]), (eL (.int 2))])])
  (sSeq (sIf (tOr (tB (e2 gNe (eN F_distance [(eV 3), (eV 4)]) (eL (.int 2)))) (tB (e2 gNe (eN F_count_plans [(eV 3), (eV 4)]) (eL (.int 2))))) (sRet (eL (.bl false))) sNil)
  (sSeq (sIf (tB (e2 gNe (eN F_plan_at [(eV 3), (eV 4), (eL (.int 0))]) (eTup [(eTup [(eL (.str "forward"))]), (eTup [(eL (.str "visit")), (eL (.str "d"))])]))) (sRet (eL (.bl false))) sNil)
  (sSeq (sIf (tOr (tB (e2 gNe (eN F_plan_at [(eV 3), (eV 4), (eL (.int 1))]) (eTup [(eTup [(eL (.str "visit")), (eL (.str "b"))]), (eTup [(eL (.str "visit")), (eL (.str "d"))])]))) (tB (e1 gNotN (eN F_plan_at [(eV 3), (eV 4), (eL (.int 2))])))) (sRet (eL (.bl false))) sNil)
  (sSeq (sIf (tOr (tB (e2 gNe (eN F_distance [(eTup [(eTup [(eL (.str "a")), (eL (.str "b")), (eV 0)]), (eL (.int 2))]), (eTup [(eTup [(eL (.str "a")), (eL (.str "b"))]), (eL (.int 1))])]) (eL (.int 3)))) (tB (e1 gNotN (eN F_distance [(eTup [(eTup [(eL (.str "a")), (eL (.str "b"))]), (eL (.int 1))]), (eTup [(eTup [(eL (.str "a"))]), (eL (.int 0))])])))) (sRet (eL (.bl false))) sNil)
  (sSeq (sSet (gV 5) (eTup [(eTup [(eL (.str "a")), (eL (.str "b")), (eV 0), (eL (.str "d")), (eL (.str "e"))]), (eL (.int 4))]))
  (sSeq (sIf (tB (e2 gNe (eN F_apply_with_menu [(eV 5), (eTup [(eTup [(eL (.str "go")), (eL (.int 1))]), (eTup [(eL (.str "back"))])])]) (eTup [(eTup [(eL (.str "a")), (eL (.str "b")), (eV 0), (eL (.str "d")), (eL (.str "e"))]), (eL (.int 0))]))) (sRet (eL (.bl false))) sNil)
  (sRet (e2 gEq (eN F_distance_with_menu [(eV 5), (eTup [(eTup [(eL (.str "a")), (eL (.str "x"))]), (eL (.int 1))])]) (eL (.int 2)))))))))))))))
theorem first_ok {p : Str} (M : Mem) (h : p ∈ pages3) : F__law_first_right [enc p] M = some (.bl true, M) := by
  have := fn1_eq rightF p M
  unfold rightF at this
  rw [if_pos h] at this
  exact this
theorem eqW_yes {α : Type} [Enc α] [DecidableEq α] (M : Mem) (a : α) (h : dep α ≤ 64 := by decide) : eqW M (enc a) (enc a) = some true := by
  rw [eqW_enc M a a h, decide_eq_true rfl]
theorem keeps__law_first_right : Keeps 6 c__law_first_right F__law_first_right := by
  refine keeps1p fun p b M e => ?_
  unfold rightF at e
  split at e
  · rename_i hp
    cases e
    have hp := pages3_or hp
    have f1 : ∀ M, F_apply [.tup [.tup [.str "a", .str "b", .str p], .int 1], .tup [.tup [.str "visit", .str "d"], .tup [.str "visit", .str "e"], .tup [.str "back"]]] M = some (.tup [.tup [.str "a", .str "b", .str "d", .str "e"], .int 2], M) :=
      fun M => apply_ok (h := ⟨["a", "b", p], 1⟩) (l := [.visit "d", .visit "e", .back]) M ⟨by simp, by simp⟩ rfl
    have e1 : ∀ M, eqW M (.tup [.tup [.str "a", .str "b", .str "d", .str "e"], .int 2]) (.tup [.tup [.str "a", .str "b", .str "d", .str "e"], .int 2]) = some true :=
      fun M => eqW_yes M (⟨["a", "b", "d", "e"], 2⟩ : Hist)
    obtain ⟨T, hT⟩ : ∃ T : List W, T = [.tup [.str "b", .bl true, .bl true], .tup [.str "a", .bl false, .bl true], .tup [.str "a", .bl false, .bl true]] := ⟨_, rfl⟩
    have f2 : ∀ M, F_trail [.tup [.tup [.str "a", .str "b", .str p], .int 1], .tup [.tup [.str "back"], .tup [.str "back"]]] M = some (.ref M.length, M ++ [.lst T]) := by
      intro M
      rw [hT]
      exact trail_ok (h := ⟨["a", "b", p], 1⟩) (l := [.back, .back]) M ⟨by simp, by simp⟩ (by simp) rfl
    have f3 : ∀ M, F_sight [.tup [.tup [.str "a", .str "b", .str p], .int 1]] M = some (.tup [.str "b", .bl true, .bl true], M) :=
      fun M => sight_ok (h := ⟨["a", "b", p], 1⟩) M ⟨by simp, by simp⟩
    have f4 : ∀ M, F_distance [.tup [.tup [.str "a", .str "b", .str p], .int 0], .tup [.tup [.str "a", .str "b", .str "d"], .int 2]] M = some (.int 2, M) := fun M => by
      have h := distance_ok (h := ⟨["a", "b", p], 0⟩) (t := ⟨["a", "b", "d"], 2⟩) M ⟨by simp, by simp⟩ ⟨by simp, by simp⟩ (by simp) (by simp)
      rw [show distH ⟨["a", "b", p], 0⟩ ⟨["a", "b", "d"], 2⟩ = some 2 by rcases hp with rfl | rfl | rfl <;> decide +kernel] at h
      exact h
    have f5 : ∀ M, F_count_plans [.tup [.tup [.str "a", .str "b", .str p], .int 0], .tup [.tup [.str "a", .str "b", .str "d"], .int 2]] M = some (.int 2, M) := fun M => by
      have h := count_ok (h := ⟨["a", "b", p], 0⟩) (t := ⟨["a", "b", "d"], 2⟩) M ⟨by simp, by simp⟩ ⟨by simp, by simp⟩ (by simp) (by simp)
      rw [show countP ⟨["a", "b", p], 0⟩ ⟨["a", "b", "d"], 2⟩ = 2 by rcases hp with rfl | rfl | rfl <;> decide +kernel] at h
      exact h
    have pl : ∀ n M, F_plan_at [.tup [.tup [.str "a", .str "b", .str p], .int 0], .tup [.tup [.str "a", .str "b", .str "d"], .int 2], .int ((n : Nat) : Int)] M = some (enc (planH ⟨["a", "b", p], 0⟩ ⟨["a", "b", "d"], 2⟩ n), M) :=
      fun n M => plan_ok (h := ⟨["a", "b", p], 0⟩) (t := ⟨["a", "b", "d"], 2⟩) n M ⟨by simp, by simp⟩ ⟨by simp, by simp⟩ (by simp) (by simp)
    have f6 : ∀ M, F_plan_at [.tup [.tup [.str "a", .str "b", .str p], .int 0], .tup [.tup [.str "a", .str "b", .str "d"], .int 2], .int 0] M = some (.tup [.tup [.str "forward"], .tup [.str "visit", .str "d"]], M) := fun M => by
      have h := pl 0 M
      rw [show planH ⟨["a", "b", p], 0⟩ ⟨["a", "b", "d"], 2⟩ 0 = some [.forward, .visit "d"] by rcases hp with rfl | rfl | rfl <;> decide +kernel] at h
      exact h
    have e6 : ∀ M, eqW M (.tup [.tup [.str "forward"], .tup [.str "visit", .str "d"]]) (.tup [.tup [.str "forward"], .tup [.str "visit", .str "d"]]) = some true := fun M => eqW_yes M [Act.forward, .visit "d"]
    have f7 : ∀ M, F_plan_at [.tup [.tup [.str "a", .str "b", .str p], .int 0], .tup [.tup [.str "a", .str "b", .str "d"], .int 2], .int 1] M = some (.tup [.tup [.str "visit", .str "b"], .tup [.str "visit", .str "d"]], M) := fun M => by
      have h := pl 1 M
      rw [show planH ⟨["a", "b", p], 0⟩ ⟨["a", "b", "d"], 2⟩ 1 = some [.visit "b", .visit "d"] by rcases hp with rfl | rfl | rfl <;> decide +kernel] at h
      exact h
    have e7 : ∀ M, eqW M (.tup [.tup [.str "visit", .str "b"], .tup [.str "visit", .str "d"]]) (.tup [.tup [.str "visit", .str "b"], .tup [.str "visit", .str "d"]]) = some true := fun M => eqW_yes M [Act.visit "b", .visit "d"]
    have f8 : ∀ M, F_plan_at [.tup [.tup [.str "a", .str "b", .str p], .int 0], .tup [.tup [.str "a", .str "b", .str "d"], .int 2], .int 2] M = some (.non, M) := fun M => by
      have h := pl 2 M
      rw [show planH ⟨["a", "b", p], 0⟩ ⟨["a", "b", "d"], 2⟩ 2 = none by rcases hp with rfl | rfl | rfl <;> decide +kernel] at h
      exact h
    have f9 : ∀ M, F_distance [.tup [.tup [.str "a", .str "b", .str p], .int 2], .tup [.tup [.str "a", .str "b"], .int 1]] M = some (.int 3, M) := fun M => by
      have h := distance_ok (h := ⟨["a", "b", p], 2⟩) (t := ⟨["a", "b"], 1⟩) M ⟨by simp, by simp⟩ ⟨by simp, by simp⟩ (by simp) (by simp)
      rw [show distH ⟨["a", "b", p], 2⟩ ⟨["a", "b"], 1⟩ = some 3 by rcases hp with rfl | rfl | rfl <;> decide +kernel] at h
      exact h
    have f10 : ∀ M, F_distance [.tup [.tup [.str "a", .str "b"], .int 1], .tup [.tup [.str "a"], .int 0]] M = some (.non, M) := fun M => by
      have h := distance_ok (h := ⟨["a", "b"], 1⟩) (t := ⟨["a"], 0⟩) M ⟨by simp, by simp⟩ ⟨by simp, by simp⟩ (by simp) (by simp)
      rw [show distH ⟨["a", "b"], 1⟩ ⟨["a"], 0⟩ = none by decide +kernel] at h
      exact h
    have f11 : ∀ M, F_apply_with_menu [.tup [.tup [.str "a", .str "b", .str p, .str "d", .str "e"], .int 4], .tup [.tup [.str "go", .int 1], .tup [.str "back"]]] M = some (.tup [.tup [.str "a", .str "b", .str p, .str "d", .str "e"], .int 0], M) :=
      fun M => menu_ok (h := ⟨["a", "b", p, "d", "e"], 4⟩) (l := [.go 1, .back]) M ⟨by simp, by simp⟩
    have e11 : ∀ M, eqW M (.tup [.tup [.str "a", .str "b", .str p, .str "d", .str "e"], .int 0]) (.tup [.tup [.str "a", .str "b", .str p, .str "d", .str "e"], .int 0]) = some true := fun M => eqW_yes M (⟨["a", "b", p, "d", "e"], 0⟩ : Hist)
    have f12 : ∀ M, F_distance_with_menu [.tup [.tup [.str "a", .str "b", .str p, .str "d", .str "e"], .int 4], .tup [.tup [.str "a", .str "x"], .int 1]] M = some (.int 2, M) := fun M => by
      have h := distM_ok (h := ⟨["a", "b", p, "d", "e"], 4⟩) (t := ⟨["a", "x"], 1⟩) M ⟨by simp, by simp⟩ ⟨by simp, by simp⟩ (by simp) (by simp)
      rw [show distM ⟨["a", "b", p, "d", "e"], 4⟩ ⟨["a", "x"], 1⟩ = some 2 by rcases hp with rfl | rfl | rfl <;> decide +kernel] at h
      exact h
    obtain ⟨M1, hM1⟩ : ∃ M1, M1 = M ++ [MO.lst T] := ⟨_, rfl⟩
    obtain ⟨M2, hM2⟩ : ∃ M2, M2 = M1 ++ [MO.lst T] := ⟨_, rfl⟩
    have n1 : M1[M.length]? = some (.lst T) := by rw [hM1]; simp
    have n2 : M2[M.length]? = some (.lst T) := by rw [hM2, List.getElem?_append_left (List.getElem?_eq_some_iff.mp n1).1]; exact n1
    have et : T = ([⟨"b", true, true⟩, ⟨"a", false, true⟩, ⟨"a", false, true⟩] : List Sight).map enc := by rw [hT]; rfl
    have e2 : eqW M2 (.ref M1.length) (.ref M.length) = some true := by
      have := eqW_lst M2 M1.length M.length ([⟨"b", true, true⟩, ⟨"a", false, true⟩, ⟨"a", false, true⟩] : List Sight) ([⟨"b", true, true⟩, ⟨"a", false, true⟩, ⟨"a", false, true⟩] : List Sight) (by rw [← et, hM2]; simp) (by rw [← et]; exact n2)
      rw [this, decide_eq_true rfl]
    have i2 : gIx M2 (.ref M.length) (.int 0) = some (.tup [.str "b", .bl true, .bl true], M2) := by
      rw [gIx_ref, n2, hT]
      simp
    have e3 : ∀ M, eqW M (.tup [.str "b", .bl true, .bl true]) (.tup [.str "b", .bl true, .bl true]) = some true := fun M => eqW_yes M (⟨"b", true, true⟩ : Sight)
    refine ⟨M2, ?_, by rw [hM2, hM1]; exact (List.prefix_append _ _).trans (List.prefix_append _ _)⟩
    have z3 : (sSet (gV 2) (eLst [(eTup [(eL (.str "b")), (eL (.bl true)), (eL (.bl true))]), (eTup [(eL (.str "a")), (eL (.bl false)), (eL (.bl true))]), (eTup [(eL (.str "a")), (eL (.bl false)), (eL (.bl true))])])) [some (.str p), some (.tup [.tup [.str "a", .str "b", .str p], .int 1]), none, none, none, none] M = some (.nx [some (.str p), some (.tup [.tup [.str "a", .str "b", .str p], .int 1]), some (.ref M.length), none, none, none] M1) := by
      rw [hM1, hT]; rfl
    show c__law_first_right [some (.str p), none, none, none, none, none] M = _
    unfold c__law_first_right
    have z1 : (sSet (gV 1) (eTup [(eTup [(eL (.str "a")), (eL (.str "b")), (eV 0)]), (eL (.int 1))])) [some (.str p), none, none, none, none, none] M = some (.nx [some (.str p), some (.tup [.tup [.str "a", .str "b", .str p], .int 1]), none, none, none, none] M) := rfl
    rw [sSeq_eq, z1, Option.bind_some]
    simp only []
    rw [sSeq_eq]
    simp only [sIf_eq, tB_eq, e2_eq, eN_eq, eTup_eq, eArgs_cons, eArgs_nil, eV_eq, eL_eq, List.getD_cons_zero, List.getD_cons_succ, Option.map_some, Option.bind_some, List.length_cons, List.length_nil, Nat.reduceAdd, Nat.reduceLeDiff, if_true, f1, gNe_eq, e1, Bool.not_true, Bool.false_eq_true, if_false, sNil_eq]
    rw [sSeq_eq, z3, Option.bind_some]
    simp only []
    rw [sSeq_eq]
    simp only [sIf_eq, tOr_eq, tB_eq, e2_eq, eN_eq, eTup_eq, eArgs_cons, eArgs_nil, eV_eq, eL_eq, List.getD_cons_zero, List.getD_cons_succ, Option.map_some, Option.bind_some, List.length_cons, List.length_nil, Nat.reduceAdd, Nat.reduceLeDiff, if_true, f2, ← hM2, e2, f3, i2, e3, gNe_eq, Bool.not_true, Bool.false_eq_true, if_false, sNil_eq]
    have z5 : (sPar [3, 4] [(eTup [(eTup [(eL (.str "a")), (eL (.str "b")), (eV 0)]), (eL (.int 0))]), (eTup [(eTup [(eL (.str "a")), (eL (.str "b")), (eL (.str "d"))]), (eL (.int 2))])]) [some (.str p), some (.tup [.tup [.str "a", .str "b", .str p], .int 1]), some (.ref M.length), none, none, none] M2 = some (.nx [some (.str p), some (.tup [.tup [.str "a", .str "b", .str p], .int 1]), some (.ref M.length), some (.tup [.tup [.str "a", .str "b", .str p], .int 0]), some (.tup [.tup [.str "a", .str "b", .str "d"], .int 2]), none] M2) := rfl
    rw [sSeq_eq, z5, Option.bind_some]
    simp only []
    have g2 : ∀ M, eqW M (.int 2) (.int 2) = some true := fun M => by rw [eqW_int]; rfl
    have g3 : ∀ M, eqW M (.int 3) (.int 3) = some true := fun M => by rw [eqW_int]; rfl
    simp only [sSeq_eq, sIf_eq, tOr_eq, tB_eq, e1_eq, e2_eq, eN_eq, eTup_eq, eArgs_cons, eArgs_nil, eV_eq, eL_eq, sSet_eq, gV_eq, sRet_eq, List.set_cons_zero, List.set_cons_succ, List.getD_cons_zero, List.getD_cons_succ, Option.map_some, Option.bind_some, List.length_cons, List.length_nil, Nat.reduceAdd, Nat.reduceLeDiff, if_true, f4, f5, f6, e6, f7, e7, f8, f9, f10, f11, e11, f12, g2, g3, gNe_eq, gEq_eq, gNotN_eq, isN_non, Bool.not_true, Bool.false_eq_true, if_false, sNil_eq, enc_bool]
  · cases e
end BF

set_option Elab.async false
set_option linter.all false
set_option autoImplicit false
set_option maxRecDepth 10000
namespace BF
open PySem Enc
/-! promises of pure defs of four arguments -/
def fn4 {α β γ δ ε : Type} [Enc α] [Enc β] [Enc γ] [Enc δ] [Enc ε] (f : α → β → γ → δ → Option ε) : Fn := fun ws M => match ws with
  | [x, y, z, u] => match (dec x : Option α), (dec y : Option β), (dec z : Option γ), (dec u : Option δ) with
    | some a, some b, some c, some d => (f a b c d).map fun e => (enc e, M)
    | _, _, _, _ => none
  | _ => none
theorem fn4_eq {α β γ δ ε : Type} [Enc α] [Enc β] [Enc γ] [Enc δ] [Enc ε] (f : α → β → γ → δ → Option ε) (a : α) (b : β) (c : γ) (d : δ) (M : Mem) : fn4 f [enc a, enc b, enc c, enc d] M = (f a b c d).map fun e => (enc e, M) := by
  unfold fn4; simp only [dec_enc]
theorem keeps4p {α β γ δ ε : Type} [Enc α] [Enc β] [Enc γ] [Enc δ] [Enc ε] {f : α → β → γ → δ → Option ε} {n : Nat} {body : CS}
    (h : ∀ a b c d e M, f a b c d = some e → ∃ M2, body (some (enc a) :: some (enc b) :: some (enc c) :: some (enc d) :: List.replicate (n - 4) none) M = some (.rt (enc e) M2) ∧ M <+: M2) : Keeps n body (fn4 f) := by
  refine KeepsP.keeps ?_
  intro ws M w M' hc hw e
  unfold fn4 at e
  split at e
  · split at e
    · rename_i x y z u _ _ _ _ a b c d ha hb hcc hd
      obtain ⟨r, hr, e⟩ := Option.map_eq_some_iff.mp e
      cases e
      obtain ⟨M2, h1, g, h2⟩ := h a b c d r M hr
      rw [enc_dec _ _ ha, enc_dec _ _ hb, enc_dec _ _ hcc, enc_dec _ _ hd]
      exact ⟨g, .inl (by rw [h2]; exact h1), Nat.le_refl _, hc, enc_closed r _⟩
    · cases e
  · cases e
end BF

set_option Elab.async false
set_option linter.all false
set_option autoImplicit false
set_option maxRecDepth 10000
namespace BF
open PySem Enc
/-! differs -/
def rangeH (n i : Nat) : HistP := ⟨(List.range n).map Pg.i, i⟩
def dif (a b : List Act) (i j : Nat) : Bool := decide (runP (rangeH (i + 1 + j) i) a ≠ runP (rangeH (i + 1 + j) i) b)
def okS (a : List Act) : Prop := a.length ≤ 100 ∧ a.all plain = true
instance (a : List Act) : Decidable (okS a) := by unfold okS; infer_instance
def difF (a b : List Act) (i j : Nat) : Option Bool := if okS a ∧ okS b ∧ i ≤ 200 ∧ j ≤ 200 then some (dif a b i j) else none
def F_differs : Fn := fn4 difF
abbrev N_differs : List Str := ["first", "second", "behind", "ahead", "history"]
def c_differs : CS :=
  (sSeq (sSet (gV 4) (eTup [(eN pTupRg [(e2 gAdd (e2 gAdd (eV 2) (eL (.int 1))) (eV 3))]), (eV 2)]))
  (sRet (e2 gNe (eN F_apply [(eV 4), (eV 0)]) (eN F_apply [(eV 4), (eV 1)]))))
theorem differs_ok {a b : List Act} {i j : Nat} (M : Mem) (h1 : okS a) (h2 : okS b) (h3 : i ≤ 200) (h4 : j ≤ 200) : F_differs [enc a, enc b, .int i, .int j] M = some (.bl (dif a b i j), M) := by
  have := fn4_eq difF a b i j M
  unfold difF at this
  rw [if_pos ⟨h1, h2, h3, h4⟩] at this
  exact this
theorem rangeW_wp (n : Nat) : rangeW 0 n = ((List.range n).map Pg.i).map wp := by
  unfold rangeW
  rw [List.map_map]
  apply List.map_congr_left
  intro i _
  simp
theorem rangeH_roomy {n i k : Nat} (h : i < n) (hn : n + k ≤ 1000) : roomyP (rangeH n i) k := ⟨by simp [rangeH]; exact h, by simp [rangeH]; exact hn⟩
theorem keeps_differs : Keeps 5 c_differs F_differs := by
  refine keeps4p fun a b i j c M e => ?_
  unfold difF at e
  split at e
  · rename_i hv
    cases e
    obtain ⟨h1, h2, h3, h4⟩ := hv
    have f1 := apply_okP (h := rangeH (i + 1 + j) i) M (rangeH_roomy (by omega) (by have := h1.1; omega)) h1.2
    have f2 := apply_okP (h := rangeH (i + 1 + j) i) M (rangeH_roomy (by omega) (by have := h2.1; omega)) h2.2
    have eh : (enc (rangeH (i + 1 + j) i) : W) = .tup [.tup (rangeW 0 (i + 1 + j)), .int i] := by rw [enc_histP, rangeW_wp]; rfl
    rw [eh] at f1 f2
    refine ⟨M, ?_, List.prefix_refl _⟩
    have k1 : ((i : Int) + 1 + j).natAbs ≤ 16777216 := by omega
    have k2 : ((i : Int) + 1 + j).toNat = i + 1 + j := by omega
    unfold dif
    generalize runP (rangeH (i + 1 + j) i) a = A at *
    generalize runP (rangeH (i + 1 + j) i) b = B at *
    have ee := eqW_enc (α := HistP) M A B
    simp only [enc_list] at f1 f2
    simp [c_differs, enc_list, k1, k2, f1, f2, ee]
  · cases e
end BF

set_option Elab.async false
set_option linter.all false
set_option autoImplicit false
set_option maxRecDepth 10000
namespace BF
open PySem Enc
/-! a value, or None -/
class NN (α : Type) [Enc α] : Prop where
  ne : ∀ a : α, (enc a : W) ≠ .non
@[reducible] def encOpt (α : Type) [Enc α] [NN α] : Enc (Option α) where
  enc o := match o with
    | none => .non
    | some a => enc a
  dec w := match w with
    | .non => some none
    | w => (dec w : Option α).map some
  dec_enc a := by
    cases a with
    | none => rfl
    | some l =>
      have := NN.ne l
      show (match (enc l : W) with
        | .non => some none
        | w => (dec w : Option α).map some) = _
      have e := dec_enc l
      cases h : (enc l : W) with
      | non => exact absurd h this
      | _ => rw [h] at e; simp only; rw [e]; rfl
  enc_dec w a h := by
    split at h
    · cases h; rfl
    · obtain ⟨l, h1, h2⟩ := Option.map_eq_some_iff.mp h
      subst h2
      exact enc_dec _ _ h1
  dep := dep α + 1
  ok a := by
    cases a with
    | none => rfl
    | some l => exact okW_mono _ _ (ok l) _ (Nat.le_succ _)
  eqE a b := by
    cases a with
    | none => cases b with
      | none => simp [eqP]
      | some l =>
        have := NN.ne l
        simp only
        cases h : (enc l : W) <;> simp [eqP] <;> exact absurd h this
    | some l => cases b with
      | none =>
        have := NN.ne l
        simp only
        cases h : (enc l : W) <;> simp [eqP] <;> exact absurd h this
      | some l2 =>
        show eqP (enc l) (enc l2) = true ↔ _
        rw [eqE]; simp
instance : NN Hist := ⟨fun _ h => by cases h⟩
instance {α β : Type} [Enc α] [Enc β] : NN (α × β) := ⟨fun _ h => by cases h⟩
instance : Enc (Option Hist) := encOpt Hist
instance : Enc (Option (Int × Hist)) := encOpt (Int × Hist)
theorem enc_ohn : (enc (none : Option Hist) : W) = .non := rfl
theorem enc_ohs (h : Hist) : (enc (some h : Option Hist) : W) = enc h := rfl
theorem enc_obn : (enc (none : Option (Int × Hist)) : W) = .non := rfl
theorem enc_obs (v : Int) (h : Hist) : (enc (some (v, h) : Option (Int × Hist)) : W) = .tup [.int v, enc h] := rfl
end BF

set_option Elab.async false
set_option linter.all false
set_option autoImplicit false
set_option maxRecDepth 10000
namespace BF
open PySem Enc
noncomputable section
/-! the first pair, by sum and then by its first part -/
instance : Enc (Option (Nat × Nat)) := encOpt (Nat × Nat)
theorem enc_opnn : (enc (none : Option (Nat × Nat)) : W) = .non := rfl
theorem enc_opns (i j : Nat) : (enc (some (i, j) : Option (Nat × Nat)) : W) = .tup [.int i, .int j] := rfl
/-- P's first pair within the box, or None -/
def IsFirst (P : Nat → Nat → Bool) (mb ma : Nat) : Option (Nat × Nat) → Prop
  | none => ∀ i j, i ≤ mb → j ≤ ma → P i j = false
  | some (i, j) => i ≤ mb ∧ j ≤ ma ∧ P i j = true ∧ ∀ i' j', i' ≤ mb → j' ≤ ma → (i' + j' < i + j ∨ (i' + j' = i + j ∧ i' < i)) → P i' j' = false
theorem IsFirst.unique {P : Nat → Nat → Bool} {mb ma : Nat} : ∀ {r q : Option (Nat × Nat)}, IsFirst P mb ma r → IsFirst P mb ma q → r = q
  | none, none, _, _ => rfl
  | none, some (i, j), h1, h2 => by
    have := h1 i j h2.1 h2.2.1
    rw [h2.2.2.1] at this; cases this
  | some (i, j), none, h1, h2 => by
    have := h2 i j h1.1 h1.2.1
    rw [h1.2.2.1] at this; cases this
  | some (i, j), some (i', j'), h1, h2 => by
    obtain ⟨a1, a2, a3, a4⟩ := h1
    obtain ⟨b1, b2, b3, b4⟩ := h2
    have n1 : ¬ (i' + j' < i + j ∨ (i' + j' = i + j ∧ i' < i)) := fun z => by
      rw [a4 i' j' b1 b2 z] at b3; cases b3
    have n2 : ¬ (i + j < i' + j' ∨ (i + j = i' + j' ∧ i < i')) := fun z => by
      rw [b4 i j a1 a2 z] at a3; cases a3
    have : i = i' ∧ j = j' := by omega
    rw [this.1, this.2]
/-- a larger box finds nothing new -/
theorem IsFirst.wider {P : Nat → Nat → Bool} {mb ma b a : Nat} (hb : mb ≤ b) (ha : ma ≤ a) (f1 : ∀ i j, mb ≤ i → P (i + 1) j = true → P i j = true) (f2 : ∀ i j, ma ≤ j → P i (j + 1) = true → P i j = true) :
    ∀ {r : Option (Nat × Nat)}, IsFirst P mb ma r → IsFirst P b a r := by
  have low : ∀ i j, P i j = true → ∃ i' j', i' ≤ mb ∧ j' ≤ ma ∧ P i' j' = true ∧ i' ≤ i ∧ j' ≤ j := by
    have l1 : ∀ k i j, i ≤ mb + k → P i j = true → ∃ i', i' ≤ mb ∧ P i' j = true ∧ i' ≤ i := by
      intro k
      induction k with
      | zero => intro i j h hp; exact ⟨i, by omega, hp, Nat.le_refl _⟩
      | succ k ih =>
        intro i j h hp
        by_cases hi : i ≤ mb
        · exact ⟨i, hi, hp, Nat.le_refl _⟩
        · obtain ⟨i', e⟩ : ∃ i', i = i' + 1 := ⟨i - 1, by omega⟩
          subst e
          obtain ⟨q, q1, q2, q3⟩ := ih i' j (by omega) (f1 i' j (by omega) hp)
          exact ⟨q, q1, q2, by omega⟩
    have l2 : ∀ k i j, j ≤ ma + k → P i j = true → ∃ j', j' ≤ ma ∧ P i j' = true ∧ j' ≤ j := by
      intro k
      induction k with
      | zero => intro i j h hp; exact ⟨j, by omega, hp, Nat.le_refl _⟩
      | succ k ih =>
        intro i j h hp
        by_cases hj : j ≤ ma
        · exact ⟨j, hj, hp, Nat.le_refl _⟩
        · obtain ⟨j', e⟩ : ∃ j', j = j' + 1 := ⟨j - 1, by omega⟩
          subst e
          obtain ⟨q, q1, q2, q3⟩ := ih i j' (by omega) (f2 i j' (by omega) hp)
          exact ⟨q, q1, q2, by omega⟩
    intro i j hp
    obtain ⟨i', a1, a2, a3⟩ := l1 i i j (by omega) hp
    obtain ⟨j', b1, b2, b3⟩ := l2 j i' j (by omega) a2
    exact ⟨i', j', a1, b1, b2, a3, b3⟩
  intro r hr
  cases r with
  | none =>
    intro i j _ _
    cases hp : P i j with
    | false => rfl
    | true =>
      obtain ⟨i', j', a1, a2, a3, _⟩ := low i j hp
      rw [hr i' j' a1 a2] at a3; cases a3
  | some q =>
    obtain ⟨i, j⟩ := q
    obtain ⟨a1, a2, a3, a4⟩ := hr
    refine ⟨by omega, by omega, a3, fun i' j' _ _ h => ?_⟩
    cases hp : P i' j' with
    | false => rfl
    | true =>
      obtain ⟨i2, j2, c1, c2, c3, c4, c5⟩ := low i' j' hp
      rw [a4 i2 j2 c1 c2 (by omega)] at c3; cases c3
theorem exists_first (P : Nat → Nat → Bool) (mb ma : Nat) : ∃ r, IsFirst P mb ma r := by
  have : ∀ n, (∃ i j, i ≤ mb ∧ j ≤ ma ∧ P i j = true ∧ (i + j) * (mb + 1) + i < n) → ∃ r, IsFirst P mb ma r := by
    intro n
    induction n with
    | zero => rintro ⟨_, _, _, _, _, h⟩; omega
    | succ n ih =>
      rintro ⟨i, j, h1, h2, h3, h4⟩
      by_cases h : ∃ i' j', i' ≤ mb ∧ j' ≤ ma ∧ P i' j' = true ∧ (i' + j' < i + j ∨ (i' + j' = i + j ∧ i' < i))
      · obtain ⟨i', j', a1, a2, a3, a4⟩ := h
        refine ih ⟨i', j', a1, a2, a3, ?_⟩
        rcases a4 with a4 | ⟨a4, a5⟩
        · have : (i' + j' + 1) * (mb + 1) ≤ (i + j) * (mb + 1) := Nat.mul_le_mul_right _ (by omega)
          rw [Nat.add_mul] at this
          omega
        · rw [a4]; omega
      · refine ⟨some (i, j), h1, h2, h3, fun i' j' b1 b2 b3 => ?_⟩
        cases hp : P i' j' with
        | false => rfl
        | true => exact absurd ⟨i', j', b1, b2, hp, b3⟩ h
  by_cases h : ∃ i j, i ≤ mb ∧ j ≤ ma ∧ P i j = true
  · obtain ⟨i, j, h1, h2, h3⟩ := h
    exact this _ ⟨i, j, h1, h2, h3, Nat.lt_succ_self _⟩
  · refine ⟨none, fun i j h1 h2 => ?_⟩
    cases hp : P i j with
    | false => rfl
    | true => exact absurd ⟨i, j, h1, h2, hp⟩ h
open Classical in
noncomputable def firstD (P : Nat → Nat → Bool) (mb ma : Nat) : Option (Nat × Nat) := (exists_first P mb ma).choose
theorem firstD_spec (P : Nat → Nat → Bool) (mb ma : Nat) : IsFirst P mb ma (firstD P mb ma) := (exists_first P mb ma).choose_spec
end
end BF

set_option Elab.async false
set_option linter.all false
set_option autoImplicit false
set_option maxRecDepth 10000
namespace BF
open PySem Enc
/-! count_actions -/
def nameA : Act → Str
  | .visit _ => "visit"
  | .back => "back"
  | .forward => "forward"
  | .go _ => "go"
def cntA (l : List Act) (w : Str) : Nat := (l.filter fun a => decide (nameA a = w)).length
def cntF (l : List Act) (w : Str) : Option Nat := if l.length ≤ 1000 then some (cntA l w) else none
def F_count_actions : Fn := fn2 cntF
abbrev N_count_actions : List Str := ["script", "word", "action"]
def c_count_actions : CS :=
  (sRet (eN pLen [(eLc (iTup (eV 0)) (gV 2) (tB (e2 gEq (e2 gIx (eV 2) (eL (.int 0))) (eV 1))) (eV 2) [2])]))
theorem cnt_ok {l : List Act} (w : Str) (M : Mem) (hl : l.length ≤ 1000) : F_count_actions [enc l, .str w] M = some (.int (cntA l w), M) := by
  have := fn2_eq cntF l w M
  unfold cntF at this
  rw [if_pos hl] at this
  exact this
theorem keeps_count_actions : Keeps 3 c_count_actions F_count_actions := by
  refine keeps2p fun l w c M e => ?_
  unfold cntF at e
  split at e
  · rename_i hl
    cases e
    have key := lcL_filter (gd := gdT) (g := gV 2) (t := tB (e2 gEq (e2 gIx (eV 2) (eL (.int 0))) (eV 1))) (e := eV 2) (vs := [2]) (σ := [some (.tup (l.map enc)), some (.str w), none]) (l.map enc) id
      (fun x => match (dec x : Option Act) with | some a => decide (nameA a = w) | none => false) M [] (by simp; omega) (fun _ => rfl) (fun x hx m => by
        obtain ⟨a, _, rfl⟩ := List.mem_map.mp hx
        refine ⟨[some (.tup (l.map enc)), some (.str w), some (enc a)], rfl, ?_, fun _ => rfl⟩
        rw [dec_enc]
        cases a <;> simp [nameA, gIx] <;> exact decide_eq_decide.mpr Iff.rfl)
    refine ⟨_, ?_, List.prefix_append M [.lst ((l.filter fun a => decide (nameA a = w)).map enc)]⟩
    have ef : (((l.map enc).filter (fun x => match (dec x : Option Act) with | some a => decide (nameA a = w) | none => false)).map id : List W) = (l.filter fun a => decide (nameA a = w)).map enc := by
      rw [List.map_id, List.filter_map]
      congr 1
      apply List.filter_congr
      intro a _
      simp [dec_enc]
    rw [ef, List.nil_append] at key
    simp [c_count_actions, enc_list, key, cntA]
  · cases e
end BF

set_option Elab.async false
set_option linter.all false
set_option autoImplicit false
set_option maxRecDepth 10000
namespace BF
open PySem Enc
/-! two loops that look for the first pair -/
theorem rangeW_succ (lo n : Nat) : rangeW (lo : Int) (n + 1) = .int lo :: rangeW ((lo + 1 : Nat) : Int) n := by
  unfold rangeW
  rw [List.range_succ_eq_map, List.map_cons, List.map_map]
  have e : ((fun i : Nat => W.int ((lo : Int) + (i : Nat))) ∘ Nat.succ) = fun i : Nat => W.int (((lo + 1 : Nat) : Int) + (i : Nat)) := by
    funext i
    simp only [Function.comp]
    congr 1
    push_cast
    omega
  rw [e]
  simp
theorem search_ok {body : CS} {g : CG} {M : Mem} (D : Nat → Prop) (V : Nat → W) (Q : Sl → Prop) : ∀ (n lo : Nat) (σ : Sl), Q σ →
    (∀ i σ, lo ≤ i → i < lo + n → Q σ → ∃ σ1, g (.int i) σ = some σ1 ∧ (D i → body σ1 M = some (.rt (V i) M)) ∧ (¬ D i → ∃ σ2, body σ1 M = some (.nx σ2 M) ∧ Q σ2)) →
    ∃ o, forL gdT g body (rangeW (lo : Int) n) σ M = some o ∧
      ((∃ i, lo ≤ i ∧ i < lo + n ∧ D i ∧ (∀ i', lo ≤ i' → i' < i → ¬ D i') ∧ o = .rt (V i) M) ∨ ((∀ i, lo ≤ i → i < lo + n → ¬ D i) ∧ ∃ σ', o = .nx σ' M ∧ Q σ'))
  | 0, lo, σ, h0, _ => ⟨_, by rw [show rangeW (lo : Int) 0 = [] from rfl]; exact forL_nil rfl, .inr ⟨fun i h1 h2 => by omega, _, rfl, h0⟩⟩
  | n + 1, lo, σ, h0, h => by
    obtain ⟨σ1, e1, e2, e3⟩ := h lo σ (Nat.le_refl _) (by omega) h0
    rw [rangeW_succ]
    by_cases hd : D lo
    · exact ⟨_, forL_cons rfl e1 (e2 hd), .inl ⟨lo, Nat.le_refl _, by omega, hd, fun i' h1 h2 => by omega, rfl⟩⟩
    · obtain ⟨σ2, e4, e5⟩ := e3 hd
      obtain ⟨o, o1, o2⟩ := search_ok D V Q n (lo + 1) σ2 e5 fun i σ h1 h2 hq => h i σ (by omega) (by omega) hq
      refine ⟨o, by rw [forL_cons rfl e1 e4]; exact o1, ?_⟩
      rcases o2 with ⟨i, a1, a2, a3, a4, a5⟩ | ⟨a1, a2⟩
      · refine .inl ⟨i, by omega, by omega, a3, fun i' b1 b2 => ?_, a5⟩
        by_cases hi : i' = lo
        · rw [hi]; exact hd
        · exact a4 i' (by omega) b2
      · refine .inr ⟨fun i b1 b2 => ?_, a2⟩
        by_cases hi : i = lo
        · rw [hi]; exact hd
        · exact a1 i (by omega) (by omega)
/-- both loops -/
theorem search2_ok {ob ib : CS} {og ig : CG} {M : Mem} (P : Nat → Nat → Bool) (mb ma : Nat) (Qo : Sl → Prop) (Qi : Nat → Sl → Prop) (σ : Sl) (h0 : Qo σ)
    (ho : ∀ t σ, t < mb + ma + 1 → Qo σ → ∃ σ1, og (.int t) σ = some σ1 ∧ Qi t σ1 ∧ ob σ1 M = forL gdT ig ib (rangeW ((t - ma : Nat) : Int) (min t mb + 1 - (t - ma))) σ1 M)
    (hq : ∀ t σ, Qi t σ → Qo σ)
    (hi : ∀ t i σ, t < mb + ma + 1 → t - ma ≤ i → i ≤ mb → i ≤ t → Qi t σ → ∃ σ1, ig (.int i) σ = some σ1 ∧ (P i (t - i) = true → ib σ1 M = some (.rt (.tup [.int i, .int ((t - i : Nat) : Int)]) M)) ∧ (P i (t - i) = false → ∃ σ2, ib σ1 M = some (.nx σ2 M) ∧ Qi t σ2)) :
    ∃ o r, forL gdT og ob (rangeW 0 (mb + ma + 1)) σ M = some o ∧ IsFirst P mb ma r ∧ ((∃ i j, r = some (i, j) ∧ o = .rt (.tup [.int i, .int j]) M) ∨ (r = none ∧ ∃ σ', o = .nx σ' M)) := by
  classical
  let row : Nat → Nat → Prop := fun t i => t - ma ≤ i ∧ i < t - ma + (min t mb + 1 - (t - ma)) ∧ P i (t - i) = true ∧ ∀ i', t - ma ≤ i' → i' < i → ¬ (P i' (t - i') = true)
  obtain ⟨o, o1, o2⟩ := search_ok (body := ob) (g := og) (M := M) (fun t => ∃ i, row t i) (fun t => if h : ∃ i, row t i then .tup [.int (h.choose : Nat), .int ((t - h.choose : Nat) : Int)] else .non) Qo (mb + ma + 1) 0 σ h0 (by
    intro t σ _ ht hqo
    obtain ⟨σ1, e1, e2, e3⟩ := ho t σ (by omega) hqo
    obtain ⟨oi, i1, i2⟩ := search_ok (body := ib) (g := ig) (M := M) (fun i => P i (t - i) = true) (fun i => .tup [.int i, .int ((t - i : Nat) : Int)]) (Qi t) (min t mb + 1 - (t - ma)) (t - ma) σ1 e2 (by
      intro i σ a1 a2 hqi
      obtain ⟨σ2, b1, b2, b3⟩ := hi t i σ (by omega) a1 (by omega) (by omega) hqi
      exact ⟨σ2, b1, b2, fun hn => b3 (by simpa using hn)⟩)
    refine ⟨σ1, e1, fun hd => ?_, fun hn => ?_⟩
    · rcases i2 with ⟨i, a1, a2, a3, a4, a5⟩ | ⟨a1, _⟩
      · rw [dif_pos hd, e3, i1, a5]
        obtain ⟨c1, c2, c3, c4⟩ := hd.choose_spec
        have : hd.choose = i := by
          rcases Nat.lt_trichotomy hd.choose i with z | z | z
          · exact absurd c3 (a4 _ c1 z)
          · exact z
          · exact absurd a3 (c4 _ a1 z)
        rw [this]
      · obtain ⟨i, c1, c2, c3, c4⟩ := hd
        exact absurd c3 (a1 i c1 c2)
    · rcases i2 with ⟨i, a1, a2, a3, a4, a5⟩ | ⟨a1, σ', a2, a3⟩
      · exact absurd ⟨i, a1, a2, a3, a4⟩ hn
      · exact ⟨σ', by rw [e3, i1, a2], hq t σ' a3⟩)
  -- a pair in the box stands in its row
  have inrow : ∀ i j, i ≤ mb → j ≤ ma → P i j = true → ∃ k, row (i + j) k ∧ k ≤ i := by
    intro i j h1 h2 hp
    have : ∀ n k, k ≤ n → (i + j) - ma ≤ k → k ≤ i → P k (i + j - k) = true → ∃ k', row (i + j) k' ∧ k' ≤ i := by
      intro n
      induction n with
      | zero => intro k a b c d; exact ⟨k, ⟨b, by omega, d, fun i' _ _ => by omega⟩, c⟩
      | succ n ih =>
        intro k a b c d
        by_cases h : ∃ k', (i + j) - ma ≤ k' ∧ k' < k ∧ P k' (i + j - k') = true
        · obtain ⟨k', e1, e2, e3⟩ := h
          exact ih k' (by omega) e1 (by omega) e3
        · exact ⟨k, ⟨b, by omega, d, fun i' q1 q2 q3 => h ⟨i', q1, q2, q3⟩⟩, c⟩
    exact this i i (Nat.le_refl _) (by omega) (Nat.le_refl _) (by rw [show i + j - i = j by omega]; exact hp)
  rcases o2 with ⟨t, a1, a2, a3, a4, a5⟩ | ⟨a1, σ', a2, _⟩
  · rw [dif_pos a3] at a5
    obtain ⟨c1, c2, c3, c4⟩ := a3.choose_spec
    generalize a3.choose = i at *
    refine ⟨o, some (i, t - i), o1, ⟨by omega, by omega, c3, fun i' j' b1 b2 b3 => ?_⟩, .inl ⟨i, t - i, rfl, a5⟩⟩
    cases hp : P i' j' with
    | false => rfl
    | true =>
      exfalso
      obtain ⟨k, d1, d2⟩ := inrow i' j' b1 b2 hp
      rcases b3 with b3 | ⟨b3, b4⟩
      · exact a4 (i' + j') (Nat.zero_le _) (by omega) ⟨k, d1⟩
      · have e : i' + j' = t := by omega
        rw [e] at d1
        exact c4 k d1.1 (by omega) d1.2.2.1
  · refine ⟨o, none, o1, fun i j h1 h2 => ?_, .inr ⟨rfl, σ', a2⟩⟩
    cases hp : P i j with
    | false => rfl
    | true =>
      obtain ⟨k, d1, _⟩ := inrow i j h1 h2 hp
      exact absurd ⟨k, d1⟩ (a1 (i + j) (Nat.zero_le _) (by omega))
end BF

set_option Elab.async false
set_option linter.all false
set_option autoImplicit false
set_option maxRecDepth 10000
namespace BF
open PySem Enc
noncomputable section
/-! difference -/
def mbA (a b : List Act) : Nat := max (cntA a "back") (cntA b "back")
def maA (a b : List Act) : Nat := max (cntA a "forward") (cntA b "forward")
noncomputable def diffR (a b : List Act) : Option (Nat × Nat) := firstD (dif a b) (mbA a b) (maA a b)
theorem cntA_le (l : List Act) (w : Str) : cntA l w ≤ l.length := List.length_filter_le _ _
open Classical in
noncomputable def diffF (a b : List Act) : Option (Option (Nat × Nat)) := if okS a ∧ okS b then some (diffR a b) else none
noncomputable def F_difference : Fn := fn2 diffF
abbrev b1_difference : CS :=
  (sFor (iRange2 (eN pMax [(eL (.int 0)), (e2 gSub (eV 4) (eV 3))]) (e2 gAdd (eN pMin [(eV 4), (eV 2)]) (eL (.int 1)))) (gV 5) (sIf (tB (eN F_differs [(eV 0), (eV 1), (eV 5), (e2 gSub (eV 4) (eV 5))])) (sRet (eTup [(eV 5), (e2 gSub (eV 4) (eV 5))])) sNil))
abbrev b2_difference : CS :=
  (sIf (tB (eN F_differs [(eV 0), (eV 1), (eV 5), (e2 gSub (eV 4) (eV 5))])) (sRet (eTup [(eV 5), (e2 gSub (eV 4) (eV 5))])) sNil)
abbrev N_difference : List Str := ["first", "second", "most_behind", "most_ahead", "total", "behind"]
def c_difference : CS :=
  (sSeq (sSet (gV 2) (eN pMax [(eN F_count_actions [(eV 0), (eL (.str "back"))]), (eN F_count_actions [(eV 1), (eL (.str "back"))])]))
  (sSeq (sSet (gV 3) (eN pMax [(eN F_count_actions [(eV 0), (eL (.str "forward"))]), (eN F_count_actions [(eV 1), (eL (.str "forward"))])]))
  (sSeq (sFor (iRange1 (e2 gAdd (e2 gAdd (eV 2) (eV 3)) (eL (.int 1)))) (gV 4) (sFor (iRange2 (eN pMax [(eL (.int 0)), (e2 gSub (eV 4) (eV 3))]) (e2 gAdd (eN pMin [(eV 4), (eV 2)]) (eL (.int 1)))) (gV 5) (sIf (tB (eN F_differs [(eV 0), (eV 1), (eV 5), (e2 gSub (eV 4) (eV 5))])) (sRet (eTup [(eV 5), (e2 gSub (eV 4) (eV 5))])) sNil)))
  (sRet (eL .non)))))
theorem difference_ok {a b : List Act} (M : Mem) (h1 : okS a) (h2 : okS b) : F_difference [enc a, enc b] M = some (enc (diffR a b), M) := by
  have := fn2_eq diffF a b M
  unfold diffF at this
  rw [if_pos ⟨h1, h2⟩] at this
  exact this
theorem keeps_difference : Keeps 6 c_difference F_difference := by
  refine keeps2p fun a b c M e => ?_
  unfold diffF at e
  split at e
  · rename_i hv
    cases e
    obtain ⟨h1, h2⟩ := hv
    have l1 := h1.1
    have l2 := h2.1
    have c1 := fun w M => cnt_ok (l := a) w M (by omega)
    have c2 := fun w M => cnt_ok (l := b) w M (by omega)
    have m1 : mbA a b ≤ 100 := by have := cntA_le a "back"; have := cntA_le b "back"; unfold mbA; omega
    have m2 : maA a b ≤ 100 := by have := cntA_le a "forward"; have := cntA_le b "forward"; unfold maA; omega
    have eb : max (cntA a "back") (cntA b "back") = mbA a b := rfl
    have ef : max (cntA a "forward") (cntA b "forward") = maA a b := rfl
    have us := firstD_spec (dif a b) (mbA a b) (maA a b)
    unfold diffR
    generalize firstD (dif a b) (mbA a b) (maA a b) = R at *
    obtain ⟨o, r, o1, o2, o3⟩ := search2_ok (ob := b1_difference) (ib := b2_difference) (og := gV 4) (ig := gV 5) (M := M) (dif a b) (mbA a b) (maA a b) (fun σ => ∃ s4 s5, σ = [some (enc a), some (enc b), some (.int (mbA a b : Nat)), some (.int (maA a b : Nat)), s4, s5]) (fun t σ => ∃ s5, σ = [some (enc a), some (enc b), some (.int (mbA a b : Nat)), some (.int (maA a b : Nat)), some (.int t), s5])
      [some (enc a), some (enc b), some (.int (mbA a b : Nat)), some (.int (maA a b : Nat)), none, none] ⟨_, _, rfl⟩ (by
        intro t σ ht ⟨s4, s5, hσ⟩
        subst hσ
        refine ⟨_, rfl, ⟨s5, rfl⟩, ?_⟩
        have k1 : small62 ((t - maA a b : Nat) : Int) = true := small62_of (by omega)
        have k2 : small62 (((min t (mbA a b) : Nat) : Int) + 1) = true := small62_of (by omega)
        have k3 : (((min t (mbA a b) : Nat) : Int) + 1 - ((t - maA a b : Nat) : Int)).toNat = min t (mbA a b) + 1 - (t - maA a b) := by omega
        generalize mbA a b = mb at *
        generalize maA a b = ma at *
        have eI : iRange2 (eN pMax [(eL (.int 0)), (e2 gSub (eV 4) (eV 3))]) (e2 gAdd (eN pMin [(eV 4), (eV 2)]) (eL (.int 1))) [some (enc a), some (enc b), some (.int (mb : Nat)), some (.int (ma : Nat)), some (.int t), s5] M = some (rangeW ((t - ma : Nat) : Int) (min t mb + 1 - (t - ma)), gdT, M) := by
          simp [k1, k2, k3]
        show (sFor _ _ _) _ _ = _
        rw [sFor_eq]
        show (iRange2 (eN pMax [(eL (.int 0)), (e2 gSub (eV 4) (eV 3))]) (e2 gAdd (eN pMin [(eV 4), (eV 2)]) (eL (.int 1))) [some (enc a), some (enc b), some (.int (mb : Nat)), some (.int (ma : Nat)), some (.int t), s5] M).bind _ = _
        rw [eI]
        rfl) (fun t σ ⟨s5, h⟩ => ⟨_, s5, h⟩) (by
        intro t i σ ht hi1 hi2 hi3 ⟨s5, hσ⟩
        subst hσ
        have k1 : (t : Int) - i = ((t - i : Nat) : Int) := by omega
        have f1 := differs_ok (i := i) (j := t - i) M h1 h2 (by omega) (by omega)
        refine ⟨_, rfl, fun hp => ?_, fun hp => ⟨[some (enc a), some (enc b), some (.int (mbA a b : Nat)), some (.int (maA a b : Nat)), some (.int t), some (.int i)], ?_, ⟨_, rfl⟩⟩⟩
        · rw [hp] at f1
          simp [k1, f1]
        · rw [hp] at f1
          simp [k1, f1])
    have hr : r = R := IsFirst.unique o2 us
    subst hr
    have k4 : small62 (((mbA a b : Nat) : Int) + ((maA a b : Nat) : Int) + 1) = true := small62_of (by omega)
    have k5 : (((mbA a b : Nat) : Int) + ((maA a b : Nat) : Int) + 1).toNat = mbA a b + maA a b + 1 := by omega
    refine ⟨M, ?_, List.prefix_refl _⟩
    simp only [enc_list] at c1 c2 o1
    rcases o3 with ⟨i, j, q1, q2⟩ | ⟨q1, σ', q2⟩
    · subst q1 q2
      simp [c_difference, enc_list, c1, c2, eb, ef, k4, k5, o1, enc_opns]
    · subst q1 q2
      simp [c_difference, enc_list, c1, c2, eb, ef, k4, k5, o1, enc_opnn]
  · cases e
end
end BF

set_option Elab.async false
set_option linter.all false
set_option autoImplicit false
set_option maxRecDepth 10000
namespace BF
open PySem Enc
noncomputable section
/-! equal -/
open Classical in
noncomputable def equalF (a b : List Act) : Option Bool := if okS a ∧ okS b then some (diffR a b).isNone else none
noncomputable def F_equal : Fn := fn2 equalF
abbrev N_equal : List Str := ["first", "second"]
def c_equal : CS :=
  (sRet (e1 gIsN (eN F_difference [(eV 0), (eV 1)])))
theorem equal_ok {a b : List Act} (M : Mem) (h1 : okS a) (h2 : okS b) : F_equal [enc a, enc b] M = some (.bl (diffR a b).isNone, M) := by
  have := fn2_eq equalF a b M
  unfold equalF at this
  rw [if_pos ⟨h1, h2⟩] at this
  exact this
theorem keeps_equal : Keeps 2 c_equal F_equal := by
  refine keeps2p fun a b c M e => ?_
  unfold equalF at e
  split at e
  · rename_i hv
    cases e
    have f1 := difference_ok M hv.1 hv.2
    refine ⟨M, ?_, List.prefix_refl _⟩
    cases hd : diffR a b with
    | none =>
      rw [hd, enc_opnn] at f1
      simp [c_equal, f1, isN]
    | some q =>
      obtain ⟨i, j⟩ := q
      rw [hd, enc_opns] at f1
      simp [c_equal, f1, isN]
  · cases e
end
end BF

set_option Elab.async false
set_option linter.all false
set_option autoImplicit false
set_option maxRecDepth 10000
namespace BF
open PySem Enc
/-! numbers that pass a test -/
theorem lcL_rangeF {gd : Mem → Bool} {g : CG} {t : CT} {e : CE} {vs : List Nat} {σ : Sl} (n : Nat) (p : Nat → Bool) (M : Mem) (hl : n ≤ 16777216) (hg : ∀ l, gd (M ++ [.lst l]) = true)
    (h : ∀ i, i < n → ∀ l, ∃ σ1, g (.int (i : Nat)) (wipe σ vs) = some σ1 ∧ t σ1 (M ++ [.lst l]) = some (p i, M ++ [.lst l]) ∧ e σ1 (M ++ [.lst l]) = some (.int (i : Nat), M ++ [.lst l])) :
    lcL gd g t e vs σ M.length (rangeW 0 n) (M ++ [.lst []]) = some (M ++ [.lst (((List.range n).filter p).map enc)]) := by
  have key := lcL_filter (gd := gd) (g := g) (t := t) (e := e) (vs := vs) (σ := σ) (rangeW 0 n) id (fun w => match w with | .int z => p z.toNat | _ => false) M [] (by rw [rangeW_length]; simpa using hl) hg (by
    intro w hw l
    obtain ⟨i, hi, rfl⟩ := rangeW_mem hw
    have e0 : ((0 : Int) + (i : Nat)) = (i : Nat) := by omega
    rw [e0]
    obtain ⟨σ1, h1, h2, h3⟩ := h i hi l
    refine ⟨σ1, h1, ?_, fun _ => h3⟩
    simp only [Int.toNat_natCast]
    exact h2)
  have rw1 : rangeW 0 n = (List.range n).map (fun i : Nat => W.int (i : Nat)) := by
    unfold rangeW
    refine List.map_congr_left fun i _ => ?_
    congr 1; omega
  have e1 : ((rangeW 0 n).filter (fun w => match w with | .int z => p z.toNat | _ => false)).map id = ((List.range n).filter p).map enc := by
    rw [rw1, List.map_id, List.filter_map]
    rfl
  rw [e1, List.nil_append] at key
  exact key
end BF

set_option Elab.async false
set_option linter.all false
set_option autoImplicit false
set_option maxRecDepth 10000
namespace BF
open PySem Enc
noncomputable section
/-! redundant_steps -/
def delA (l : List Act) (i : Nat) : List Act := l.take i ++ l.drop (i + 1)
theorem del_okS {l : List Act} (i : Nat) (h : okS l) : okS (delA l i) := by
  obtain ⟨h1, h2⟩ := h
  rw [List.all_eq_true] at h2
  refine ⟨by unfold delA; rw [List.length_append, List.length_take, List.length_drop]; omega, List.all_eq_true.mpr fun a ha => ?_⟩
  unfold delA at ha
  rcases List.mem_append.mp ha with ha | ha
  · exact h2 a (List.mem_of_mem_take ha)
  · exact h2 a (List.mem_of_mem_drop ha)
theorem del_eval {σ : Sl} {M : Mem} {l : List Act} {k i j : Nat} (hl : l.length ≤ 1000) (h1 : (eV i) σ M = some (enc l, M)) (h2 : (eV j) σ M = some (.int (k : Nat), M)) :
    (e2 gAdd (eSl (eV i) none (some (eV j))) (eSl (eV i) (some (e2 gAdd (eV j) (eL (.int 1)))) none)) σ M = some (enc (delA l k), M) := by
  have c1 : gSl M (enc l) none (some ((k : Nat) : Int)) = some (.tup ((l.take k).map enc), M) := by rw [enc_list, gSl_tup, cutW_hi0, ← List.map_take]
  have c2 : gSl M (enc l) (some (((k : Nat) : Int) + 1)) none = some (.tup ((l.drop (k + 1)).map enc), M) := by rw [enc_list, gSl_tup, cutW_lo1, ← List.map_drop]
  have l1 : (l.take k).length ≤ 1000 := by rw [List.length_take]; omega
  have l2 : (l.drop (k + 1)).length ≤ 1000 := by rw [List.length_drop]; omega
  have e : (enc (delA l k) : W) = .tup ((l.take k).map enc ++ (l.drop (k + 1)).map enc) := by
    rw [enc_list]; unfold delA; simp
  have f1 : (eSl (eV i) none (some (eV j))) σ M = some (.tup ((l.take k).map enc), M) := by
    simp only [eSl_eq, h1, h2, ePart_some, ePart_none, Option.bind_some, c1]
  have f2 : (eSl (eV i) (some (e2 gAdd (eV j) (eL (.int 1)))) none) σ M = some (.tup ((l.drop (k + 1)).map enc), M) := by
    simp only [eSl_eq, h1, e2_eq, h2, eL_eq, gAdd_int, ePart_some, ePart_none, Option.bind_some, c2]
  rw [e, e2_eq, f1, Option.bind_some, f2, Option.bind_some, gAdd_tup, if_pos (by rw [List.length_map, List.length_map]; omega)]
noncomputable def redL (l : List Act) : List Nat := (List.range l.length).filter fun i => (diffR (delA l i) l).isNone
noncomputable def redF (l : List Act) : Option (List Nat) := if okS l then some (redL l) else none
noncomputable def F_redundant_steps : Fn := fnL1 redF
abbrev N_redundant_steps : List Str := ["script", "index"]
def c_redundant_steps : CS :=
  (sRet (eLc (iRange1 (eN pLen [(eV 0)])) (gV 1) (tB (eN F_equal [(e2 gAdd (eSl (eV 0) none (some (eV 1))) (eSl (eV 0) (some (e2 gAdd (eV 1) (eL (.int 1)))) none)), (eV 0)])) (eV 1) [1]))
theorem red_ok {l : List Act} (M : Mem) (h : okS l) : F_redundant_steps [enc l] M = some (.ref M.length, M ++ [.lst ((redL l).map enc)]) := by
  have := fnL1_eq redF l M
  unfold redF at this
  rw [if_pos h] at this
  exact this
theorem keeps_redundant_steps : Keeps 2 c_redundant_steps F_redundant_steps := by
  refine keepsL1 fun l cs M e => ?_
  unfold redF at e
  split at e
  · rename_i hv
    cases e
    have hl := hv.1
    have key := lcL_rangeF (gd := gdT) (g := gV 1) (t := tB (eN F_equal [(e2 gAdd (eSl (eV 0) none (some (eV 1))) (eSl (eV 0) (some (e2 gAdd (eV 1) (eL (.int 1)))) none)), (eV 0)])) (e := eV 1) (vs := [1]) (σ := [some (enc l), none]) l.length (fun i => (diffR (delA l i) l).isNone) M (by omega) (fun _ => rfl) (fun i hi m => by
      have fe := equal_ok (M ++ [.lst m]) (del_okS i hv) hv
      have de := del_eval (σ := [some (enc l), some (.int (i : Nat))]) (M := M ++ [.lst m]) (l := l) (k := i) (i := 0) (j := 1) (by omega) rfl rfl
      refine ⟨[some (enc l), some (.int (i : Nat))], rfl, ?_, rfl⟩
      simp only [tB_eq, eN_eq, eArgs_cons, eArgs_nil, de, eV_eq, List.getD_cons_zero, List.getD_cons_succ, Option.map_some, Option.bind_some, fe])
    have sl : small62 ((l.length : Nat) : Int) = true := small62_of (by omega)
    have pl : pLen [enc l] M = some (.int (l.length : Nat), M) := by rw [enc_list, pLen_tup, List.length_map]
    refine ⟨M.length, [.lst ((redL l).map enc)], ?_, Nat.le_refl _, by simp⟩
    show c_redundant_steps [some (enc l), none] M = _
    unfold c_redundant_steps
    simp only [sRet_eq, eLc_eq, iRange1_eq, eN_eq, eArgs_cons, eArgs_nil, eV_eq, List.getD_cons_zero, List.getD_cons_succ, Option.map_some, Option.bind_some, pl, sl, if_true, Int.toNat_natCast, key]
    rfl
  · cases e
end
end BF

set_option Elab.async false
set_option linter.all false
set_option autoImplicit false
set_option maxRecDepth 10000
namespace BF
open PySem Enc
/-! steps -/
def stepG (h : Hist) (s : Sight) (a : Act) : Option (Act × Hist) := if stepH h a ≠ h ∧ sightH (stepH h a) = s then some (a, stepH h a) else none
def acts3 (s : Sight) : List Act := [.back, .forward, .visit s.p]
def stepsL (h : Hist) (s : Sight) : List (Act × Hist) := (acts3 s).filterMap (stepG h s)
def stepsF (h : Hist) (s : Sight) : Option (List (Act × Hist)) := if roomy h 1 then some (stepsL h s) else none
def F_steps : Fn := fnL2 stepsF
abbrev b1_steps : CS :=
  (sSeq (sSet (gV 4) (eN F_after [(eV 0), (eV 3)]))
  (sIf (tAnd (tB (e2 gNe (eV 4) (eV 0))) (tB (e2 gEq (eN F_sight [(eV 4)]) (eV 1)))) (sExpr (eML mAppend (eV 2) [(eTup [(eV 3), (eV 4)])])) sNil))
abbrev N_steps : List Str := ["history", "sighting", "found", "action", "other"]
def c_steps : CS :=
  (sSeq (sSet (gV 2) (eLst []))
  (sSeq (sFor (iLst (eLst [(eTup [(eL (.str "back"))]), (eTup [(eL (.str "forward"))]), (eTup [(eL (.str "visit")), (e2 gIx (eV 1) (eL (.int 0)))])])) (gV 3) (sSeq (sSet (gV 4) (eN F_after [(eV 0), (eV 3)]))
  (sIf (tAnd (tB (e2 gNe (eV 4) (eV 0))) (tB (e2 gEq (eN F_sight [(eV 4)]) (eV 1)))) (sExpr (eML mAppend (eV 2) [(eTup [(eV 3), (eV 4)])])) sNil)))
  (sRet (eV 2))))
theorem steps_ok {h : Hist} {s : Sight} (M : Mem) (hv : roomy h 1) : F_steps [enc h, enc s] M = some (.ref M.length, M ++ [.lst ((stepsL h s).map enc)]) := by
  have := fnL2_eq stepsF h s M
  unfold stepsF at this
  rw [if_pos hv] at this
  exact this
theorem acts3_plain (s : Sight) : ∀ a ∈ acts3 s, plain a = true := by
  intro a ha
  simp only [acts3, List.mem_cons, List.not_mem_nil, or_false] at ha
  rcases ha with rfl | rfl | rfl <;> rfl
theorem step_loop (h : Hist) (s : Sight) (hv : roomy h 1) (L : List W) : ∀ (as : List Act) (acc : List (Act × Hist)) (M : Mem) (s3 s4 : Option W), (∀ a ∈ as, plain a = true) → acc.length + as.length ≤ 1000 →
    ∃ s3' s4', forL (fun M' => decide (M'[M.length + 1]? = some (.lst L))) (gV 3) b1_steps (as.map enc) [some (enc h), some (enc s), some (.ref M.length), s3, s4] (M ++ [.lst (acc.map enc), .lst L]) =
      some (.nx [some (enc h), some (enc s), some (.ref M.length), s3', s4'] (M ++ [.lst ((acc ++ as.filterMap (stepG h s)).map enc), .lst L]))
  | [], acc, M, s3, s4, _, _ => ⟨s3, s4, by rw [List.filterMap_nil, List.append_nil]; exact forL_nil (by simp)⟩
  | a :: as, acc, M, s3, s4, pa, hl => by
    rw [List.length_cons] at hl
    have f1 := fun M => after_ok (h := h) (a := a) M ⟨hv.1, by have := hv.2; omega⟩ (pa a List.mem_cons_self)
    have rv := roomy_step (n := 0) a hv
    have f2 := fun M => sight_ok (h := stepH h a) M ⟨rv.1, by have := rv.2; omega⟩
    have g1 := fun M : Mem => eqW_enc M (stepH h a) h
    have g2 := fun M : Mem => eqW_enc M (sightH (stepH h a)) s
    have b0 : acc.length < 16777216 := by omega
    by_cases c : stepH h a ≠ h ∧ sightH (stepH h a) = s
    · have eg : stepG h s a = some (a, stepH h a) := by unfold stepG; rw [if_pos c]
      obtain ⟨s3', s4', e⟩ := step_loop h s hv L as (acc ++ [(a, stepH h a)]) M (some (enc a)) (some (enc (stepH h a))) (fun b hb => pa b (List.mem_cons_of_mem _ hb)) (by simp; omega)
      refine ⟨s3', s4', ?_⟩
      rw [List.filterMap_cons_some eg, List.map_cons]
      have hb : b1_steps [some (enc h), some (enc s), some (.ref M.length), some (enc a), s4] (M ++ [.lst (acc.map enc), .lst L]) = some (.nx [some (enc h), some (enc s), some (.ref M.length), some (enc a), some (enc (stepH h a))] (M ++ [.lst ((acc ++ [(a, stepH h a)]).map enc), .lst L])) := by
        have ep : (enc (a, stepH h a) : W) = .tup [enc a, enc (stepH h a)] := rfl
        rw [List.map_append, List.map_cons, List.map_nil, ep]
        rw [decide_eq_false c.1] at g1
        rw [decide_eq_true c.2] at g2
        generalize stepH h a = new at *
        simp [f1, f2, g1, g2, isLst, b0]
      rw [forL_cons (by simp) rfl hb]
      have : acc ++ [(a, stepH h a)] ++ as.filterMap (stepG h s) = acc ++ (a, stepH h a) :: as.filterMap (stepG h s) := by simp
      rw [this] at e
      exact e
    · have eg : stepG h s a = none := by unfold stepG; rw [if_neg c]
      obtain ⟨s3', s4', e⟩ := step_loop h s hv L as acc M (some (enc a)) (some (enc (stepH h a))) (fun b hb => pa b (List.mem_cons_of_mem _ hb)) (by omega)
      refine ⟨s3', s4', ?_⟩
      rw [List.filterMap_cons_none eg, List.map_cons]
      have hb : b1_steps [some (enc h), some (enc s), some (.ref M.length), some (enc a), s4] (M ++ [.lst (acc.map enc), .lst L]) = some (.nx [some (enc h), some (enc s), some (.ref M.length), some (enc a), some (enc (stepH h a))] (M ++ [.lst (acc.map enc), .lst L])) := by
        by_cases c1 : stepH h a = h
        · rw [decide_eq_true c1] at g1
          generalize stepH h a = new at *
          simp [f1, g1]
        · have c2 : ¬ sightH (stepH h a) = s := fun z => c ⟨c1, z⟩
          rw [decide_eq_false c1] at g1
          rw [decide_eq_false c2] at g2
          generalize stepH h a = new at *
          simp [f1, f2, g1, g2]
      rw [forL_cons (by simp) rfl hb]
      exact e
theorem keeps_steps : Keeps 5 c_steps F_steps := by
  refine keepsL2 fun h s cs M e => ?_
  unfold stepsF at e
  split at e
  · rename_i hv
    cases e
    obtain ⟨s3', s4', el⟩ := step_loop h s hv ((acts3 s).map enc) (acts3 s) [] M none none (acts3_plain s) (by simp [acts3])
    refine ⟨M.length, [.lst ((stepsL h s).map enc), .lst ((acts3 s).map enc)], ?_, Nat.le_refl _, by simp⟩
    rw [List.nil_append, List.map_nil] at el
    simp only [acts3, List.map_cons, List.map_nil, enc_back, enc_forward, enc_visit, enc_sight] at el
    simp [c_steps, enc_sight, el, stepsL, acts3]
  · cases e
end BF

set_option Elab.async false
set_option linter.all false
set_option autoImplicit false
set_option maxRecDepth 10000
namespace BF
open PySem Enc
/-! dicts of our own keys, plainly -/
theorem keyNs_map {α : Type} {f : α → W} {k : α → NestedKey} (h : ∀ a, keyN (f a) = some (k a)) : ∀ l : List α, keyNs (l.map f) = some (l.map k)
  | [] => rfl
  | a :: l => by rw [List.map_cons, keyNs, h a, keyNs_map h l]; rfl
theorem depthAll_map {α : Type} {k : α → NestedKey} {d : Nat} (h : ∀ a, (k a).depth ≤ d) : ∀ l : List α, NestedKey.depthAll (l.map k) ≤ d
  | [] => Nat.zero_le _
  | a :: l => by rw [List.map_cons, NestedKey.depthAll]; exact Nat.max_le.mpr ⟨h a, depthAll_map h l⟩
class KeyE (α : Type) [Enc α] where
  kk : α → NestedKey
  keyN_enc : ∀ a : α, keyN (enc a) = some (kk a)
  keyT_enc : ∀ a : α, keyT (enc a) = some (kk a)
  inj : ∀ a b : α, kk a = kk b → a = b
def histK (h : Hist) : NestedKey := .tup [.tup (h.ps.map .text), .num (h.at_ : Int)]
theorem histK_dep (h : Hist) : (histK h).depth ≤ 2 := by
  have := depthAll_map (k := NestedKey.text) (d := 0) (fun _ => Nat.le_refl _) h.ps
  simp only [histK, NestedKey.depth, NestedKey.depthAll]
  omega
theorem histK_n (h : Hist) : keyN (enc h) = some (histK h) := by
  rw [enc_hist, keyN, keyNs, keyN, keyNs_map (k := NestedKey.text) (fun _ => rfl)]
  rfl
theorem texts_inj : ∀ a b : List Str, a.map NestedKey.text = b.map NestedKey.text → a = b
  | [], [], _ => rfl
  | [], _ :: _, h => by cases h
  | _ :: _, [], h => by cases h
  | x :: a, y :: b, h => by
    simp only [List.map_cons, List.cons.injEq, NestedKey.text.injEq] at h
    rw [h.1, texts_inj a b h.2]
theorem histK_inj (a b : Hist) (h : histK a = histK b) : a = b := by
  simp only [histK, NestedKey.tup.injEq, List.cons.injEq, NestedKey.num.injEq, and_true] at h
  obtain ⟨ap, aa⟩ := a
  obtain ⟨bp, ba⟩ := b
  simp only at h
  rw [texts_inj _ _ h.1, show aa = ba by omega]
theorem keyT_of {ws : List W} {k : NestedKey} (h : keyN (.tup ws) = some k) (hd : k.depth ≤ 8) : keyT (.tup ws) = some k := by
  rw [keyN] at h
  obtain ⟨ks, h1, rfl⟩ := Option.map_eq_some_iff.mp h
  unfold keyT
  simp only [h1, if_pos hd]
instance : KeyE Hist where
  kk := histK
  keyN_enc := histK_n
  keyT_enc h := keyT_of (histK_n h) (by have := histK_dep h; omega)
  inj := histK_inj
def sightK (s : Sight) : NestedKey := .tup [.text s.p, .num (if s.b = true then 1 else 0), .num (if s.f = true then 1 else 0)]
instance : KeyE Sight where
  kk := sightK
  keyN_enc s := rfl
  keyT_enc s := keyT_of (k := sightK s) rfl (by simp [sightK, NestedKey.depth, NestedKey.depthAll])
  inj a b h := by
    simp only [sightK, NestedKey.tup.injEq, List.cons.injEq, NestedKey.num.injEq, NestedKey.text.injEq, and_true] at h
    obtain ⟨h1, h2, h3⟩ := h
    obtain ⟨ap, ab, af⟩ := a
    obtain ⟨bp, bb, bf⟩ := b
    simp only at h1 h2 h3
    subst h1
    cases ab <;> cases bb <;> cases af <;> cases bf <;> simp at h2 h3 ⊢
/-- (history, number) -/
instance : KeyE (Hist × Nat) where
  kk p := .tup [histK p.1, .num (p.2 : Int)]
  keyN_enc p := by rw [enc_pair, keyN, keyNs, histK_n]; rfl
  keyT_enc p := keyT_of (by rw [keyN, keyNs, histK_n]; rfl) (by have := histK_dep p.1; simp only [NestedKey.depth, NestedKey.depthAll]; omega)
  inj a b h := by
    simp only [NestedKey.tup.injEq, List.cons.injEq, NestedKey.num.injEq, and_true] at h
    exact Prod.ext (histK_inj _ _ h.1) (by omega)
section
variable {κ β : Type} [Enc κ] [KeyE κ] [DecidableEq κ]
/-- the entries as they stand in the memory -/
def rowsD (f : β → W) (L : List (κ × β)) : List (W × W) := L.map fun p => (enc p.1, f p.2)
def getD' (L : List (κ × β)) (a : κ) : Option β := (L.find? fun p => decide (p.1 = a)).map (·.2)
def putD (L : List (κ × β)) (a : κ) (b : β) : List (κ × β) := if (getD' L a).isSome = true then L.map fun p => if p.1 = a then (p.1, b) else p else L ++ [(a, b)]
theorem key_iff (a b : κ) : keyN (enc a : W) = some (KeyE.kk b) ↔ a = b := by
  rw [KeyE.keyN_enc]
  exact ⟨fun h => KeyE.inj _ _ (Option.some.inj h), fun h => by rw [h]⟩
theorem valN_rows (f : β → W) (a : κ) : ∀ L : List (κ × β), valN (rowsD f L) (KeyE.kk a) = (getD' L a).map f
  | [] => rfl
  | p :: L => by
    have ih := valN_rows f a L
    unfold valN rowsD getD' at ih ⊢
    rw [List.map_cons]
    by_cases h : p.1 = a
    · rw [List.find?_cons_of_pos (by simpa using (key_iff p.1 a).mpr h), List.find?_cons_of_pos (by simpa using h)]; rfl
    · rw [List.find?_cons_of_neg (by simpa using fun z => h ((key_iff p.1 a).mp z)), List.find?_cons_of_neg (by simpa using h)]; exact ih
theorem putN_rows (f : β → W) (L : List (κ × β)) (a : κ) (b : β) : putN (rowsD f L) (KeyE.kk a) (enc a) (f b) = rowsD f (putD L a b) := by
  unfold putN putD
  rw [valN_rows, Option.isSome_map]
  split
  · unfold rowsD
    rw [List.map_map, List.map_map]
    refine List.map_congr_left fun p _ => ?_
    simp only [Function.comp]
    by_cases h : p.1 = a
    · rw [if_pos ((key_iff p.1 a).mpr h), if_pos h]
    · rw [if_neg (fun z => h ((key_iff p.1 a).mp z)), if_neg h]
  · unfold rowsD
    rw [List.map_append]; rfl
theorem getD_none {L : List (κ × β)} {a : κ} : getD' L a = none ↔ a ∉ L.map (·.1) := by
  unfold getD'
  rw [Option.map_eq_none_iff, List.find?_eq_none]
  constructor
  · intro h hm
    obtain ⟨p, hp, rfl⟩ := List.mem_map.mp hm
    exact h p hp (by simp)
  · intro h p hp hd
    exact h (List.mem_map.mpr ⟨p, hp, of_decide_eq_true hd⟩)
theorem getD_put (L : List (κ × β)) (a c : κ) (b : β) : getD' (putD L a b) c = if c = a then some b else getD' L c := by
  unfold putD
  split
  · rename_i hs
    have key : ∀ L : List (κ × β), getD' (L.map fun p => if p.1 = a then (p.1, b) else p) c = if c = a then (getD' L a).map (fun _ => b) else getD' L c := by
      intro L
      induction L with
      | nil => unfold getD'; split <;> rfl
      | cons p L ih =>
        unfold getD' at ih ⊢
        rw [List.map_cons]
        by_cases h : p.1 = a
        · rw [if_pos h]
          by_cases hc : c = a
          · rw [List.find?_cons_of_pos (by simp [h, hc]), if_pos hc, List.find?_cons_of_pos (by simpa using h)]; rfl
          · rw [List.find?_cons_of_neg (by simp [h]; exact fun z => hc z.symm), if_neg hc, List.find?_cons_of_neg (by simp [h]; exact fun z => hc z.symm)]
            rw [if_neg hc] at ih; exact ih
        · rw [if_neg h]
          by_cases hc : c = a
          · rw [List.find?_cons_of_neg (by rw [hc]; simpa using h), if_pos hc, List.find?_cons_of_neg (by simpa using h)]
            rw [if_pos hc] at ih; exact ih
          · rw [if_neg hc] at ih ⊢
            by_cases hp : p.1 = c
            · rw [List.find?_cons_of_pos (by simpa using hp), List.find?_cons_of_pos (by simpa using hp)]
            · rw [List.find?_cons_of_neg (by simpa using hp), List.find?_cons_of_neg (by simpa using hp)]; exact ih
    rw [key]
    split
    · obtain ⟨x, hx⟩ := Option.isSome_iff_exists.mp hs
      rw [hx]; rfl
    · rfl
  · rename_i hs
    unfold getD' at hs ⊢
    rw [List.find?_append]
    by_cases hc : c = a
    · subst hc
      rw [if_pos rfl]
      cases h : L.find? (fun p => decide (p.1 = c)) with
      | none => simp
      | some q => rw [h] at hs; simp at hs
    · rw [if_neg hc]
      cases h : L.find? (fun p => decide (p.1 = c)) with
      | none => simp [Ne.symm hc]
      | some q => rfl
theorem putD_length (L : List (κ × β)) (a : κ) (b : β) : (putD L a b).length ≤ L.length + 1 := by
  unfold putD
  split <;> simp
theorem putD_keys (L : List (κ × β)) (a c : κ) (b : β) : c ∈ (putD L a b).map (·.1) ↔ c = a ∨ c ∈ L.map (·.1) := by
  have h1 := getD_put L a c b
  have n1 := getD_none (L := putD L a b) (a := c)
  have n2 := getD_none (L := L) (a := c)
  by_cases hc : c = a
  · rw [if_pos hc] at h1
    refine ⟨fun _ => .inl hc, fun _ => ?_⟩
    exact Classical.byContradiction fun z => by rw [n1.mpr z] at h1; cases h1
  · rw [if_neg hc] at h1
    rw [h1] at n1
    refine ⟨fun h => .inr ?_, fun h => ?_⟩
    · exact Classical.byContradiction fun z => (n1.mp (n2.mpr z)) h
    · exact Classical.byContradiction fun z => (n2.mp (n1.mpr z)) (h.resolve_left hc)
/-- the operations on such dicts -/
theorem nestAt_of {M : Mem} {n : Nat} {ws : List (W × W)} (h : M[n]? = some (.dT .nest ws) ∨ M[n]? = some (.dT .lockN ws)) : nestAt M n = some ws := by
  unfold nestAt
  rcases h with h | h <;> rw [h]
variable {M : Mem} {n : Nat} {f : β → W} {L : List (κ × β)}
theorem gGetN_enc (h : nestAt M n = some (rowsD f L)) {a : κ} {b : β} (hb : getD' L a = some b) : gGetN M (.ref n) (enc a) = some (f b, M) := by
  unfold gGetN
  simp only [KeyE.keyT_enc, h, Option.bind_some, valN_rows, hb, Option.map_some]
theorem gInN_enc (h : nestAt M n = some (rowsD f L)) (a : κ) : gInN M (enc a) (.ref n) = some (.bl (getD' L a).isSome, M) := by
  unfold gInN
  simp only [KeyE.keyT_enc, h, Option.map_some, valN_rows, Option.isSome_map]
theorem gNotInN_enc (h : nestAt M n = some (rowsD f L)) (a : κ) : gNotInN M (enc a) (.ref n) = some (.bl (!(getD' L a).isSome), M) := by
  unfold gNotInN
  simp only [KeyE.keyT_enc, h, Option.map_some, valN_rows, Option.isSome_map]
theorem putNM_enc (h : M[n]? = some (.dT .nest (rowsD f L))) (hl : L.length < 16777216) (a : κ) (b : β) : putNM M (.ref n) (enc a) (f b) = some (M.set n (.dT .nest (rowsD f (putD L a b)))) := by
  unfold putNM
  simp only [KeyE.keyT_enc, h]
  rw [if_pos (by unfold rowsD; simpa using hl), putN_rows]
end
/-- lists of such dicts -/
def pureR (L : List (W × W)) : Prop := ∀ p ∈ L, okW 64 p.1 = true ∧ okW 64 p.2 = true
theorem pure_rows {κ β : Type} [Enc κ] {f : β → W} (L : List (κ × β)) (hk : dep κ ≤ 64) (hf : ∀ b, okW 64 (f b) = true) : pureR (L.map fun p => (enc p.1, f p.2)) := by
  intro p hp
  obtain ⟨q, _, rfl⟩ := List.mem_map.mp hp
  exact ⟨okW_mono _ _ (ok q.1) 64 hk, hf q.2⟩
mutual
theorem ren_ok {r : Nat → Nat} : ∀ (k : Nat) (w : W), okW k w = true → w.ren r = w
  | 0, _, h => by cases h
  | k + 1, .tup ws, h => by rw [okW] at h; rw [W.ren, rens_ok k ws h]
  | _ + 1, .ref _, h => by rw [okW] at h; cases h
  | _ + 1, .non, _ => rfl
  | _ + 1, .bl _, _ => rfl
  | _ + 1, .int _, _ => rfl
  | _ + 1, .str _, _ => rfl
theorem rens_ok {r : Nat → Nat} : ∀ (k : Nat) (ws : List W), ws.all (okW k) = true → W.rens r ws = ws
  | _, [], _ => rfl
  | k, w :: ws, h => by
    rw [List.all_cons, Bool.and_eq_true] at h
    rw [W.rens, ren_ok k w h.1, rens_ok k ws h.2]
end
theorem ren_pure {r : Nat → Nat} {L : List (W × W)} (h : pureR L) : (MO.dT .nest L).ren r = .dT .nest L := by
  rw [MO.ren]
  congr 1
  refine (List.map_congr_left fun p hp => ?_).trans (List.map_id _)
  obtain ⟨h1, h2⟩ := h p hp
  rw [ren_ok 64 _ h1, ren_ok 64 _ h2]; rfl
theorem closed_pure {L : List (W × W)} (h : pureR L) (k : Nat) : (MO.dT .nest L).closed k = true := by
  rw [MO.closed, List.all_eq_true]
  intro p hp
  obtain ⟨h1, h2⟩ := h p hp
  rw [okW_closed 64 _ h1 k, okW_closed 64 _ h2 k]; rfl
end BF

set_option Elab.async false
set_option linter.all false
set_option autoImplicit false
set_option maxRecDepth 10000
namespace BF
open PySem Enc
/-! count_from -/
abbrev Knwn : Type := List ((Hist × Nat) × Nat)
abbrev fC : Nat → W := fun n => .int (n : Int)
def tree : Nat → Nat
  | 0 => 0
  | n + 1 => 1 + 3 * tree n
def memoF (f : Hist → Knwn → Nat × Knwn) (acc : List Nat × Knwn) (p : Act × Hist) : List Nat × Knwn := (acc.1 ++ [(f p.2 acc.2).1], (f p.2 acc.2).2)
def memo : List Sight → Hist → Knwn → Nat × Knwn
  | [], _, K => (1, K)
  | s :: ss, h, K => match getD' K (h, ss.length + 1) with
    | some v => (v, K)
    | none => (((stepsL h s).foldl (memoF (memo ss)) ([], K)).1.sum, putD ((stepsL h s).foldl (memoF (memo ss)) ([], K)).2 (h, ss.length + 1) ((stepsL h s).foldl (memoF (memo ss)) ([], K)).1.sum)
theorem stepsL_length (h : Hist) (s : Sight) : (stepsL h s).length ≤ 3 := by
  unfold stepsL
  exact Nat.le_trans (List.length_filterMap_le _ _) (Nat.le_refl 3)
theorem stepsL_mem {h : Hist} {s : Sight} {p : Act × Hist} (hp : p ∈ stepsL h s) : p.1 ∈ acts3 s ∧ p.2 = stepH h p.1 ∧ stepH h p.1 ≠ h ∧ sightH (stepH h p.1) = s := by
  unfold stepsL at hp
  obtain ⟨a, ha, e⟩ := List.mem_filterMap.mp hp
  unfold stepG at e
  split at e
  · rename_i c
    cases e
    exact ⟨ha, rfl, c.1, c.2⟩
  · cases e
theorem fold_len {f : Hist → Knwn → Nat × Knwn} {T : Nat} (hf : ∀ h K, (f h K).2.length ≤ K.length + T) : ∀ (ps : List (Act × Hist)) (acc : List Nat × Knwn), (ps.foldl (memoF f) acc).2.length ≤ acc.2.length + ps.length * T ∧ (ps.foldl (memoF f) acc).1.length = acc.1.length + ps.length
  | [], acc => by simp
  | p :: ps, acc => by
    obtain ⟨h1, h2⟩ := fold_len hf ps (memoF f acc p)
    have h3 := hf p.2 acc.2
    rw [List.foldl_cons, List.length_cons, Nat.succ_mul]
    have e1 : (memoF f acc p).2 = (f p.2 acc.2).2 := rfl
    have e2 : (memoF f acc p).1.length = acc.1.length + 1 := by simp [memoF]
    rw [e1] at h1
    rw [e2] at h2
    omega
theorem memo_len : ∀ (ss : List Sight) (h : Hist) (K : Knwn), (memo ss h K).2.length ≤ K.length + tree ss.length
  | [], _, _ => Nat.le_refl _
  | s :: ss, h, K => by
    unfold memo
    split
    · exact Nat.le_add_right _ _
    · have h1 := (fold_len (memo_len ss) (stepsL h s) ([], K)).1
      have h2 := putD_length ((stepsL h s).foldl (memoF (memo ss)) ([], K)).2 (h, ss.length + 1) ((stepsL h s).foldl (memoF (memo ss)) ([], K)).1.sum
      have h3 : (stepsL h s).length * tree ss.length ≤ 3 * tree ss.length := Nat.mul_le_mul_right _ (stepsL_length h s)
      refine Nat.le_trans h2 ?_
      rw [List.length_cons, tree]
      simp only at h1
      omega
def decR (p : W × W) : Option ((Hist × Nat) × Nat) := match p.2 with
  | .int v => if 0 ≤ v then (dec p.1 : Option (Hist × Nat)).map fun k => (k, v.toNat) else none
  | _ => none
def decK (R : List (W × W)) : Option Knwn := mapO decR R
theorem decK_rows : ∀ K : Knwn, decK (rowsD fC K) = some K
  | [] => rfl
  | p :: K => by
    have ih := decK_rows K
    unfold decK at ih ⊢
    show mapO decR ((enc p.1, fC p.2) :: rowsD fC K) = _
    rw [mapO, ih]
    have : decR ((enc p.1 : W), fC p.2) = some p := by
      unfold decR
      simp only [Int.natCast_nonneg, if_true, dec_enc, Option.map_some, Int.toNat_natCast]
    rw [this]
theorem decK_inv : ∀ {R : List (W × W)} {K : Knwn}, decK R = some K → R = rowsD fC K
  | [], K, h => by cases h; rfl
  | (x, y) :: R, K, h => by
    unfold decK at h
    rw [mapO] at h
    split at h
    · rename_i b bs h1 h2
      cases h
      rw [decK_inv (K := bs) h2]
      unfold decR at h1
      split at h1
      · rename_i v hv
        split at h1
        · rename_i h0
          obtain ⟨k, hk, e⟩ := Option.map_eq_some_iff.mp h1
          cases e
          show _ = (enc k, W.int ((v.toNat : Nat) : Int)) :: _
          simp only at hv hk
          rw [enc_dec _ _ hk, hv, show ((v.toNat : Nat) : Int) = v by omega]
          rfl
        · cases h1
      · cases h1
    · cases h
def countOk (d : Nat) (h : Hist) (ss : List Sight) (K : Knwn) : Prop := ss.length < d ∧ roomy h ss.length ∧ ss.length ≤ 900 ∧ K.length + tree ss.length ≤ 10000000
instance (d : Nat) (h : Hist) (ss : List Sight) (K : Knwn) : Decidable (countOk d h ss K) := by unfold countOk roomy; infer_instance
def F_count_from (d : Nat) : Fn := fun ws M => match ws with
  | [x, y, .ref n] => match (dec x : Option Hist), (dec y : Option (List Sight)), M[n]? with
    | some h, some ss, some (.dT .nest R) => match decK R with
      | some K => if countOk d h ss K then some (.int ((memo ss h K).1 : Nat), M.set n (.dT .nest (rowsD fC (memo ss h K).2))) else none
      | none => none
    | _, _, _ => none
  | _ => none
theorem F0_count_from (ws : List W) (M : Mem) : F_count_from 0 ws M = none := by
  unfold F_count_from
  split
  · split
    · split
      · rw [if_neg (fun z => absurd z.1 (Nat.not_lt_zero _))]
      · rfl
    · rfl
  · rfl
theorem count_from_ok {d : Nat} {h : Hist} {ss : List Sight} {K : Knwn} {M : Mem} {n : Nat} (hM : M[n]? = some (.dT .nest (rowsD fC K))) (ok : countOk d h ss K) : F_count_from d [enc h, enc ss, .ref n] M = some (.int ((memo ss h K).1 : Nat), M.set n (.dT .nest (rowsD fC (memo ss h K).2))) := by
  unfold F_count_from
  simp only [dec_enc, hM, decK_rows]
  rw [if_pos ok]
abbrev N_count_from : List Str := ["history", "sightings", "known", "rows", "action", "other"]
def c_count_from (R : Fn) : CS :=
  (sSeq (sIf (tB (e2 gEq (eV 1) (eTup []))) (sRet (eL (.int 1))) sNil)
  (sSeq (sIf (tB (e2 gNotInN (eTup [(eV 0), (eN pLen [(eV 1)])]) (eV 2))) (sSeq (sSet (gV 3) (eN F_steps [(eV 0), (e2 gIx (eV 1) (eL (.int 0)))]))
  (sPut putNM (eV 2) (eTup [(eV 0), (eN pLen [(eV 1)])]) (eN pSumW [(eLc (iLst (eV 3)) (gT [(gV 4), (gV 5)]) tTrue (eN R [(eV 5), (eSl (eV 1) (some (eL (.int 1))) none), (eV 2)]) [4, 5])]))) sNil)
  (sRet (e2 gGetN (eV 2) (eTup [(eV 0), (eN pLen [(eV 1)])])))))
theorem setM_same {M : Mem} {n : Nat} {x : MO} (h : M[n]? = some x) : M.set n x = M := by
  refine List.ext_getElem? fun i => ?_
  rw [List.getElem?_set]
  split
  · rename_i e
    subst e
    rw [if_pos (List.getElem?_eq_some_iff.mp h).1, h]
  · rfl
theorem pure_known (K : Knwn) : pureR (rowsD fC K) := pure_rows (f := fC) K (by decide) (fun _ => rfl)
theorem lc_count (d : Nat) (M : Mem) (n : Nat) (hn : n < M.length) (h : Hist) (s : Sight) (ss : List Sight) (L : List W) : ∀ (ps : List (Act × Hist)) (acc : List Nat) (K : Knwn), (∀ p ∈ ps, roomy p.2 ss.length) → ss.length < d → ss.length ≤ 900 → K.length + ps.length * tree ss.length ≤ 10000000 → acc.length + ps.length ≤ 1000 →
    lcL (fun M' => decide (M'[M.length]? = some (.lst L))) (gT [(gV 4), (gV 5)]) tTrue (eN (F_count_from d) [(eV 5), (eSl (eV 1) (some (eL (.int 1))) none), (eV 2)]) [4, 5] [some (enc h), some (enc (s :: ss)), some (.ref n), some (.ref M.length), none, none] (M.length + 1) (ps.map enc)
      (M.set n (.dT .nest (rowsD fC K)) ++ [.lst L, .lst (acc.map fC)]) = some (M.set n (.dT .nest (rowsD fC (ps.foldl (memoF (memo ss)) (acc, K)).2)) ++ [.lst L, .lst ((ps.foldl (memoF (memo ss)) (acc, K)).1.map fC)])
  | [], acc, K, _, _, _, _, _ => by
    rw [List.map_nil, lcL, if_pos (by rw [List.getElem?_append_right (by simp)]; simp)]
    rfl
  | p :: ps, acc, K, hp, hd, h9, hK, ha => by
    rw [List.length_cons] at hK ha
    rw [Nat.succ_mul] at hK
    have ok : countOk d p.2 ss K := ⟨hd, hp p List.mem_cons_self, h9, by omega⟩
    obtain ⟨M1, hM1⟩ : ∃ M1, M1 = M.set n (.dT .nest (rowsD fC K)) ++ [.lst L, .lst (acc.map fC)] := ⟨_, rfl⟩
    have m1 : M1[n]? = some (.dT .nest (rowsD fC K)) := by rw [hM1, List.getElem?_append_left (by simpa using hn), List.getElem?_set_self hn]
    have f1 := count_from_ok m1 ok
    have m2 : M1[M.length]? = some (.lst L) := by rw [hM1, List.getElem?_append_right (by simp)]; simp
    have m3 : M1.set n (.dT .nest (rowsD fC (memo ss p.2 K).2)) = M.set n (.dT .nest (rowsD fC (memo ss p.2 K).2)) ++ [.lst L, .lst (acc.map fC)] := by
      rw [hM1, List.set_append_left _ _ (by simpa using hn), List.set_set]
    have lk := memo_len ss p.2 K
    have ih := lc_count d M n hn h s ss L ps (acc ++ [(memo ss p.2 K).1]) (memo ss p.2 K).2 (fun q hq => hp q (List.mem_cons_of_mem _ hq)) hd h9 (by omega) (by simp; omega)
    rw [← hM1, List.map_cons, lcL, if_pos (by simpa using m2)]
    have eg : gT [(gV 4), (gV 5)] (enc p) (wipe [some (enc h), some (enc (s :: ss)), some (.ref n), some (.ref M.length), none, none] [4, 5]) = some [some (enc h), some (enc (s :: ss)), some (.ref n), some (.ref M.length), some (enc p.1), some (enc p.2)] := rfl
    have ec : cutW (enc s :: ss.map enc : List W) (some 1) none = ss.map enc := cutW_lo (enc s :: ss.map enc : List W) 1
    have es : eSl (eV 1) (some (eL (.int 1))) none [some (enc h), some (enc (s :: ss)), some (.ref n), some (.ref M.length), some (enc p.1), some (enc p.2)] M1 = some (enc ss, M1) := by
      simp [enc_list, ec]
    have ee : eN (F_count_from d) [(eV 5), (eSl (eV 1) (some (eL (.int 1))) none), (eV 2)] [some (enc h), some (enc (s :: ss)), some (.ref n), some (.ref M.length), some (enc p.1), some (enc p.2)] M1 = some (.int ((memo ss p.2 K).1 : Nat), M1.set n (.dT .nest (rowsD fC (memo ss p.2 K).2))) := by
      simp only [eN_eq, eArgs_cons, eArgs_nil, eV_eq, List.getD_cons_zero, List.getD_cons_succ, Option.bind_some, es, f1]
    rw [eg, Option.bind_some, tTrue_eq, Option.bind_some]
    simp only [if_true]
    rw [ee, Option.bind_some, m3]
    have m4 : (M.set n (.dT .nest (rowsD fC (memo ss p.2 K).2)) ++ [MO.lst L, MO.lst (acc.map fC)])[M.length + 1]? = some (MO.lst (acc.map fC)) := by rw [List.getElem?_append_right (by simp)]; simp
    have m5 : (M.set n (.dT .nest (rowsD fC (memo ss p.2 K).2)) ++ [MO.lst L, MO.lst (acc.map fC)]).set (M.length + 1) (MO.lst (acc.map fC ++ [W.int ((memo ss p.2 K).1 : Nat)])) = M.set n (.dT .nest (rowsD fC (memo ss p.2 K).2)) ++ [.lst L, .lst ((acc ++ [(memo ss p.2 K).1]).map fC)] := by
      rw [List.set_append_right _ _ (by simp)]
      simp
    simp only [m4]
    rw [if_pos (by rw [List.length_map]; omega), m5]
    exact ih
theorem fC_ints (l : List Nat) : l.map fC = (l.map (Int.ofNat)).map W.int := by rw [List.map_map]; rfl
theorem asInts_nats (l : List Nat) : asInts (l.map fC) = some (l.map Int.ofNat) := by rw [fC_ints, asInts_map]
theorem sum_nats : ∀ l : List Nat, (l.map Int.ofNat).sum = ((l.sum : Nat) : Int)
  | [] => rfl
  | n :: l => by rw [List.map_cons, List.sum_cons, List.sum_cons, sum_nats l]; exact (Int.natCast_add _ _).symm
theorem closed_set {M : Mem} {n : Nat} {x : MO} (c : Closed M) (hx : ∀ k, x.closed k = true) : Closed (M.set n x) := by
  intro mo hm
  rw [List.length_set]
  rcases List.mem_or_eq_of_mem_set hm with h | h
  · exact c mo h
  · rw [h]; exact hx _
theorem roomy_steps {h : Hist} {s : Sight} {n : Nat} (hr : roomy h (n + 1)) : ∀ p ∈ stepsL h s, roomy p.2 n := fun p hp => by
  rw [(stepsL_mem hp).2.1]
  exact roomy_step _ hr
theorem keeps_count_from (d : Nat) : Keeps 6 (c_count_from (F_count_from d)) (F_count_from (d + 1)) := by
  refine KeepsP.keeps ?_
  intro ws M w M' hc hw e
  unfold F_count_from at e
  split at e
  · split at e
    · rename_i x y n _ _ _ h ss R hx hy hM
      split at e
      · rename_i K hK
        split at e
        · rename_i ok
          cases e
          rw [enc_dec _ _ hx, enc_dec _ _ hy]
          rw [decK_inv hK] at hM
          have hn : n < M.length := (List.getElem?_eq_some_iff.mp hM).1
          obtain ⟨o1, o2, o9, o3⟩ := ok
          suffices hb : ∃ g, c_count_from (F_count_from d) [some (enc h), some (enc ss), some (.ref n), none, none, none] M = some (.rt (.int ((memo ss h K).1 : Nat)) (M.set n (.dT .nest (rowsD fC (memo ss h K).2)) ++ g)) by
            obtain ⟨g, hg⟩ := hb
            exact ⟨g, .inl hg, by simp, closed_set hc (closed_pure (pure_known _)), rfl⟩
          have eq0 := eqW_enc M ss ([] : List Sight)
          have en0 : (enc ([] : List Sight) : W) = .tup [] := rfl
          rw [en0] at eq0
          cases ss with
          | nil =>
            refine ⟨[], ?_⟩
            rw [List.append_nil]
            show _ = some (Out.rt (.int ((1 : Nat) : Int)) (M.set n (.dT .nest (rowsD fC K))))
            rw [setM_same hM]
            rw [decide_eq_true rfl, en0] at eq0
            simp [c_count_from, en0, eq0]
          | cons s ss =>
            rw [decide_eq_false (by simp)] at eq0
            have kl : ((((enc s :: ss.map enc : List W).length : Nat)) : Int) = ((ss.length + 1 : Nat) : Int) := by simp
            have key : (.tup [enc h, .int ((ss.length + 1 : Nat) : Int)] : W) = enc ((h, ss.length + 1) : Hist × Nat) := rfl
            have l1 : ∀ M, (eTup [(eV 0), (eN pLen [(eV 1)])]) [some (enc h), some (enc (s :: ss)), some (.ref n), none, none, none] M = some (enc ((h, ss.length + 1) : Hist × Nat), M) := fun M => by
              rw [← key]; simp [enc_list]
            have l2 : ∀ (M : Mem) (s3 : Option W), (eTup [(eV 0), (eN pLen [(eV 1)])]) [some (enc h), some (enc (s :: ss)), some (.ref n), s3, none, none] M = some (enc ((h, ss.length + 1) : Hist × Nat), M) := fun M s3 => by
              rw [← key]; simp [enc_list]
            have n1 := gNotInN_enc (f := fC) (nestAt_of (.inl hM)) ((h, ss.length + 1) : Hist × Nat)
            have hif : (sIf (tB (e2 gEq (eV 1) (eTup []))) (sRet (eL (.int 1))) sNil) [some (enc h), some (enc (s :: ss)), some (.ref n), none, none, none] M = some (.nx [some (enc h), some (enc (s :: ss)), some (.ref n), none, none, none] M) := by
              simp [eq0]
            unfold c_count_from
            rw [sSeq_eq, hif, Option.bind_some]
            simp only []
            cases hv : getD' K ((h, ss.length + 1) : Hist × Nat) with
            | some v =>
              have em : memo (s :: ss) h K = (v, K) := by unfold memo; rw [hv]
              rw [em]
              simp only
              rw [setM_same hM]
              have g1 := gGetN_enc (f := fC) (nestAt_of (.inl hM)) hv
              rw [hv] at n1
              refine ⟨[], ?_⟩
              simp only [sSeq_eq, sIf_eq, tB_eq, e2_eq, l1, Option.bind_some, eV_eq, List.getD_cons_zero, List.getD_cons_succ, n1, Option.isSome_some, Bool.not_true, Bool.false_eq_true, if_false, sNil_eq, sRet_eq, g1, List.append_nil]
            | none =>
              obtain ⟨r, hr⟩ : ∃ r, r = (stepsL h s).foldl (memoF (memo ss)) ([], K) := ⟨_, rfl⟩
              have em : memo (s :: ss) h K = (r.1.sum, putD r.2 (h, ss.length + 1) r.1.sum) := by unfold memo; rw [hv, hr]
              rw [em]
              simp only
              have hro : roomy h 1 := roomy_mono o2 (by simp)
              have fs := steps_ok (h := h) (s := s) M hro
              rw [List.length_cons] at o1 o2 o9 o3
              rw [tree] at o3
              have sl := stepsL_length h s
              obtain ⟨fl1, fl2⟩ := fold_len (memo_len ss) (stepsL h s) ([], K)
              rw [← hr] at fl1 fl2
              simp only [List.length_nil, Nat.zero_add] at fl1 fl2
              have fl3 : (stepsL h s).length * tree ss.length ≤ 3 * tree ss.length := Nat.mul_le_mul_right _ sl
              have lc := lc_count d M n hn h s ss ((stepsL h s).map enc) (stepsL h s) [] K (roomy_steps o2) (by omega) (by omega) (by omega) (by simp; omega)
              rw [← hr, List.map_nil] at lc
              obtain ⟨M2, hM2⟩ : ∃ M2, M2 = M.set n (.dT .nest (rowsD fC r.2)) ++ [.lst ((stepsL h s).map enc), .lst (r.1.map fC)] := ⟨_, rfl⟩
              rw [← hM2] at lc
              have m1 : M2[n]? = some (.dT .nest (rowsD fC r.2)) := by rw [hM2, List.getElem?_append_left (by simpa using hn), List.getElem?_set_self hn]
              have m2 : M2[M.length + 1]? = some (.lst (r.1.map fC)) := by rw [hM2, List.getElem?_append_right (by simp)]; simp
              have m0 : (M ++ [MO.lst ((stepsL h s).map enc)])[M.length]? = some (.lst ((stepsL h s).map enc)) := by simp
              have t4 := putNM_enc (f := fC) m1 (by omega) ((h, ss.length + 1) : Hist × Nat) r.1.sum
              have sm : pSumW [.ref (M.length + 1)] M2 = some (fC r.1.sum, M2) := by
                simp only [pSumW_ref, intsAt, m2, asInts_nats, Option.map_some, sum_nats]
              have m3 : (M2.set n (.dT .nest (rowsD fC (putD r.2 (h, ss.length + 1) r.1.sum))))[n]? = some (.dT .nest (rowsD fC (putD r.2 (h, ss.length + 1) r.1.sum))) := by
                rw [List.getElem?_set_self (List.getElem?_eq_some_iff.mp m1).1]
              have g1 := gGetN_enc (f := fC) (nestAt_of (.inl m3)) (getD_put r.2 ((h, ss.length + 1) : Hist × Nat) (h, ss.length + 1) r.1.sum |>.trans (if_pos rfl))
              have hlc : (eLc (iLst (eV 3)) (gT [(gV 4), (gV 5)]) tTrue (eN (F_count_from d) [(eV 5), (eSl (eV 1) (some (eL (.int 1))) none), (eV 2)]) [4, 5]) [some (enc h), some (enc (s :: ss)), some (.ref n), some (.ref M.length), none, none] (M ++ [.lst ((stepsL h s).map enc)]) = some (.ref (M.length + 1), M2) := by
                have ma : M ++ [MO.lst ((stepsL h s).map enc)] ++ [.lst []] = M.set n (.dT .nest (rowsD fC K)) ++ [.lst ((stepsL h s).map enc), .lst []] := by rw [setM_same hM]; simp
                have ml : (M ++ [MO.lst ((stepsL h s).map enc)]).length = M.length + 1 := by simp
                simp only [eLc_eq, iLst_eq, eV_eq, List.getD_cons_zero, List.getD_cons_succ, Option.bind_some, m0, ma, ml, lc]
              have i0 : ixW ((s :: ss).map (enc (α := Sight)) : List W).length 0 = some 0 := by rw [List.map_cons, List.length_cons]; exact ixW_nat (j := 0) (by omega)
              have hst : (sSet (gV 3) (eN F_steps [(eV 0), (e2 gIx (eV 1) (eL (.int 0)))])) [some (enc h), some (enc (s :: ss)), some (.ref n), none, none, none] M = some (.nx [some (enc h), some (enc (s :: ss)), some (.ref n), some (.ref M.length), none, none] (M ++ [.lst ((stepsL h s).map enc)])) := by
                have ix : gIx M (enc (s :: ss)) (.int 0) = some (enc s, M) := by
                  rw [enc_list]
                  simp
                simp only [sSet_eq, eN_eq, eArgs_cons, eArgs_nil, eV_eq, e2_eq, eL_eq, List.getD_cons_zero, List.getD_cons_succ, Option.bind_some, ix, fs, gV_eq, List.set_cons_zero, List.set_cons_succ, Option.map_some]
              rw [hv] at n1
              refine ⟨[.lst ((stepsL h s).map enc), .lst (r.1.map fC)], ?_⟩
              have mfin : M2.set n (.dT .nest (rowsD fC (putD r.2 (h, ss.length + 1) r.1.sum))) = M.set n (.dT .nest (rowsD fC (putD r.2 (h, ss.length + 1) r.1.sum))) ++ [.lst ((stepsL h s).map enc), .lst (r.1.map fC)] := by
                rw [hM2, List.set_append_left _ _ (by simpa using hn), List.set_set]
              rw [← mfin]
              have hput : (sPut putNM (eV 2) (eTup [(eV 0), (eN pLen [(eV 1)])]) (eN pSumW [(eLc (iLst (eV 3)) (gT [(gV 4), (gV 5)]) tTrue (eN (F_count_from d) [(eV 5), (eSl (eV 1) (some (eL (.int 1))) none), (eV 2)]) [4, 5])])) [some (enc h), some (enc (s :: ss)), some (.ref n), some (.ref M.length), none, none] (M ++ [.lst ((stepsL h s).map enc)]) = some (.nx [some (enc h), some (enc (s :: ss)), some (.ref n), some (.ref M.length), none, none] (M2.set n (.dT .nest (rowsD fC (putD r.2 (h, ss.length + 1) r.1.sum))))) := by
                simp only [sPut_eq, eN_eq, eArgs_cons, eArgs_nil, hlc, Option.bind_some, sm, eV_eq, List.getD_cons_zero, List.getD_cons_succ, l2, t4]
              have g1' : gGetN (M2.set n (.dT .nest (rowsD fC (putD r.2 (h, ss.length + 1) r.1.sum)))) (.ref n) (enc ((h, ss.length + 1) : Hist × Nat)) = some (.int ((r.1.sum : Nat) : Int), M2.set n (.dT .nest (rowsD fC (putD r.2 (h, ss.length + 1) r.1.sum)))) := g1
              rw [sSeq_eq, sIf_eq, tB_eq, e2_eq, l1]
              simp only [Option.bind_some, eV_eq, List.getD_cons_zero, List.getD_cons_succ, n1, Option.isSome_none, Bool.not_false, if_true]
              rw [sSeq_eq, hst, Option.bind_some]
              simp only [hput, Option.bind_some]
              simp only [sRet_eq, e2_eq, eV_eq, List.getD_cons_zero, List.getD_cons_succ, Option.bind_some, l2, g1']
        · cases e
      · cases e
    · cases e
  · cases e
end BF

set_option Elab.async false
set_option linter.all false
set_option autoImplicit false
set_option maxRecDepth 10000
namespace BF
open PySem Enc
/-! explanations, plainly -/
def expl : List Sight → Hist → List (List Act)
  | [], _ => [[]]
  | s :: ss, h => (stepsL h s).flatMap fun p => (expl ss p.2).map (p.1 :: ·)
theorem expl_length (s : Sight) (ss : List Sight) (h : Hist) : (expl (s :: ss) h).length = ((stepsL h s).map fun p => (expl ss p.2).length).sum := by
  rw [expl, List.length_flatMap]
  congr 1
  refine List.map_congr_left fun p _ => ?_
  simp
def OkK (S : List Sight) (K : Knwn) : Prop := ∀ h k v, getD' K ((h, k) : Hist × Nat) = some v → k ≤ S.length ∧ v = (expl (S.drop (S.length - k)) h).length
theorem okK_nil (S : List Sight) : OkK S [] := by
  intro h k v e; cases e
theorem drop_suffix {α : Type} {S pre ss : List α} (h : S = pre ++ ss) : S.drop (S.length - ss.length) = ss := by
  subst h
  rw [List.length_append, Nat.add_sub_cancel, List.drop_left]
theorem fold_ok {S ss : List Sight} {f : Hist → Knwn → Nat × Knwn} (hf : ∀ h K, OkK S K → (f h K).1 = (expl ss h).length ∧ OkK S (f h K).2) : ∀ (ps : List (Act × Hist)) (acc : List Nat × Knwn), OkK S acc.2 → (ps.foldl (memoF f) acc).1 = acc.1 ++ ps.map (fun p => (expl ss p.2).length) ∧ OkK S (ps.foldl (memoF f) acc).2
  | [], acc, h => by simpa using h
  | p :: ps, acc, h => by
    obtain ⟨h1, h2⟩ := hf p.2 acc.2 h
    obtain ⟨h3, h4⟩ := fold_ok hf ps (memoF f acc p) h2
    refine ⟨?_, h4⟩
    rw [List.foldl_cons, h3]
    show acc.1 ++ [(f p.2 acc.2).1] ++ _ = _
    rw [h1]; simp
theorem memo_ok {S : List Sight} : ∀ (ss : List Sight) (pre : List Sight), S = pre ++ ss → ∀ (h : Hist) (K : Knwn), OkK S K → (memo ss h K).1 = (expl ss h).length ∧ OkK S (memo ss h K).2
  | [], _, _, h, K, hk => ⟨rfl, hk⟩
  | s :: ss, pre, e, h, K, hk => by
    unfold memo
    split
    · rename_i v hv
      obtain ⟨h1, h2⟩ := hk _ _ _ hv
      have := drop_suffix e
      rw [List.length_cons] at this
      rw [this] at h2
      exact ⟨h2, hk⟩
    · obtain ⟨h1, h2⟩ := fold_ok (memo_ok ss (pre ++ [s]) (by rw [e]; simp)) (stepsL h s) ([], K) hk
      have h3 : ((stepsL h s).foldl (memoF (memo ss)) ([], K)).1.sum = (expl (s :: ss) h).length := by
        rw [h1, expl_length, List.nil_append]
      refine ⟨h3, fun h' k v hv => ?_⟩
      simp only at hv
      rw [getD_put] at hv
      split at hv
      · rename_i hh
        cases hv
        cases hh
        have := drop_suffix e
        rw [List.length_cons] at this
        refine ⟨by rw [e]; simp, ?_⟩
        rw [this, h3]
      · exact h2 h' k v hv
/-- which of them -/
theorem flat_get {α β : Type} (f : α → List β) (p : α) (ps : List α) (n : Nat) : ((p :: ps).flatMap f)[n]? = if n < (f p).length then (f p)[n]? else (ps.flatMap f)[n - (f p).length]? := by
  rw [List.flatMap_cons, List.getElem?_append]
/-! they stand in ascending order -/
def ltR (a b : Act) : Prop := (a = .back ∧ b = .forward) ∨ (a = .back ∧ ∃ p, b = .visit p) ∨ (a = .forward ∧ ∃ p, b = .visit p)
def lexA : List Act → List Act → Prop
  | a :: l, b :: m => (a = b ∧ lexA l m) ∨ ltR a b
  | _, _ => False
theorem acts3_pw (s : Sight) : (acts3 s).Pairwise ltR := by
  unfold acts3
  refine .cons ?_ (.cons ?_ (.cons ?_ .nil))
  · intro b hb
    simp only [List.mem_cons, List.not_mem_nil, or_false] at hb
    rcases hb with rfl | rfl
    · exact .inl ⟨rfl, rfl⟩
    · exact .inr (.inl ⟨rfl, _, rfl⟩)
  · intro b hb
    rw [List.mem_singleton] at hb
    exact .inr (.inr ⟨rfl, _, hb⟩)
  · intro b hb; cases hb
theorem stepsL_pw (h : Hist) (s : Sight) : (stepsL h s).Pairwise fun p q => ltR p.1 q.1 := by
  unfold stepsL
  refine List.Pairwise.filterMap _ (fun a b hab p hp q hq => ?_) (acts3_pw s)
  unfold stepG at hp hq
  split at hp
  · split at hq
    · cases hp; cases hq; exact hab
    · cases hq
  · cases hp
theorem expl_pw : ∀ (ss : List Sight) (h : Hist), (expl ss h).Pairwise lexA
  | [], h => by unfold expl; simp
  | s :: ss, h => by
    unfold expl
    rw [List.pairwise_flatMap]
    refine ⟨fun p _ => ?_, ?_⟩
    · rw [List.pairwise_map]
      exact (expl_pw ss p.2).imp fun {a b} hab => .inl ⟨rfl, hab⟩
    · refine (stepsL_pw h s).imp fun {p q} hpq x hx y hy => ?_
      obtain ⟨l, _, rfl⟩ := List.mem_map.mp hx
      obtain ⟨m, _, rfl⟩ := List.mem_map.mp hy
      exact .inr hpq
/-- an explanation shows the sightings -/
def showsS (h : Hist) : List Act → List Sight
  | [] => []
  | a :: l => sightH (stepH h a) :: showsS (stepH h a) l
def moves (h : Hist) : List Act → Prop
  | [] => True
  | a :: l => stepH h a ≠ h ∧ moves (stepH h a) l
theorem expl_mem : ∀ (ss : List Sight) (h : Hist) (l : List Act), l ∈ expl ss h → l.length = ss.length ∧ l.all plain = true ∧ showsS h l = ss
  | [], h, l, hl => by
    unfold expl at hl
    rw [List.mem_singleton] at hl
    subst hl
    exact ⟨rfl, rfl, rfl⟩
  | s :: ss, h, l, hl => by
    unfold expl at hl
    obtain ⟨p, hp, hl⟩ := List.mem_flatMap.mp hl
    obtain ⟨m, hm, rfl⟩ := List.mem_map.mp hl
    obtain ⟨h1, h2, h3⟩ := expl_mem ss p.2 m hm
    obtain ⟨g1, g2, g3, g4⟩ := stepsL_mem hp
    refine ⟨by simp [h1], by rw [List.all_cons, h2, acts3_plain s _ g1]; rfl, ?_⟩
    show sightH (stepH h p.1) :: showsS (stepH h p.1) m = _
    rw [g4, ← g2, h3]
theorem sight_visit (h : Hist) (p : Str) (hv : h.at_ < h.ps.length) : (sightH (stepH h (.visit p))).p = p := by
  show (h.ps.take (h.at_ + 1) ++ [p]).getD (h.at_ + 1) default = p
  rw [List.getD_eq_getElem?_getD, List.getElem?_append_right (by simp; omega)]
  have : (h.ps.take (h.at_ + 1)).length = h.at_ + 1 := by simp; omega
  rw [this]; simp
theorem step_valid' {h : Hist} {a : Act} (hv : h.at_ < h.ps.length) : (stepH h a).at_ < (stepH h a).ps.length := by
  cases a with
  | visit p => simp [stepH]; omega
  | back => simp [stepH]; omega
  | forward => simp [stepH]; omega
  | go i =>
    show (if i < h.ps.length then (⟨h.ps, i⟩ : Hist) else h).at_ < (if i < h.ps.length then (⟨h.ps, i⟩ : Hist) else h).ps.length
    split
    · assumption
    · exact hv
theorem expl_has : ∀ (l : List Act) (h : Hist), h.at_ < h.ps.length → l.all plain = true → moves h l → l ∈ expl (showsS h l) h
  | [], h, _, _, _ => by simp [showsS, expl]
  | a :: l, h, hv, pl, hm => by
    rw [List.all_cons, Bool.and_eq_true] at pl
    obtain ⟨h1, h2⟩ := hm
    have ih := expl_has l (stepH h a) (step_valid' hv) pl.2 h2
    unfold showsS expl
    refine List.mem_flatMap.mpr ⟨(a, stepH h a), ?_, List.mem_map.mpr ⟨l, ih, rfl⟩⟩
    unfold stepsL
    refine List.mem_filterMap.mpr ⟨a, ?_, by unfold stepG; rw [if_pos ⟨h1, rfl⟩]⟩
    unfold acts3
    cases a with
    | back => simp
    | forward => simp
    | visit p => rw [sight_visit h p hv]; simp
    | go i => cases pl.1
end BF

set_option Elab.async false
set_option linter.all false
set_option autoImplicit false
set_option maxRecDepth 10000
namespace BF
open PySem Enc
/-! explanation_at -/
theorem tree_mono : ∀ {a b : Nat}, a ≤ b → tree a ≤ tree b
  | 0, _, _ => Nat.zero_le _
  | a + 1, 0, h => absurd h (by omega)
  | a + 1, b + 1, h => by
    have := tree_mono (a := a) (b := b) (by omega)
    rw [tree, tree]; omega
theorem tree10 {n : Nat} (h : n ≤ 10) : tree n ≤ 29524 := tree_mono h
def atF (h : Hist) (ss : List Sight) (n : Nat) : Option (Option (List Act)) := if roomy h 100 ∧ ss.length ≤ 10 then some ((expl ss h)[n]?) else none
def F_explanation_at : Fn := fn3 atF
abbrev b1_explanation_at : CS :=
  (sFor (iLst (eN F_steps [(eV 0), (e2 gIx (eV 1) (eL (.int 0)))])) (gT [(gV 5), (gV 6)]) (sSeq (sSet (gV 7) (eN (F_count_from 12) [(eV 6), (eSl (eV 1) (some (eL (.int 1))) none), (eV 3)]))
  (sSeq (sIf (tB (e2 gLt (eV 2) (eV 7))) (sSeq (sPar [4, 0, 1] [(e2 gAdd (eV 4) (eTup [(eV 5)])), (eV 6), (eSl (eV 1) (some (eL (.int 1))) none)])
  sBreak) sNil)
  (sAug 2 gSub (eV 7)))))
abbrev b2_explanation_at : CS :=
  (sSeq (sSet (gV 7) (eN (F_count_from 12) [(eV 6), (eSl (eV 1) (some (eL (.int 1))) none), (eV 3)]))
  (sSeq (sIf (tB (e2 gLt (eV 2) (eV 7))) (sSeq (sPar [4, 0, 1] [(e2 gAdd (eV 4) (eTup [(eV 5)])), (eV 6), (eSl (eV 1) (some (eL (.int 1))) none)])
  sBreak) sNil)
  (sAug 2 gSub (eV 7))))
abbrev N_explanation_at : List Str := ["history", "sightings", "number", "known", "found", "action", "other", "count"]
def c_explanation_at : CS :=
  (sSeq (sPar [3, 4] [eDictN, (eTup [])])
  (sSeq (sIf (tB (e2 gGe (eV 2) (eN (F_count_from 12) [(eV 0), (eV 1), (eV 3)]))) (sRet (eL .non)) sNil)
  (sSeq (sWhile 1000 (tB (e2 gNe (eV 1) (eTup []))) (sFor (iLst (eN F_steps [(eV 0), (e2 gIx (eV 1) (eL (.int 0)))])) (gT [(gV 5), (gV 6)]) (sSeq (sSet (gV 7) (eN (F_count_from 12) [(eV 6), (eSl (eV 1) (some (eL (.int 1))) none), (eV 3)]))
  (sSeq (sIf (tB (e2 gLt (eV 2) (eV 7))) (sSeq (sPar [4, 0, 1] [(e2 gAdd (eV 4) (eTup [(eV 5)])), (eV 6), (eSl (eV 1) (some (eL (.int 1))) none)])
  sBreak) sNil)
  (sAug 2 gSub (eV 7))))))
  (sRet (eV 4)))))
theorem at_ok {h : Hist} {ss : List Sight} (n : Nat) (M : Mem) (h1 : roomy h 100) (h2 : ss.length ≤ 10) : F_explanation_at [enc h, enc ss, .int n] M = some (enc ((expl ss h)[n]?), M) := by
  have := fn3_eq atF h ss n M
  unfold atF at this
  rw [if_pos ⟨h1, h2⟩] at this
  exact this
theorem sl_tail (M : Mem) (s : Sight) (ss : List Sight) (σ : Sl) (h : σ.getD 1 none = some (enc (s :: ss))) : eSl (eV 1) (some (eL (.int 1))) none σ M = some (enc ss, M) := by
  have ec : cutW (enc s :: ss.map enc : List W) (some 1) none = ss.map enc := cutW_lo (enc s :: ss.map enc : List W) 1
  simp only [eSl_eq, eV_eq, h, Option.map_some, Option.bind_some, ePart_some, ePart_none, eL_eq, enc_list, List.map_cons, gSl_tup, ec]
theorem pick_loop {S pre ss : List Sight} (hS : S = pre ++ ss) (h10 : ss.length ≤ 10) (kn lr : Nat) (L : List W) (hne : kn ≠ lr) (h : Hist) (s : Sight) (found : List Act) (hf : found.length ≤ 100) : ∀ (ps : List (Act × Hist)) (n : Nat) (K : Knwn) (M : Mem) (s5 s6 s7 : Option W), (∀ p ∈ ps, roomy p.2 ss.length) → M[kn]? = some (.dT .nest (rowsD fC K)) → M[lr]? = some (.lst L) → OkK S K → K.length + (ps.length + 1) * tree ss.length ≤ 1000000 → n < (ps.map fun p => (expl ss p.2).length).sum →
    ∃ p n' K' s5' s6' s7', p ∈ ps ∧ forL (fun M' => decide (M'[lr]? = some (.lst L))) (gT [(gV 5), (gV 6)]) b2_explanation_at (ps.map enc) [some (enc h), some (enc (s :: ss)), some (.int (n : Nat)), some (.ref kn), some (enc found), s5, s6, s7] M =
        some (.nx [some (enc p.2), some (enc ss), some (.int (n' : Nat)), some (.ref kn), some (enc (found ++ [p.1])), s5', s6', s7'] (M.set kn (.dT .nest (rowsD fC K')))) ∧
      n' < (expl ss p.2).length ∧ (ps.flatMap fun p => (expl ss p.2).map (p.1 :: ·))[n]? = ((expl ss p.2)[n']?).map (p.1 :: ·) ∧ OkK S K' ∧ K'.length ≤ K.length + ps.length * tree ss.length
  | [], n, K, M, s5, s6, s7, _, _, _, _, _, hn => absurd hn (by simp)
  | p :: ps, n, K, M, s5, s6, s7, hp, hK, hL, ok, hl, hn => by
    rw [List.length_cons, Nat.succ_mul] at hl
    have cok : countOk 12 p.2 ss K := ⟨by omega, hp p List.mem_cons_self, by omega, by omega⟩
    have f1 := count_from_ok hK cok
    obtain ⟨m1, m2⟩ := memo_ok ss pre hS p.2 K ok
    have ml := memo_len ss p.2 K
    rw [m1] at f1
    have kl := (List.getElem?_eq_some_iff.mp hK).1
    obtain ⟨M1, hM1⟩ : ∃ M1, M1 = M.set kn (.dT .nest (rowsD fC (memo ss p.2 K).2)) := ⟨_, rfl⟩
    rw [← hM1] at f1
    have sl := fun (M : Mem) (s5 s6 s7 : Option W) => sl_tail M s ss [some (enc h), some (enc (s :: ss)), some (.int (n : Nat)), some (.ref kn), some (enc found), s5, s6, s7] rfl
    have hset : (sSet (gV 7) (eN (F_count_from 12) [(eV 6), (eSl (eV 1) (some (eL (.int 1))) none), (eV 3)])) [some (enc h), some (enc (s :: ss)), some (.int (n : Nat)), some (.ref kn), some (enc found), some (enc p.1), some (enc p.2), s7] M = some (.nx [some (enc h), some (enc (s :: ss)), some (.int (n : Nat)), some (.ref kn), some (enc found), some (enc p.1), some (enc p.2), some (.int ((expl ss p.2).length : Nat))] M1) := by
      simp only [sSet_eq, eN_eq, eArgs_cons, eArgs_nil, eV_eq, List.getD_cons_zero, List.getD_cons_succ, Option.bind_some, sl, f1, gV_eq, List.set_cons_zero, List.set_cons_succ, Option.map_some]
    by_cases c : n < (expl ss p.2).length
    · refine ⟨p, n, (memo ss p.2 K).2, some (enc p.1), some (enc p.2), some (.int ((expl ss p.2).length : Nat)), List.mem_cons_self, ?_, c, ?_, m2, ?_⟩
      · have fe : gAdd M1 (enc found) (.tup [enc p.1]) = some (enc (found ++ [p.1]), M1) := by
          have : found.length + 1 ≤ 16777216 := by omega
          simp [enc_list, this]
        have hb : b2_explanation_at [some (enc h), some (enc (s :: ss)), some (.int (n : Nat)), some (.ref kn), some (enc found), some (enc p.1), some (enc p.2), s7] M = some (.bk [some (enc p.2), some (enc ss), some (.int (n : Nat)), some (.ref kn), some (enc (found ++ [p.1])), some (enc p.1), some (enc p.2), some (.int ((expl ss p.2).length : Nat))] M1) := by
          show (sSeq _ _) _ M = _
          rw [sSeq_eq, hset, Option.bind_some]
          simp only []
          have hlt : decide (((n : Nat) : Int) < (((expl ss p.2).length : Nat) : Int)) = true := decide_eq_true (by omega)
          simp only [sSeq_eq, sIf_eq, tB_eq, e2_eq, eV_eq, List.getD_cons_zero, List.getD_cons_succ, Option.map_some, Option.bind_some, gLt_int, hlt, if_true, sPar_eq, eArgs_cons, eArgs_nil, eTup_eq, fe, sl, List.length_cons, List.length_nil, Nat.reduceAdd, Nat.reduceLeDiff, sBreak_eq]
          rfl
        rw [List.map_cons, forL_cons (by rw [hL]; simp) rfl hb, ← hM1]
        rfl
      · rw [flat_get, if_pos (by simpa using c), List.getElem?_map]
      · rw [List.length_cons, Nat.succ_mul]; omega
    · have hb : b2_explanation_at [some (enc h), some (enc (s :: ss)), some (.int (n : Nat)), some (.ref kn), some (enc found), some (enc p.1), some (enc p.2), s7] M = some (.nx [some (enc h), some (enc (s :: ss)), some (.int ((n - (expl ss p.2).length : Nat) : Nat)), some (.ref kn), some (enc found), some (enc p.1), some (enc p.2), some (.int ((expl ss p.2).length : Nat))] M1) := by
        show (sSeq _ _) _ M = _
        rw [sSeq_eq, hset, Option.bind_some]
        simp only []
        have hlt : decide (((n : Nat) : Int) < (((expl ss p.2).length : Nat) : Int)) = false := decide_eq_false (by omega)
        have hsub : ((n : Nat) : Int) - (((expl ss p.2).length : Nat) : Int) = ((n - (expl ss p.2).length : Nat) : Int) := by omega
        simp only [sSeq_eq, sIf_eq, tB_eq, e2_eq, eV_eq, List.getD_cons_zero, List.getD_cons_succ, Option.map_some, Option.bind_some, gLt_int, hlt, Bool.false_eq_true, if_false, sNil_eq, sAug_eq, gSub_int, hsub, List.set_cons_zero, List.set_cons_succ]
      have kM : M1[kn]? = some (.dT .nest (rowsD fC (memo ss p.2 K).2)) := by rw [hM1, List.getElem?_set_self kl]
      have kL : M1[lr]? = some (.lst L) := by rw [hM1, List.getElem?_set_ne hne]; exact hL
      rw [List.map_cons, List.sum_cons] at hn
      obtain ⟨p', n', K', s5', s6', s7', h0, h1, h2, h3, h4, h5⟩ := pick_loop hS h10 kn lr L hne h s found hf ps (n - (expl ss p.2).length) (memo ss p.2 K).2 M1 (some (enc p.1)) (some (enc p.2)) (some (.int ((expl ss p.2).length : Nat))) (fun q hq => hp q (List.mem_cons_of_mem _ hq)) kM kL m2 (by omega) (by omega)
      refine ⟨p', n', K', s5', s6', s7', List.mem_cons_of_mem _ h0, ?_, h2, ?_, h4, ?_⟩
      · rw [List.map_cons, forL_cons (by rw [hL]; simp) rfl hb]
        rw [hM1, List.set_set] at h1
        exact hM1 ▸ h1
      · rw [flat_get, if_neg (by simpa using c)]
        rw [List.length_map]
        exact h3
      · rw [List.length_cons, Nat.succ_mul]; omega
theorem while_expl {S : List Sight} (kn B : Nat) : ∀ (ss pre : List Sight), S = pre ++ ss → ss.length ≤ 10 → ∀ (fuel : Nat) (h : Hist) (n : Nat) (K : Knwn) (M : Mem) (found : List Act) (s5 s6 s7 : Option W), ss.length < fuel → found.length + ss.length ≤ 100 → roomy h (ss.length + 1) → M[kn]? = some (.dT .nest (rowsD fC K)) → OkK S K → K.length + 3 * tree ss.length ≤ 900000 → n < (expl ss h).length → B ≤ kn →
    ∃ l σ' M', (expl ss h)[n]? = some l ∧ whileL (tB (e2 gNe (eV 1) (eTup []))) b1_explanation_at fuel [some (enc h), some (enc ss), some (.int (n : Nat)), some (.ref kn), some (enc found), s5, s6, s7] M = some (.nx σ' M') ∧ σ'.getD 4 none = some (enc (found ++ l)) ∧ M.take B <+: M'
  | [], pre, hS, _, fuel, h, n, K, M, found, s5, s6, s7, hfu, hf, hr, hK, ok, hl, hn, hB => by
    obtain ⟨f, rfl⟩ : ∃ f, fuel = f + 1 := ⟨fuel - 1, by simp at hfu; omega⟩
    have h0 : n = 0 := by have : (expl [] h).length = 1 := rfl; omega
    subst h0
    have eq0 := eqW_enc M ([] : List Sight) ([] : List Sight)
    have en0 : (enc ([] : List Sight) : W) = .tup [] := rfl
    rw [decide_eq_true rfl, en0] at eq0
    refine ⟨[], _, M, rfl, whileL_off (M1 := M) ?_, ?_, List.take_prefix _ _⟩
    · simp [en0, eq0]
    · show some (enc found) = _
      rw [List.append_nil]
  | s :: ss, pre, hS, h10, fuel, h, n, K, M, found, s5, s6, s7, hfu, hf, hr, hK, ok, hl, hn, hB => by
    rw [List.length_cons] at hfu hf hr hl h10
    obtain ⟨f, rfl⟩ : ∃ f, fuel = f + 1 := ⟨fuel - 1, by omega⟩
    rw [tree] at hl
    have kl := (List.getElem?_eq_some_iff.mp hK).1
    have fs := steps_ok (h := h) (s := s) M (roomy_mono hr (by omega))
    have sl3 := stepsL_length h s
    have sl4 : (stepsL h s).length * tree ss.length ≤ 3 * tree ss.length := Nat.mul_le_mul_right _ sl3
    obtain ⟨M1, hM1⟩ : ∃ M1, M1 = M ++ [.lst ((stepsL h s).map enc)] := ⟨_, rfl⟩
    rw [← hM1] at fs
    have k1 : M1[kn]? = some (.dT .nest (rowsD fC K)) := by rw [hM1]; exact (List.getElem?_append_left kl).trans hK
    have k2 : M1[M.length]? = some (.lst ((stepsL h s).map enc)) := by rw [hM1]; simp
    rw [expl_length] at hn
    obtain ⟨p, n', K', s5', s6', s7', h0, h1, h2, h3, h4, h5⟩ := pick_loop (S := S) (pre := pre ++ [s]) (ss := ss) (by rw [hS]; simp) (by omega) kn M.length ((stepsL h s).map enc) (by omega) h s found (by omega) (stepsL h s) n K M1 s5 s6 s7 (roomy_steps (roomy_mono hr (by omega))) k1 k2 ok (by rw [Nat.succ_mul]; omega) hn
    obtain ⟨M2, hM2⟩ : ∃ M2, M2 = M1.set kn (.dT .nest (rowsD fC K')) := ⟨_, rfl⟩
    rw [← hM2] at h1
    have k3 : M2[kn]? = some (.dT .nest (rowsD fC K')) := by rw [hM2, List.getElem?_set_self (List.getElem?_eq_some_iff.mp k1).1]
    obtain ⟨l, σ', M', w1, w2, w3, w4⟩ := while_expl kn B ss (pre ++ [s]) (by rw [hS]; simp) (by omega) f p.2 n' K' M2 (found ++ [p.1]) s5' s6' s7' (by omega) (by simp; omega) (roomy_steps hr p h0) k3 h4 (by omega) h2 hB
    refine ⟨p.1 :: l, σ', M', ?_, ?_, ?_, ?_⟩
    · show ((stepsL h s).flatMap fun p => (expl ss p.2).map (p.1 :: ·))[n]? = _
      rw [h3, w1]; rfl
    · have eq0 := eqW_enc M (s :: ss) ([] : List Sight)
      have en0 : (enc ([] : List Sight) : W) = .tup [] := rfl
      rw [decide_eq_false (by simp), en0] at eq0
      refine (whileL_on (M1 := M) ?_ ?_).trans w2
      · simp only [tB_eq, e2_eq, eV_eq, List.getD_cons_zero, List.getD_cons_succ, Option.map_some, Option.bind_some, eTup_eq, eArgs_nil, List.length_nil, Nat.zero_le, if_true, gNe_eq, eq0, Bool.not_false]
      · have ix : gIx M (enc (s :: ss)) (.int 0) = some (enc s, M) := by
          rw [enc_list]
          simp
        show (sFor (iLst (eN F_steps [(eV 0), (e2 gIx (eV 1) (eL (.int 0)))])) (gT [(gV 5), (gV 6)]) b2_explanation_at) _ M = _
        simp only [sFor_eq, iLst_eq, eN_eq, eArgs_cons, eArgs_nil, eV_eq, e2_eq, eL_eq, List.getD_cons_zero, List.getD_cons_succ, Option.map_some, Option.bind_some, ix, fs, k2, h1]
    · rw [w3]; simp
    · have e : M2.take B = M.take B := by
        rw [hM2, hM1, List.take_set_of_le hB, List.take_append_of_le_length (by omega)]
      rw [← e]; exact w4
theorem keeps_explanation_at : Keeps 8 c_explanation_at F_explanation_at := by
  refine keeps3p fun h ss n c M e => ?_
  unfold atF at e
  split at e
  · rename_i hv
    cases e
    obtain ⟨h1, h2⟩ := hv
    have t10 := tree10 h2
    have d0 : (M ++ [MO.dT .nest []])[M.length]? = some (.dT .nest (rowsD fC ([] : Knwn))) := by simp; rfl
    have cok : countOk 12 h ss [] := ⟨by omega, roomy_mono h1 (by omega), by omega, by simp; omega⟩
    have f1 := count_from_ok d0 cok
    obtain ⟨m1, m2⟩ := memo_ok ss [] (S := ss) rfl h [] (okK_nil ss)
    have ml := memo_len ss h []
    rw [m1] at f1
    obtain ⟨K, hK⟩ : ∃ K, K = (memo ss h []).2 := ⟨_, rfl⟩
    rw [← hK] at f1 m2 ml
    simp only [List.length_nil, Nat.zero_add] at ml
    obtain ⟨M1, hM1⟩ : ∃ M1, M1 = (M ++ [MO.dT .nest []]).set M.length (.dT .nest (rowsD fC K)) := ⟨_, rfl⟩
    rw [← hM1] at f1
    have k1 : M1[M.length]? = some (.dT .nest (rowsD fC K)) := by rw [hM1, List.getElem?_set_self (by simp)]
    have pf : M1.take M.length = M := by rw [hM1, List.take_set_of_le (Nat.le_refl _), List.take_left]
    have zp : (sPar [3, 4] [eDictN, (eTup [])]) [some (enc h), some (enc ss), some (enc n), none, none, none, none, none] M = some (.nx [some (enc h), some (enc ss), some (.int (n : Nat)), some (.ref M.length), some (.tup []), none, none, none] (M ++ [MO.dT .nest []])) := by
      simp
    have e8 : ([some (enc h), some (enc ss), some (enc n)] : Sl) ++ List.replicate (8 - 3) none = [some (enc h), some (enc ss), some (enc n), none, none, none, none, none] := rfl
    show ∃ M2, c_explanation_at [some (enc h), some (enc ss), some (enc n), none, none, none, none, none] M = _ ∧ _
    unfold c_explanation_at
    rw [sSeq_eq, zp, Option.bind_some]
    simp only []
    by_cases c : n < (expl ss h).length
    · have hge : decide (((n : Nat) : Int) ≥ (((expl ss h).length : Nat) : Int)) = false := decide_eq_false (by omega)
      have hge2 : decide ((((expl ss h).length : Nat) : Int) ≤ ((n : Nat) : Int)) = false := decide_eq_false (by omega)
      have zi : (sIf (tB (e2 gGe (eV 2) (eN (F_count_from 12) [(eV 0), (eV 1), (eV 3)]))) (sRet (eL .non)) sNil) [some (enc h), some (enc ss), some (.int (n : Nat)), some (.ref M.length), some (.tup []), none, none, none] (M ++ [MO.dT .nest []]) = some (.nx [some (enc h), some (enc ss), some (.int (n : Nat)), some (.ref M.length), some (.tup []), none, none, none] M1) := by
        simp [f1, c]
      obtain ⟨l, σ', M', w1, w2, w3, w4⟩ := while_expl (S := ss) M.length M.length ss [] rfl h2 1000 h n K M1 [] none none none (by omega) (by simp; omega) (roomy_mono h1 (by omega)) k1 m2 (by omega) c (Nat.le_refl _)
      rw [w1]
      refine ⟨M', ?_, by rw [pf] at w4; exact w4⟩
      rw [sSeq_eq, zi, Option.bind_some]
      simp only []
      have zw : (sWhile 1000 (tB (e2 gNe (eV 1) (eTup []))) b1_explanation_at) [some (enc h), some (enc ss), some (.int (n : Nat)), some (.ref M.length), some (.tup []), none, none, none] M1 = some (.nx σ' M') := w2
      rw [sSeq_eq, zw, Option.bind_some]
      simp only [sRet_eq, eV_eq, w3, Option.map_some, Option.bind_some, List.nil_append]
      rfl
    · have zi : (sIf (tB (e2 gGe (eV 2) (eN (F_count_from 12) [(eV 0), (eV 1), (eV 3)]))) (sRet (eL .non)) sNil) [some (enc h), some (enc ss), some (.int (n : Nat)), some (.ref M.length), some (.tup []), none, none, none] (M ++ [MO.dT .nest []]) = some (.rt .non M1) := by
        simp [f1, c]
      have en : (expl ss h)[n]? = none := List.getElem?_eq_none (by omega)
      rw [en]
      refine ⟨M1, ?_, ?_⟩
      · rw [sSeq_eq, zi, Option.bind_some]
        rfl
      · have := List.take_prefix M.length M1
        rw [pf] at this
        exact this
  · cases e
end BF

set_option Elab.async false
set_option linter.all false
set_option autoImplicit false
set_option maxRecDepth 10000
namespace BF
open PySem Enc
/-! count_explanations -/
def countEF (h : Hist) (ss : List Sight) : Option Nat := if roomy h 100 ∧ ss.length ≤ 10 then some (expl ss h).length else none
def F_count_explanations : Fn := fn2 countEF
abbrev N_count_explanations : List Str := ["history", "sightings"]
def c_count_explanations : CS :=
  (sRet (eN (F_count_from 12) [(eV 0), (eV 1), eDictN]))
theorem countE_ok {h : Hist} {ss : List Sight} (M : Mem) (h1 : roomy h 100) (h2 : ss.length ≤ 10) : F_count_explanations [enc h, enc ss] M = some (.int ((expl ss h).length : Nat), M) := by
  have := fn2_eq countEF h ss M
  unfold countEF at this
  rw [if_pos ⟨h1, h2⟩] at this
  exact this
theorem keeps_count_explanations : Keeps 2 c_count_explanations F_count_explanations := by
  refine keeps2p fun h ss c M e => ?_
  unfold countEF at e
  split at e
  · rename_i hv
    cases e
    obtain ⟨h1, h2⟩ := hv
    have t10 := tree10 h2
    have d0 : (M ++ [MO.dT .nest []])[M.length]? = some (.dT .nest (rowsD fC ([] : Knwn))) := by simp; rfl
    have cok : countOk 12 h ss [] := ⟨by omega, roomy_mono h1 (by omega), by omega, by simp; omega⟩
    have f1 := count_from_ok d0 cok
    obtain ⟨m1, m2⟩ := memo_ok ss [] (S := ss) rfl h [] (okK_nil ss)
    rw [m1] at f1
    have ms : (M ++ [MO.dT .nest []]).set M.length (.dT .nest (rowsD fC (memo ss h []).2)) = M ++ [MO.dT .nest (rowsD fC (memo ss h []).2)] := by
      rw [List.set_append_right _ _ (Nat.le_refl _)]; simp
    rw [ms] at f1
    refine ⟨M ++ [MO.dT .nest (rowsD fC (memo ss h []).2)], ?_, List.prefix_append _ _⟩
    simp [c_count_explanations, f1]
  · cases e
end BF

set_option Elab.async false
set_option linter.all false
set_option autoImplicit false
set_option maxRecDepth 10000
namespace BF
open PySem Enc
/-! explanations stand in order: what sorted asks -/
def DA (a : Act) : PyData := dP (enc a)
theorem dP_acts (l : List Act) : dP (enc l) = .tuple (l.map DA) := by
  show PyData.tuple (dPs (l.map enc)) = _
  congr 1
  induction l with
  | nil => rfl
  | cons a l ih => rw [List.map_cons, List.map_cons, dPs, ih]; rfl
theorem alike_act {a b : Act} (ha : plain a = true) (hb : plain b = true) : PySem.W.alike (DA a) (DA b) = true := by
  have v : ∀ p, DA (.visit p) = .tuple [.str "visit", .str p] := fun _ => rfl
  have bk : DA .back = .tuple [.str "back"] := rfl
  have fw : DA .forward = .tuple [.str "forward"] := rfl
  cases a with
  | go i => cases ha
  | visit p => cases b with
    | go i => cases hb
    | _ => simp [v, bk, fw, PySem.W.alike, PySem.W.alikeAll]
  | back => cases b with
    | go i => cases hb
    | _ => simp [v, bk, fw, PySem.W.alike, PySem.W.alikeAll]
  | forward => cases b with
    | go i => cases hb
    | _ => simp [v, bk, fw, PySem.W.alike, PySem.W.alikeAll]
theorem alike_acts : ∀ {l m : List Act}, l.all plain = true → m.all plain = true → PySem.W.alikeAll (l.map DA) (m.map DA) = true
  | [], _, _, _ => by simp [PySem.W.alikeAll]
  | _ :: _, [], _, _ => by simp [PySem.W.alikeAll]
  | a :: l, b :: m, h1, h2 => by
    rw [List.all_cons, Bool.and_eq_true] at h1 h2
    rw [List.map_cons, List.map_cons, PySem.W.alikeAll, alike_act h1.1 h2.1, alike_acts h1.2 h2.2]; rfl
theorem eqv_act (a b : Act) : PyData.eqv (DA a) (DA b) = decide (a = b) := by
  unfold DA
  rw [eqv_P 63 _ _ (okW_mono _ _ (Enc.ok a) 63 (by decide)) (okW_mono _ _ (Enc.ok b) 63 (by decide)), Bool.eq_iff_iff, Enc.eqE, decide_eq_true_eq]
theorem lt_act {a b : Act} (h : ltR a b) : PySem.W.dataLt (DA b) (DA a) = false := by
  rcases h with ⟨rfl, rfl⟩ | ⟨rfl, p, rfl⟩ | ⟨rfl, p, rfl⟩
  · decide +kernel
  · show PySem.W.dataLt (.tuple [.str "visit", .str p]) (.tuple [.str "back"]) = false
    rw [PySem.W.dataLt_tuple, PySem.W.dataLt_cons (by simp [PySem.W.alike]), if_neg (by decide +kernel)]
    decide +kernel
  · show PySem.W.dataLt (.tuple [.str "visit", .str p]) (.tuple [.str "forward"]) = false
    rw [PySem.W.dataLt_tuple, PySem.W.dataLt_cons (by simp [PySem.W.alike]), if_neg (by decide +kernel)]
    decide +kernel
theorem lex_data : ∀ {l m : List Act}, l.all plain = true → m.all plain = true → lexA l m → PyProof.Rows.lexLt PyProof.Rows.itemOrd (PySem.W.keyToksAll (m.map DA)) (PySem.W.keyToksAll (l.map DA)) = false
  | [], _, _, _, h => by cases h
  | _ :: _, [], _, _, h => by cases h
  | a :: l, b :: m, h1, h2, h => by
    rw [List.all_cons, Bool.and_eq_true] at h1 h2
    rw [List.map_cons, List.map_cons, PySem.W.dataLt_cons (alike_act h2.1 h1.1), eqv_act]
    rcases h with ⟨rfl, h⟩ | h
    · rw [if_pos (by simp)]
      exact lex_data h1.2 h2.2 h
    · rw [lt_act h]
      have hne : b ≠ a := by
        rintro rfl
        rcases h with ⟨h, h'⟩ | ⟨h, p, h'⟩ | ⟨h, p, h'⟩ <;> rw [h] at h' <;> cases h'
      rw [if_neg (by simpa using hne)]
theorem expl_inOrd (ss : List Sight) (h : Hist) : inOrd ((expl ss h).map fun l => dP (enc l)) = true := by
  have pl : ∀ l ∈ expl ss h, l.all plain = true := fun l hl => (expl_mem ss h l hl).2.1
  have e : ((expl ss h).map fun l => dP (enc l)) = (expl ss h).map fun l => PyData.tuple (l.map DA) := List.map_congr_left fun l _ => dP_acts l
  rw [e]
  unfold inOrd
  rw [Bool.and_eq_true, Bool.and_eq_true, decide_eq_true_eq]
  refine ⟨⟨?_, ?_⟩, ?_⟩
  · rw [List.all_eq_true]
    intro d hd
    rw [List.all_eq_true]
    intro d' hd'
    obtain ⟨l, hl, rfl⟩ := List.mem_map.mp hd
    obtain ⟨m, hm, rfl⟩ := List.mem_map.mp hd'
    rw [PySem.W.alike]
    exact alike_acts (pl l hl) (pl m hm)
  · cases ss with
    | nil => rfl
    | cons s ss =>
      rw [Bool.or_eq_true]
      refine .inl (List.all_eq_true.mpr fun d hd => ?_)
      obtain ⟨l, hl, rfl⟩ := List.mem_map.mp hd
      have := (expl_mem (s :: ss) h l hl).1
      cases l with
      | nil => cases this
      | cons a l => rfl
  · rw [List.pairwise_map]
    refine (List.Pairwise.and_mem.mp (expl_pw ss h)).imp fun {l m} ⟨hl, hm, hlm⟩ => ?_
    rw [PySem.W.dataLe_eq]
    show (!PySem.W.dataLt (.tuple (m.map DA)) (.tuple (l.map DA))) = true
    rw [PySem.W.dataLt_tuple, lex_data (pl l hl) (pl m hm) hlm]; rfl
theorem expl_len (h : Hist) : ∀ ss : List Sight, ∀ h : Hist, (expl ss h).length ≤ 3 ^ ss.length
  | [], _ => Nat.le_refl _
  | s :: ss, h => by
    rw [expl_length, List.length_cons, Nat.pow_succ]
    have : ∀ ps : List (Act × Hist), (ps.map fun p => (expl ss p.2).length).sum ≤ ps.length * 3 ^ ss.length := by
      intro ps
      induction ps with
      | nil => simp
      | cons p ps ih =>
        have := expl_len h ss p.2
        rw [List.map_cons, List.sum_cons, List.length_cons, Nat.succ_mul]
        omega
    have h1 := this (stepsL h s)
    have h2 : (stepsL h s).length * 3 ^ ss.length ≤ 3 * 3 ^ ss.length := Nat.mul_le_mul_right _ (stepsL_length h s)
    omega
end BF

set_option Elab.async false
set_option linter.all false
set_option autoImplicit false
set_option maxRecDepth 10000
namespace BF
open PySem Enc
/-! sure actions, plainly -/
instance : NN Act := ⟨fun a h => by cases a <;> cases h⟩
instance : Enc (Option Act) := encOpt Act
theorem enc_oa (a : Act) : (enc (some a : Option Act) : W) = enc a := rfl
theorem enc_oan : (enc (none : Option Act) : W) = .non := rfl
/-- the steps that some explanation of the rest goes on from -/
def goodsL (s : Sight) (ss : List Sight) (T : List Hist) : List (Act × Hist) := T.flatMap fun t => (stepsL t s).filter fun p => decide (0 < (expl ss p.2).length)
def firstsOf (l : List Hist) : List Hist := (l.zipIdx.filter fun p => decide (p.1 ∉ l.take p.2)).map (·.1)
def allOne (l : List Act) : Option Act := match l with
  | [] => none
  | a :: r => if (a :: r).count a = (a :: r).length then some a else none
def sureL : List Sight → List Hist → List (Option Act)
  | [], _ => []
  | s :: ss, T => allOne ((goodsL s ss T).map (·.1)) :: sureL ss (firstsOf ((goodsL s ss T).map (·.2)))
theorem mem_firsts (l : List Hist) (t : Hist) : t ∈ firstsOf l ↔ t ∈ l := by
  unfold firstsOf
  constructor
  · intro h
    obtain ⟨p, hp, rfl⟩ := List.mem_map.mp h
    have := (List.mem_filter.mp hp).1
    exact List.fst_mem_of_mem_zipIdx this
  · intro h
    have key : ∀ l : List Hist, t ∈ l → ∃ i, l[i]? = some t ∧ t ∉ l.take i := by
      intro l
      induction l with
      | nil => intro h; cases h
      | cons x l ih =>
        intro h
        by_cases e : x = t
        · exact ⟨0, by rw [e]; rfl, by simp⟩
        · obtain ⟨i, h1, h2⟩ := ih ((List.mem_cons.mp h).resolve_left fun z => e z.symm)
          refine ⟨i + 1, h1, ?_⟩
          rw [List.take_succ_cons, List.mem_cons]
          rintro (z | z)
          · exact e z.symm
          · exact h2 z
    obtain ⟨i, h1, h2⟩ := key l h
    refine List.mem_map.mpr ⟨(t, i), List.mem_filter.mpr ⟨?_, decide_eq_true h2⟩, rfl⟩
    refine List.mem_of_getElem? (i := i) ?_
    rw [List.getElem?_zipIdx, h1]
    simp
/-- all that explains the rest, from one of these -/
def restG (T : List Hist) (ss : List Sight) : List (List Act) := T.flatMap (expl ss)
theorem rest_cons {T : List Hist} {s : Sight} {ss : List Sight} {l : List Act} : l ∈ restG T (s :: ss) ↔ ∃ p ∈ goodsL s ss T, ∃ m ∈ expl ss p.2, l = p.1 :: m := by
  unfold restG goodsL
  rw [List.mem_flatMap]
  constructor
  · rintro ⟨t, ht, hl⟩
    rw [expl] at hl
    obtain ⟨p, hp, hl⟩ := List.mem_flatMap.mp hl
    obtain ⟨m, hm, rfl⟩ := List.mem_map.mp hl
    exact ⟨p, List.mem_flatMap.mpr ⟨t, ht, List.mem_filter.mpr ⟨hp, decide_eq_true (List.length_pos_of_mem hm)⟩⟩, m, hm, rfl⟩
  · rintro ⟨p, hp, m, hm, rfl⟩
    obtain ⟨t, ht, hp⟩ := List.mem_flatMap.mp hp
    refine ⟨t, ht, ?_⟩
    rw [expl]
    exact List.mem_flatMap.mpr ⟨p, (List.mem_filter.mp hp).1, List.mem_map.mpr ⟨m, hm, rfl⟩⟩
theorem rest_next {T : List Hist} {s : Sight} {ss : List Sight} {m : List Act} : m ∈ restG (firstsOf ((goodsL s ss T).map (·.2))) ss ↔ ∃ a, a :: m ∈ restG T (s :: ss) := by
  constructor
  · intro h
    obtain ⟨t, ht, hm⟩ := List.mem_flatMap.mp h
    obtain ⟨p, hp, rfl⟩ := List.mem_map.mp ((mem_firsts _ _).mp ht)
    exact ⟨p.1, rest_cons.mpr ⟨p, hp, m, hm, rfl⟩⟩
  · rintro ⟨a, h⟩
    obtain ⟨p, hp, m', hm, e⟩ := rest_cons.mp h
    cases e
    exact List.mem_flatMap.mpr ⟨p.2, (mem_firsts _ _).mpr (List.mem_map.mpr ⟨p, hp, rfl⟩), hm⟩
theorem goods_head {T : List Hist} {s : Sight} {ss : List Sight} {a : Act} : a ∈ (goodsL s ss T).map (·.1) ↔ ∃ m, a :: m ∈ restG T (s :: ss) := by
  constructor
  · intro h
    obtain ⟨p, hp, rfl⟩ := List.mem_map.mp h
    obtain ⟨t, ht, hq⟩ := List.mem_flatMap.mp hp
    have := of_decide_eq_true (List.mem_filter.mp hq).2
    obtain ⟨m, hm⟩ := List.exists_mem_of_length_pos this
    exact ⟨m, rest_cons.mpr ⟨p, hp, m, hm, rfl⟩⟩
  · rintro ⟨m, h⟩
    obtain ⟨p, hp, m', hm, e⟩ := rest_cons.mp h
    cases e
    exact List.mem_map.mpr ⟨p, hp, rfl⟩
theorem count_full {a : Act} : ∀ {l : List Act}, l.count a = l.length ↔ ∀ b ∈ l, b = a
  | [] => by simp
  | b :: l => by
    have ih := count_full (a := a) (l := l)
    have hle := List.count_le_length (a := a) (l := l)
    rw [List.count_cons, List.length_cons]
    by_cases h : b = a
    · subst h
      simp only [beq_self_eq_true, if_true, List.mem_cons, forall_eq_or_imp, true_and]
      rw [← ih]; omega
    · have : (b == a) = false := by simpa using h
      rw [this]
      simp only [Bool.false_eq_true, if_false, Nat.add_zero, List.mem_cons, forall_eq_or_imp]
      constructor
      · intro z; omega
      · intro z; exact absurd z.1 h
theorem allOne_spec {l : List Act} (hl : l ≠ []) : (∀ a, allOne l = some a → ∀ b ∈ l, b = a) ∧ (allOne l = none → ∃ b ∈ l, ∃ c ∈ l, b ≠ c) := by
  cases l with
  | nil => exact absurd rfl hl
  | cons x r =>
    unfold allOne
    constructor
    · intro a h
      simp only at h
      split at h
      · rename_i c
        cases h
        exact count_full.mp c
      · cases h
    · intro h
      simp only at h
      split at h
      · cases h
      · rename_i c
        refine Classical.byContradiction fun z => c (count_full.mpr fun b hb => ?_)
        refine Classical.byContradiction fun hne => z ⟨b, hb, x, List.mem_cons_self, hne⟩
theorem sureL_length : ∀ (ss : List Sight) (T : List Hist), (sureL ss T).length = ss.length
  | [], _ => rfl
  | s :: ss, T => by rw [sureL, List.length_cons, List.length_cons, sureL_length ss]
/-- what is sure at a place -/
theorem sure_spec : ∀ (ss : List Sight) (T : List Hist) (k : Nat) (o : Option Act), (∃ l, l ∈ restG T ss) → (sureL ss T)[k]? = some o → (∀ a, o = some a → ∀ l ∈ restG T ss, l[k]? = some a) ∧ (o = none → ∃ l ∈ restG T ss, ∃ m ∈ restG T ss, l[k]? ≠ m[k]?)
  | [], _, k, o, _, h => by simp [sureL] at h
  | s :: ss, T, 0, o, ⟨l0, hl0⟩, h => by
    have ho : allOne ((goodsL s ss T).map (·.1)) = o := Option.some.inj h
    obtain ⟨p, hp, m, hm, e⟩ := rest_cons.mp hl0
    obtain ⟨h1, h2⟩ := allOne_spec (l := (goodsL s ss T).map (·.1)) (by intro z; rw [List.map_eq_nil_iff] at z; rw [z] at hp; cases hp)
    rw [ho] at h1 h2
    constructor
    · rintro a rfl l hl
      obtain ⟨q, hq, n, hn, rfl⟩ := rest_cons.mp hl
      rw [← h1 a rfl q.1 (List.mem_map.mpr ⟨q, hq, rfl⟩)]; rfl
    · intro e
      obtain ⟨b, hb, c, hc, hne⟩ := h2 e
      obtain ⟨m1, hm1⟩ := goods_head.mp hb
      obtain ⟨m2, hm2⟩ := goods_head.mp hc
      exact ⟨_, hm1, _, hm2, by simpa using hne⟩
  | s :: ss, T, k + 1, o, ⟨l0, hl0⟩, h => by
    have ho : (sureL ss (firstsOf ((goodsL s ss T).map (·.2))))[k]? = some o := h
    obtain ⟨p, hp, m, hm, e⟩ := rest_cons.mp hl0
    obtain ⟨h1, h2⟩ := sure_spec ss _ k o ⟨m, rest_next.mpr ⟨p.1, e ▸ hl0⟩⟩ ho
    constructor
    · intro a ha l hl
      obtain ⟨q, hq, n, hn, rfl⟩ := rest_cons.mp hl
      exact h1 a ha n (rest_next.mpr ⟨q.1, hl⟩)
    · intro e
      obtain ⟨l1, hl1, l2, hl2, hne⟩ := h2 e
      obtain ⟨a1, g1⟩ := rest_next.mp hl1
      obtain ⟨a2, g2⟩ := rest_next.mp hl2
      exact ⟨_, g1, _, g2, hne⟩
end BF

set_option Elab.async false
set_option linter.all false
set_option autoImplicit false
set_option maxRecDepth 10000
namespace BF
open PySem Enc
/-! a memo knows all that it went through -/
def Has (K : Knwn) (t : Hist) (n : Nat) : Prop := (getD' K ((t, n) : Hist × Nat)).isSome = true
def ClK (S : List Sight) (K : Knwn) : Prop := ∀ t n s ss, Has K t (n + 1) → S.drop (S.length - (n + 1)) = s :: ss → ss ≠ [] → ∀ p ∈ stepsL t s, Has K p.2 n
theorem has_put {K : Knwn} {t u : Hist} {n m v : Nat} : Has (putD K ((u, m) : Hist × Nat) v) t n ↔ (t = u ∧ n = m) ∨ Has K t n := by
  unfold Has
  rw [getD_put]
  by_cases h : ((t, n) : Hist × Nat) = (u, m)
  · cases h; simp
  · rw [if_neg h]
    constructor
    · exact .inr
    · rintro (⟨rfl, rfl⟩ | z)
      · exact absurd rfl h
      · exact z
theorem fold_full {S ss : List Sight} {f : Hist → Knwn → Nat × Knwn} (hf : ∀ h K, ClK S K → ClK S (f h K).2 ∧ (ss ≠ [] → Has (f h K).2 h ss.length) ∧ ∀ t n, Has K t n → Has (f h K).2 t n) : ∀ (ps : List (Act × Hist)) (acc : List Nat × Knwn), ClK S acc.2 →
    ClK S (ps.foldl (memoF f) acc).2 ∧ (ss ≠ [] → ∀ p ∈ ps, Has (ps.foldl (memoF f) acc).2 p.2 ss.length) ∧ ∀ t n, Has acc.2 t n → Has (ps.foldl (memoF f) acc).2 t n
  | [], acc, h => ⟨h, fun _ _ hp => (by cases hp), fun _ _ z => z⟩
  | p :: ps, acc, h => by
    obtain ⟨a1, a2, a3⟩ := hf p.2 acc.2 h
    obtain ⟨b1, b2, b3⟩ := fold_full hf ps (memoF f acc p) a1
    rw [List.foldl_cons]
    refine ⟨b1, fun hs q hq => ?_, fun t n z => b3 t n (a3 t n z)⟩
    rcases List.mem_cons.mp hq with rfl | hq
    · exact b3 _ _ (a2 hs)
    · exact b2 hs q hq
theorem memo_full {S : List Sight} : ∀ (ss pre : List Sight), S = pre ++ ss → ∀ (h : Hist) (K : Knwn), ClK S K → ClK S (memo ss h K).2 ∧ (ss ≠ [] → Has (memo ss h K).2 h ss.length) ∧ ∀ t n, Has K t n → Has (memo ss h K).2 t n
  | [], _, _, h, K, hk => ⟨hk, fun z => absurd rfl z, fun _ _ z => z⟩
  | s :: ss, pre, e, h, K, hk => by
    unfold memo
    split
    · rename_i v hv
      exact ⟨hk, fun _ => by unfold Has; rw [List.length_cons, hv]; rfl, fun _ _ z => z⟩
    · obtain ⟨a1, a2, a3⟩ := fold_full (S := S) (ss := ss) (memo_full ss (pre ++ [s]) (by rw [e]; simp)) (stepsL h s) ([], K) hk
      refine ⟨fun t n s' ss' ht hd hne p hp => ?_, fun _ => has_put.mpr (.inl ⟨rfl, rfl⟩), fun t n z => has_put.mpr (.inr (a3 t n z))⟩
      rcases has_put.mp ht with ⟨rfl, en⟩ | ht
      · have en : n = ss.length := by omega
        subst en
        have := drop_suffix e
        rw [List.length_cons] at this
        rw [this] at hd
        cases hd
        exact has_put.mpr (.inr (a2 hne p hp))
      · exact has_put.mpr (.inr (a1 t n s' ss' ht hd hne p hp))
/-- what is known is found -/
theorem memo_hit {ss : List Sight} {h : Hist} {K : Knwn} (hs : ss ≠ [] → Has K h ss.length) : (memo ss h K).2 = K := by
  cases ss with
  | nil => rfl
  | cons s ss =>
    have := hs (by simp)
    unfold Has at this
    obtain ⟨v, hv⟩ := Option.isSome_iff_exists.mp this
    unfold memo
    rw [List.length_cons] at hv
    rw [hv]
end BF

set_option Elab.async false
set_option linter.all false
set_option autoImplicit false
set_option maxRecDepth 10000
namespace BF
open PySem Enc
/-! sure_actions -/
def F_sure_actions : Fn := fun ws M => match ws with
  | [x, y] => match (dec x : Option Hist), (dec y : Option (List Sight)) with
    | some h, some ss => if roomy h 100 ∧ ss.length ≤ 10 then (if expl ss h = [] then some (.non, M) else some (.ref M.length, M ++ [.lst ((sureL ss [h]).map enc)])) else none
    | _, _ => none
  | _ => none
abbrev b1_sure_actions : CS :=
  (sSeq (sSet (gT [(gV 7), (gV 8)]) (eTup [(eLst []), (eLst [])]))
  (sSeq (sFor (iLst (eV 3)) (gV 9) (sFor (iLst (eN F_steps [(eV 9), (eV 6)])) (gT [(gV 10), (gV 11)]) (sIf (tB (e2 gGt (eN (F_count_from 12) [(eV 11), (eSl (eV 1) (some (e2 gAdd (eV 5) (eL (.int 1)))) none), (eV 2)]) (eL (.int 0)))) (sSeq (sExpr (eML mAppend (eV 7) [(eV 10)]))
  (sExpr (eML mAppend (eV 8) [(eV 11)]))) sNil)))
  (sSeq (sExpr (eML mAppend (eV 4) [(eIf (tB (e2 gEq (eML mCount (eV 7) [(e2 gIx (eV 7) (eL (.int 0)))]) (eN pLen [(eV 7)]))) (e2 gIx (eV 7) (eL (.int 0))) (eL .non))]))
  (sSet (gV 3) (eLc (iEnumL (eV 8)) (gT [(gV 12), (gV 9)]) (tB (e2 gNotInD (eV 9) (eSl (eV 8) none (some (eV 12))))) (eV 9) [12, 9])))))
abbrev b2_sure_actions : CS :=
  (sFor (iLst (eN F_steps [(eV 9), (eV 6)])) (gT [(gV 10), (gV 11)]) (sIf (tB (e2 gGt (eN (F_count_from 12) [(eV 11), (eSl (eV 1) (some (e2 gAdd (eV 5) (eL (.int 1)))) none), (eV 2)]) (eL (.int 0)))) (sSeq (sExpr (eML mAppend (eV 7) [(eV 10)]))
  (sExpr (eML mAppend (eV 8) [(eV 11)]))) sNil))
abbrev b3_sure_actions : CS :=
  (sIf (tB (e2 gGt (eN (F_count_from 12) [(eV 11), (eSl (eV 1) (some (e2 gAdd (eV 5) (eL (.int 1)))) none), (eV 2)]) (eL (.int 0)))) (sSeq (sExpr (eML mAppend (eV 7) [(eV 10)]))
  (sExpr (eML mAppend (eV 8) [(eV 11)]))) sNil)
abbrev N_sure_actions : List Str := ["history", "sightings", "known", "present", "found", "at", "sighting", "some", "later", "own", "action", "other", "place"]
def c_sure_actions : CS :=
  (sSeq (sSet (gV 2) eDictN)
  (sSeq (sIf (tB (e2 gEq (eN (F_count_from 12) [(eV 0), (eV 1), (eV 2)]) (eL (.int 0)))) (sRet (eL .non)) sNil)
  (sSeq (sPar [3, 4] [(eLst [(eV 0)]), (eLst [])])
  (sSeq (sFor (iEnumT (eV 1)) (gT [(gV 5), (gV 6)]) (sSeq (sSet (gT [(gV 7), (gV 8)]) (eTup [(eLst []), (eLst [])]))
  (sSeq (sFor (iLst (eV 3)) (gV 9) (sFor (iLst (eN F_steps [(eV 9), (eV 6)])) (gT [(gV 10), (gV 11)]) (sIf (tB (e2 gGt (eN (F_count_from 12) [(eV 11), (eSl (eV 1) (some (e2 gAdd (eV 5) (eL (.int 1)))) none), (eV 2)]) (eL (.int 0)))) (sSeq (sExpr (eML mAppend (eV 7) [(eV 10)]))
  (sExpr (eML mAppend (eV 8) [(eV 11)]))) sNil)))
  (sSeq (sExpr (eML mAppend (eV 4) [(eIf (tB (e2 gEq (eML mCount (eV 7) [(e2 gIx (eV 7) (eL (.int 0)))]) (eN pLen [(eV 7)]))) (e2 gIx (eV 7) (eL (.int 0))) (eL .non))]))
  (sSet (gV 3) (eLc (iEnumL (eV 8)) (gT [(gV 12), (gV 9)]) (tB (e2 gNotInD (eV 9) (eSl (eV 8) none (some (eV 12))))) (eV 9) [12, 9]))))))
  (sRet (eV 4))))))
theorem sure_ok {h : Hist} {ss : List Sight} (M : Mem) (h1 : roomy h 100) (h2 : ss.length ≤ 10) : F_sure_actions [enc h, enc ss] M = if expl ss h = [] then some (.non, M) else some (.ref M.length, M ++ [.lst ((sureL ss [h]).map enc)]) := by
  unfold F_sure_actions
  simp only [dec_enc]
  rw [if_pos ⟨h1, h2⟩]
theorem set2_set {M : Mem} {a b : Nat} {x y x' y' : MO} (h : a ≠ b) : (((M.set a x).set b y).set a x').set b y' = (M.set a x').set b y' := by
  rw [List.set_comm _ _ (show b ≠ a by omega), List.set_set, List.set_set]
/-- the steps from one history -/
theorem sure_in {S pre : List Sight} {s : Sight} {ss : List Sight} (hS : S = pre ++ s :: ss) (h10 : S.length ≤ 10) (K : Knwn) (hK : OkK S K) (hKl : K.length ≤ 100000) (M : Mem) (kn sm lt lr : Nat) (L : List W) (d1 : sm ≠ lt) (d2 : sm ≠ lr) (d3 : lt ≠ lr) (d4 : sm ≠ kn) (d5 : lt ≠ kn)
    (m1 : M[kn]? = some (.dT .nest (rowsD fC K))) (m2 : M[lr]? = some (.lst L)) (l1 : sm < M.length) (l2 : lt < M.length) (s0 s3 s4 s6 s9 s12 : Option W) : ∀ (ps : List (Act × Hist)) (A : List Act) (B : List Hist) (s10 s11 : Option W), (∀ p ∈ ps, roomy p.2 ss.length ∧ (ss ≠ [] → Has K p.2 ss.length)) → A.length + ps.length ≤ 1000000 → B.length + ps.length ≤ 1000000 →
    ∃ s10' s11', forL (fun M' => decide (M'[lr]? = some (.lst L))) (gT [(gV 10), (gV 11)]) b3_sure_actions (ps.map enc) [s0, some (enc S), some (.ref kn), s3, s4, some (.int (pre.length : Nat)), s6, some (.ref sm), some (.ref lt), s9, s10, s11, s12] ((M.set sm (.lst (A.map enc))).set lt (.lst (B.map enc))) =
      some (.nx [s0, some (enc S), some (.ref kn), s3, s4, some (.int (pre.length : Nat)), s6, some (.ref sm), some (.ref lt), s9, s10', s11', s12] ((M.set sm (.lst ((A ++ (ps.filter fun p => decide (0 < (expl ss p.2).length)).map (·.1)).map enc))).set lt (.lst ((B ++ (ps.filter fun p => decide (0 < (expl ss p.2).length)).map (·.2)).map enc))))
  | [], A, B, s10, s11, _, _, _ => ⟨s10, s11, by
      simp only [List.filter_nil, List.map_nil, List.append_nil]
      exact forL_nil (decide_eq_true (by rw [List.getElem?_set_ne d3, List.getElem?_set_ne d2]; exact m2))⟩
  | p :: ps, A, B, s10, s11, hp, hA, hB => by
    rw [List.length_cons] at hA hB
    obtain ⟨r1, r2⟩ := hp p List.mem_cons_self
    have sl : ss.length ≤ 9 := by rw [hS] at h10; simp at h10; omega
    have t10 := tree10 (n := ss.length) (by omega)
    obtain ⟨M1, hM1⟩ : ∃ M1, M1 = (M.set sm (.lst (A.map enc))).set lt (.lst (B.map enc)) := ⟨_, rfl⟩
    have n1 : M1[kn]? = some (.dT .nest (rowsD fC K)) := by rw [hM1, List.getElem?_set_ne d5, List.getElem?_set_ne d4]; exact m1
    have n2 : M1[lr]? = some (.lst L) := by rw [hM1, List.getElem?_set_ne d3, List.getElem?_set_ne d2]; exact m2
    have n3 : M1[sm]? = some (.lst (A.map enc)) := by rw [hM1, List.getElem?_set_ne (by omega), List.getElem?_set_self l1]
    have n4 : M1[lt]? = some (.lst (B.map enc)) := by rw [hM1, List.getElem?_set_self (by simpa using l2)]
    have cok : countOk 12 p.2 ss K := ⟨by omega, r1, by omega, by omega⟩
    have f1 := count_from_ok n1 cok
    rw [memo_hit r2, setM_same n1, (memo_ok ss (pre ++ [s]) (by rw [hS]; simp) p.2 K hK).1] at f1
    have cd : S.drop (pre.length + 1) = ss := by
      rw [hS]
      simp
    have tail : ∀ (s10 s11 : Option W), (eSl (eV 1) (some (e2 gAdd (eV 5) (eL (.int 1)))) none) [s0, some (enc S), some (.ref kn), s3, s4, some (.int (pre.length : Nat)), s6, some (.ref sm), some (.ref lt), s9, s10, s11, s12] M1 = some (enc ss, M1) := fun s10 s11 => by
      have : cutW (S.map (enc (α := Sight)) : List W) (some (((pre.length : Nat) : Int) + 1)) none = ss.map enc := by rw [cutW_lo1, ← List.map_drop, cd]
      simp only [eSl_eq, eV_eq, List.getD_cons_zero, List.getD_cons_succ, Option.map_some, Option.bind_some, ePart_some, ePart_none, e2_eq, eL_eq, gAdd_int, enc_list, gSl_tup, this]
    have hcall : (e2 gGt (eN (F_count_from 12) [(eV 11), (eSl (eV 1) (some (e2 gAdd (eV 5) (eL (.int 1)))) none), (eV 2)]) (eL (.int 0))) [s0, some (enc S), some (.ref kn), s3, s4, some (.int (pre.length : Nat)), s6, some (.ref sm), some (.ref lt), s9, some (enc p.1), some (enc p.2), s12] M1 = some (.bl (decide (0 < (expl ss p.2).length)), M1) := by
      have : decide ((((expl ss p.2).length : Nat) : Int) > 0) = decide (0 < (expl ss p.2).length) := by
        rw [Bool.eq_iff_iff, decide_eq_true_eq, decide_eq_true_eq]; omega
      simp only [e2_eq, eN_eq, eArgs_cons, eArgs_nil, eV_eq, eL_eq, List.getD_cons_zero, List.getD_cons_succ, Option.map_some, Option.bind_some, tail, f1, gGt_int, this]
    by_cases c : 0 < (expl ss p.2).length
    · rw [decide_eq_true c] at hcall
      obtain ⟨s10', s11', e⟩ := sure_in hS h10 K hK hKl M kn sm lt lr L d1 d2 d3 d4 d5 m1 m2 l1 l2 s0 s3 s4 s6 s9 s12 ps (A ++ [p.1]) (B ++ [p.2]) (some (enc p.1)) (some (enc p.2)) (fun q hq => hp q (List.mem_cons_of_mem _ hq)) (by simp; omega) (by simp; omega)
      refine ⟨s10', s11', ?_⟩
      have b1 : (A.map (enc (α := Act)) : List W).length < 16777216 := by rw [List.length_map]; omega
      have b2 : (B.map (enc (α := Hist)) : List W).length < 16777216 := by rw [List.length_map]; omega
      have i1 : isLst M1 (.ref sm) = true := by simp [n3]
      have a1 : mAppend [.ref sm, enc p.1] M1 = some (.non, M1.set sm (.lst ((A ++ [p.1]).map enc))) := by
        rw [mAppend_ref, n3]
        simp only [if_pos b1, List.map_append, List.map_cons, List.map_nil]
      have n5 : (M1.set sm (.lst ((A ++ [p.1]).map enc)))[lt]? = some (.lst (B.map enc)) := by rw [List.getElem?_set_ne d1]; exact n4
      have i2 : isLst (M1.set sm (.lst ((A ++ [p.1]).map enc))) (.ref lt) = true := by rw [isLst_ref, n5]
      have eB : ((B ++ [p.2]).map (enc (α := Hist)) : List W) = B.map enc ++ [enc p.2] := by simp
      have a2 : mAppend [.ref lt, enc p.2] (M1.set sm (.lst ((A ++ [p.1]).map enc))) = some (.non, (M.set sm (.lst ((A ++ [p.1]).map enc))).set lt (.lst ((B ++ [p.2]).map enc))) := by
        rw [mAppend_ref, n5]
        simp only [if_pos b2]
        rw [hM1, set2_set d1, eB]
      have hb : b3_sure_actions [s0, some (enc S), some (.ref kn), s3, s4, some (.int (pre.length : Nat)), s6, some (.ref sm), some (.ref lt), s9, some (enc p.1), some (enc p.2), s12] M1 = some (.nx [s0, some (enc S), some (.ref kn), s3, s4, some (.int (pre.length : Nat)), s6, some (.ref sm), some (.ref lt), s9, some (enc p.1), some (enc p.2), s12] ((M.set sm (.lst ((A ++ [p.1]).map enc))).set lt (.lst ((B ++ [p.2]).map enc)))) := by
        show (sIf _ _ _) _ M1 = _
        simp only [sIf_eq, tB_eq, hcall, Option.bind_some, if_true, sSeq_eq, sExpr_eq, eML_eq, eV_eq, List.getD_cons_zero, List.getD_cons_succ, Option.map_some, i1, eArgs_cons, eArgs_nil, a1, i2, a2]
      rw [← hM1, List.map_cons, forL_cons (decide_eq_true n2) rfl hb, List.filter_cons_of_pos (by simpa using c)]
      have x1 : A ++ [p.1] ++ (ps.filter fun p => decide (0 < (expl ss p.2).length)).map (·.1) = A ++ (p :: ps.filter fun p => decide (0 < (expl ss p.2).length)).map (·.1) := by simp
      have x2 : B ++ [p.2] ++ (ps.filter fun p => decide (0 < (expl ss p.2).length)).map (·.2) = B ++ (p :: ps.filter fun p => decide (0 < (expl ss p.2).length)).map (·.2) := by simp
      rw [x1, x2] at e
      exact e
    · rw [decide_eq_false c] at hcall
      obtain ⟨s10', s11', e⟩ := sure_in hS h10 K hK hKl M kn sm lt lr L d1 d2 d3 d4 d5 m1 m2 l1 l2 s0 s3 s4 s6 s9 s12 ps A B (some (enc p.1)) (some (enc p.2)) (fun q hq => hp q (List.mem_cons_of_mem _ hq)) (by omega) (by omega)
      refine ⟨s10', s11', ?_⟩
      have hb : b3_sure_actions [s0, some (enc S), some (.ref kn), s3, s4, some (.int (pre.length : Nat)), s6, some (.ref sm), some (.ref lt), s9, some (enc p.1), some (enc p.2), s12] M1 = some (.nx [s0, some (enc S), some (.ref kn), s3, s4, some (.int (pre.length : Nat)), s6, some (.ref sm), some (.ref lt), s9, some (enc p.1), some (enc p.2), s12] M1) := by
        show (sIf _ _ _) _ M1 = _
        simp only [sIf_eq, tB_eq, hcall, Option.bind_some, Bool.false_eq_true, if_false, sNil_eq]
      rw [← hM1, List.map_cons, forL_cons (decide_eq_true n2) rfl hb, List.filter_cons_of_neg (by simpa using c), hM1]
      exact e
theorem up_app {M g : Mem} {n : Nat} {x : MO} (h : M[n]? = some x) : (M ++ g)[n]? = some x := by rw [List.getElem?_append_left (List.getElem?_eq_some_iff.mp h).1]; exact h
theorem lt_of_get {M : Mem} {n : Nat} {x : MO} (h : M[n]? = some x) : n < M.length := (List.getElem?_eq_some_iff.mp h).1
theorem keep_set {M0 M : Mem} {n : Nat} {x : MO} (h : M0 <+: M) (hn : M0.length ≤ n) : M0 <+: M.set n x := by
  obtain ⟨g, rfl⟩ := h
  rw [List.set_append_right _ _ hn]
  exact List.prefix_append _ _
theorem goods_cons (s : Sight) (ss : List Sight) (t : Hist) (T : List Hist) : goodsL s ss (t :: T) = ((stepsL t s).filter fun p => decide (0 < (expl ss p.2).length)) ++ goodsL s ss T := by unfold goodsL; rw [List.flatMap_cons]
/-- from all that are present -/
theorem sure_mid {S pre : List Sight} {s : Sight} {ss : List Sight} (hS : S = pre ++ s :: ss) (h10 : S.length ≤ 10) (K : Knwn) (hK : OkK S K) (hC : ClK S K) (hKl : K.length ≤ 100000) (M0 : Mem) (kn sm lt pr fd : Nat) (LP LF : List W) (d1 : sm ≠ lt) (q1 : M0.length ≤ sm) (q2 : M0.length ≤ lt) (q3 : sm ≠ pr) (q4 : lt ≠ pr) (q5 : sm ≠ fd) (q6 : lt ≠ fd) (s0 : Option W) : ∀ (T : List Hist) (A : List Act) (B : List Hist) (M : Mem) (s9 s10 s11 s12 : Option W), (∀ t ∈ T, roomy t (ss.length + 1) ∧ Has K t (ss.length + 1)) → A.length + 3 * T.length ≤ 900000 → B.length + 3 * T.length ≤ 900000 →
    M0 <+: M → M[kn]? = some (.dT .nest (rowsD fC K)) → M[pr]? = some (.lst LP) → M[fd]? = some (.lst LF) → M[sm]? = some (.lst (A.map enc)) → M[lt]? = some (.lst (B.map enc)) →
    ∃ M' s9' s10' s11', forL (fun M' => decide (M'[pr]? = some (.lst LP))) (gV 9) b2_sure_actions (T.map enc) [s0, some (enc S), some (.ref kn), some (.ref pr), some (.ref fd), some (.int (pre.length : Nat)), some (enc s), some (.ref sm), some (.ref lt), s9, s10, s11, s12] M =
        some (.nx [s0, some (enc S), some (.ref kn), some (.ref pr), some (.ref fd), some (.int (pre.length : Nat)), some (enc s), some (.ref sm), some (.ref lt), s9', s10', s11', s12] M') ∧
      M0 <+: M' ∧ M'[kn]? = some (.dT .nest (rowsD fC K)) ∧ M'[pr]? = some (.lst LP) ∧ M'[fd]? = some (.lst LF) ∧ M'[sm]? = some (.lst ((A ++ (goodsL s ss T).map (·.1)).map enc)) ∧ M'[lt]? = some (.lst ((B ++ (goodsL s ss T).map (·.2)).map enc))
  | [], A, B, M, s9, s10, s11, s12, _, _, _, p0, p1, p2, p3, p4, p5 => ⟨M, s9, s10, s11, forL_nil (decide_eq_true p2), p0, p1, p2, p3, by simpa [goodsL] using p4, by simpa [goodsL] using p5⟩
  | t :: T, A, B, M, s9, s10, s11, s12, hT, hA, hB, p0, p1, p2, p3, p4, p5 => by
    rw [List.length_cons] at hA hB
    obtain ⟨tr, th⟩ := hT t List.mem_cons_self
    have fs := steps_ok (h := t) (s := s) M (roomy_mono tr (by omega))
    have sl3 := stepsL_length t s
    have kd : S.drop (S.length - (ss.length + 1)) = s :: ss := by
      have := drop_suffix hS
      rw [List.length_cons] at this
      exact this
    have d4 : sm ≠ kn := fun z => by rw [z, p1] at p4; cases p4
    have d5 : lt ≠ kn := fun z => by rw [z, p1] at p5; cases p5
    obtain ⟨M1, hM1⟩ : ∃ M1, M1 = M ++ [MO.lst ((stepsL t s).map enc)] := ⟨_, rfl⟩
    have w1 : M1[kn]? = some (.dT .nest (rowsD fC K)) := by rw [hM1]; exact up_app p1
    have w2 : M1[pr]? = some (.lst LP) := by rw [hM1]; exact up_app p2
    have w3 : M1[fd]? = some (.lst LF) := by rw [hM1]; exact up_app p3
    have w4 : M1[sm]? = some (.lst (A.map enc)) := by rw [hM1]; exact up_app p4
    have w5 : M1[lt]? = some (.lst (B.map enc)) := by rw [hM1]; exact up_app p5
    have w6 : M1[M.length]? = some (.lst ((stepsL t s).map enc)) := by rw [hM1]; simp
    obtain ⟨s10', s11', e⟩ := sure_in hS h10 K hK hKl M1 kn sm lt M.length ((stepsL t s).map enc) d1 (Nat.ne_of_lt (lt_of_get p4)) (Nat.ne_of_lt (lt_of_get p5)) d4 d5 w1 w6 (lt_of_get w4) (lt_of_get w5) s0 (some (.ref pr)) (some (.ref fd)) (some (enc s)) (some (enc t)) s12 (stepsL t s) A B s10 s11 (fun p hp => ⟨roomy_steps tr p hp, fun hne => hC t ss.length s ss th kd hne p hp⟩) (by omega) (by omega)
    rw [setM_same w4, setM_same w5] at e
    obtain ⟨G, hG⟩ : ∃ G, G = (stepsL t s).filter fun p => decide (0 < (expl ss p.2).length) := ⟨_, rfl⟩
    rw [← hG] at e
    have Gl : G.length ≤ 3 := by rw [hG]; exact Nat.le_trans (List.length_filter_le _ _) sl3
    obtain ⟨M2, hM2⟩ : ∃ M2, M2 = (M1.set sm (.lst ((A ++ G.map (·.1)).map enc))).set lt (.lst ((B ++ G.map (·.2)).map enc)) := ⟨_, rfl⟩
    rw [← hM2] at e
    have ne2 : lt ≠ sm := fun z => d1 z.symm
    obtain ⟨M', s9', s10'', s11'', g0, g1, g2, g3, g4, g5, g6⟩ := sure_mid hS h10 K hK hC hKl M0 kn sm lt pr fd LP LF d1 q1 q2 q3 q4 q5 q6 s0 T (A ++ G.map (·.1)) (B ++ G.map (·.2)) M2 (some (enc t)) s10' s11' s12 (fun u hu => hT u (List.mem_cons_of_mem _ hu)) (by simp; omega) (by simp; omega)
      (by rw [hM2]; exact keep_set (keep_set (by rw [hM1]; exact p0.trans (List.prefix_append _ _)) q1) q2)
      (by rw [hM2, List.getElem?_set_ne d5, List.getElem?_set_ne d4]; exact w1) (by rw [hM2, List.getElem?_set_ne q4, List.getElem?_set_ne q3]; exact w2) (by rw [hM2, List.getElem?_set_ne q6, List.getElem?_set_ne q5]; exact w3)
      (by rw [hM2, List.getElem?_set_ne ne2, List.getElem?_set_self (lt_of_get w4)]) (by rw [hM2, List.getElem?_set_self (by simpa using lt_of_get w5)])
    refine ⟨M', s9', s10'', s11'', ?_, g1, g2, g3, g4, ?_, ?_⟩
    · have hb : b2_sure_actions [s0, some (enc S), some (.ref kn), some (.ref pr), some (.ref fd), some (.int (pre.length : Nat)), some (enc s), some (.ref sm), some (.ref lt), some (enc t), s10, s11, s12] M = some (.nx [s0, some (enc S), some (.ref kn), some (.ref pr), some (.ref fd), some (.int (pre.length : Nat)), some (enc s), some (.ref sm), some (.ref lt), some (enc t), s10', s11', s12] M2) := by
        rw [← e]
        rw [← hM1] at fs
        show (sFor (iLst (eN F_steps [(eV 9), (eV 6)])) (gT [(gV 10), (gV 11)]) b3_sure_actions) _ M = _
        simp only [sFor_eq, iLst_eq, eN_eq, eArgs_cons, eArgs_nil, eV_eq, List.getD_cons_zero, List.getD_cons_succ, Option.map_some, Option.bind_some, fs, w6]
      rw [List.map_cons, forL_cons (decide_eq_true p2) rfl hb]
      exact g0
    · rw [g5, goods_cons, ← hG]; simp
    · rw [g6, goods_cons, ← hG]; simp
/-- each one once -/
def firstI (l : List Hist) (i : Nat) : List Hist := ((l.zipIdx.take i).filter fun p => decide (p.1 ∉ l.take p.2)).map (·.1)
theorem firstI_succ {l : List Hist} {i : Nat} {t : Hist} (h : l[i]? = some t) : firstI l (i + 1) = if t ∈ l.take i then firstI l i else firstI l i ++ [t] := by
  have hz : l.zipIdx[i]? = some (t, i) := by rw [List.getElem?_zipIdx, h]; simp
  have hi := (List.getElem?_eq_some_iff.mp hz).1
  unfold firstI
  rw [List.take_succ_eq_append_getElem hi, (List.getElem?_eq_some_iff.mp hz).2, List.filter_append, List.map_append]
  by_cases c : t ∈ l.take i
  · rw [if_pos c, List.filter_cons_of_neg (by simpa using c)]; simp
  · rw [if_neg c, List.filter_cons_of_pos (by simpa using c)]; simp
theorem firstI_all (l : List Hist) : firstI l l.length = firstsOf l := by
  unfold firstI firstsOf
  rw [List.take_of_length_le (by simp)]
theorem firsts_length (l : List Hist) : (firstsOf l).length ≤ l.length := by
  unfold firstsOf
  rw [List.length_map]
  exact Nat.le_trans (List.length_filter_le _ _) (by simp)
theorem sure_once (M : Mem) (lt : Nat) (B : List Hist) (hB : M[lt]? = some (.lst (B.map enc))) (hl : B.length ≤ 900000) (s0 s1 s2 s3 s4 s5 s6 s7 s9 s10 s11 s12 : Option W) :
    ∃ g, (eLc (iEnumL (eV 8)) (gT [(gV 12), (gV 9)]) (tB (e2 gNotInD (eV 9) (eSl (eV 8) none (some (eV 12))))) (eV 9) [12, 9]) [s0, s1, s2, s3, s4, s5, s6, s7, some (.ref lt), s9, s10, s11, s12] M = some (.ref M.length, M ++ (.lst ((firstsOf B).map enc) :: g)) := by
  have hlt := lt_of_get hB
  have key := lcL_ind (gd := fun M' => decide (M'[lt]? = some (.lst (B.map enc)))) (g := gT [(gV 12), (gV 9)]) (t := tB (e2 gNotInD (eV 9) (eSl (eV 8) none (some (eV 12))))) (e := eV 9) (vs := [12, 9]) (σ := [s0, s1, s2, s3, s4, s5, s6, s7, some (.ref lt), s9, s10, s11, s12]) (D := M.length) (enumW (B.map enc))
    (fun i acc M' => acc = (firstI B i).map enc ∧ ∃ g, M' = M ++ (.lst acc :: g)) (M := M ++ [.lst []]) (acc0 := []) ⟨rfl, [], rfl⟩ (by
      rintro i acc M' ⟨_, g, rfl⟩
      exact decide_eq_true (up_app hB)) (by
    rintro i w acc M' hw ⟨rfl, g, rfl⟩
    obtain ⟨x, hx, rfl⟩ := enumW_get hw
    rw [List.getElem?_map] at hx
    obtain ⟨t, ht, rfl⟩ := Option.map_eq_some_iff.mp hx
    have hi := (List.getElem?_eq_some_iff.mp ht).1
    obtain ⟨M1, hM1⟩ : ∃ M1, M1 = M ++ (MO.lst ((firstI B i).map enc) :: g) := ⟨_, rfl⟩
    rw [← hM1]
    have m1 : M1[lt]? = some (.lst (B.map enc)) := by rw [hM1]; exact up_app hB
    have cut : gSl M1 (.ref lt) none (some (i : Int)) = some (.ref M1.length, M1 ++ [.lst ((B.take i).map enc)]) := by
      have : cutW (B.map (enc (α := Hist)) : List W) none (some (i : Int)) = (B.take i).map enc := by rw [cutW_hi0, List.map_take]
      simp [m1, this]
    have nin := gNotInD_enc (M1 ++ [MO.lst ((B.take i).map enc)]) M1.length (B.take i) t (by simp)
    refine ⟨[s0, s1, s2, s3, s4, s5, s6, s7, some (.ref lt), some (enc t), s10, s11, some (.int (i : Nat))], rfl, !decide (t ∈ B.take i), M1 ++ [MO.lst ((B.take i).map enc)], ?_, ?_⟩
    · simp only [tB_eq, e2_eq, eSl_eq, ePart_some, ePart_none, eV_eq, List.getD_cons_zero, List.getD_cons_succ, Option.map_some, Option.bind_some, cut, nin]
    · rw [firstI_succ ht]
      have fl : (firstI B i).length ≤ 900000 := by
        unfold firstI
        rw [List.length_map]
        exact Nat.le_trans (List.length_filter_le _ _) (by rw [List.length_take, List.length_zipIdx]; omega)
      by_cases c : t ∈ B.take i
      · rw [if_pos c, decide_eq_true c]
        simp only [Bool.not_true, Bool.false_eq_true, if_false]
        exact ⟨trivial, g ++ [MO.lst ((B.take i).map enc)], by rw [hM1]; simp⟩
      · rw [if_neg c, decide_eq_false c]
        simp only [Bool.not_false, if_true]
        refine ⟨enc t, M1 ++ [MO.lst ((B.take i).map enc)], rfl, ?_, by rw [List.length_map]; omega, by simp, g ++ [MO.lst ((B.take i).map enc)], ?_⟩
        · rw [hM1, List.append_assoc, List.getElem?_append_right (Nat.le_refl _)]; simp
        · rw [hM1, List.append_assoc, List.set_append_right _ _ (Nat.le_refl _)]; simp)
  obtain ⟨M', acc, e, rfl, g, rfl⟩ := key
  rw [enumW_length, List.length_map, firstI_all] at e
  refine ⟨g, ?_⟩
  simp only [eLc_eq, iEnumL_eq, eV_eq, List.getD_cons_zero, List.getD_cons_succ, Option.map_some, Option.bind_some, hB, e]
theorem plain_acts : ∀ A : List Act, PyData.plainAll (A.map DA) = true
  | [] => by simp [PyData.plainAll]
  | a :: A => by
    rw [List.map_cons, PyData.plainAll, plain_acts A]
    cases a <;> simp [DA, enc_back, enc_forward, enc_visit, enc_go, dP, dPs, PyData.plain, PyData.plainAll]
theorem count_enc {M : Mem} {n : Nat} {A : List Act} (a : Act) (h : M[n]? = some (.lst (A.map enc))) : mCount [.ref n, enc a] M = some (.int ((A.count a : Nat) : Int), M) := by
  unfold mCount
  have e1 : mapO (toD M 60) (A.map enc) = some (A.map DA) := mapO_map (fun a => toD_P M 60 _ (okW_mono _ _ (Enc.ok a) 60 (by decide))) A
  have e2 : toD M 60 (enc a) = some (DA a) := toD_P M 60 _ (okW_mono _ _ (Enc.ok a) 60 (by decide))
  have e3 : (DA a).plain = true := by
    have := plain_acts [a]
    simpa [PyData.plainAll] using this
  simp only [h, e1, e2, plain_acts A, e3, and_self, if_true]
  congr 4
  rw [List.countP_map]
  show List.countP _ A = List.countP _ A
  congr 1
  funext b
  show PyData.eqv (DA b) (DA a) = (b == a)
  rw [eqv_act]
  rfl
theorem one_enc (M : Mem) (sm : Nat) (A : List Act) (hA : M[sm]? = some (.lst (A.map enc))) (hne : A ≠ []) (s0 s1 s2 s3 s4 s5 s6 s8 s9 s10 s11 s12 : Option W) :
    (eIf (tB (e2 gEq (eML mCount (eV 7) [(e2 gIx (eV 7) (eL (.int 0)))]) (eN pLen [(eV 7)]))) (e2 gIx (eV 7) (eL (.int 0))) (eL .non)) [s0, s1, s2, s3, s4, s5, s6, some (.ref sm), s8, s9, s10, s11, s12] M = some (enc (allOne A), M) := by
  cases A with
  | nil => exact absurd rfl hne
  | cons a r =>
    have ix : gIx M (.ref sm) (.int 0) = some (enc a, M) := by
      rw [gIx_ref, hA]
      have : ixW ((a :: r).map (enc (α := Act)) : List W).length 0 = some 0 := ixW_nat (j := 0) (by simp)
      simp only [this, Option.bind_some]
      rfl
    have il : isLst M (.ref sm) = true := by rw [isLst_ref, hA]
    have ct := count_enc (M := M) (n := sm) (A := a :: r) a hA
    have pl : pLen [.ref sm] M = some (.int (((a :: r).length : Nat) : Int), M) := by simp only [pLen_ref, hA, List.length_map]
    have q : eqW M (.int (((a :: r).count a : Nat) : Int)) (.int (((a :: r).length : Nat) : Int)) = some (decide ((a :: r).count a = (a :: r).length)) := by
      rw [eqW_int]
      congr 1
      rw [Bool.eq_iff_iff, decide_eq_true_eq, decide_eq_true_eq]
      omega
    have ao : allOne (a :: r) = if (a :: r).count a = (a :: r).length then some a else none := rfl
    rw [ao]
    generalize (a :: r).count a = c at *
    generalize (a :: r).length = n at *
    by_cases h : c = n
    · rw [decide_eq_true h] at q
      rw [if_pos h, enc_oa]
      simp only [eIf_eq, tB_eq, e2_eq, eML_eq, eV_eq, eL_eq, List.getD_cons_zero, List.getD_cons_succ, Option.map_some, Option.bind_some, il, if_true, eArgs_cons, eArgs_nil, ix, ct, eN_eq, pl, gEq_eq, q]
    · rw [decide_eq_false h] at q
      rw [if_neg h, enc_oan]
      simp only [eIf_eq, tB_eq, e2_eq, eML_eq, eV_eq, eL_eq, List.getD_cons_zero, List.getD_cons_succ, Option.map_some, Option.bind_some, il, if_true, eArgs_cons, eArgs_nil, ix, ct, eN_eq, pl, gEq_eq, q, Bool.false_eq_true, if_false]
def enumK (k : Nat) (ws : List W) : List W := (ws.zipIdx k).map fun p => .tup [.int (p.2 : Nat), p.1]
theorem enumK_zero (ws : List W) : enumW ws = enumK 0 ws := rfl
theorem enumK_cons (k : Nat) (w : W) (ws : List W) : enumK k (w :: ws) = .tup [.int (k : Nat), w] :: enumK (k + 1) ws := by
  unfold enumK
  rw [List.zipIdx_cons, List.map_cons]
theorem goods_length (s : Sight) (ss : List Sight) : ∀ T : List Hist, (goodsL s ss T).length ≤ 3 * T.length
  | [] => by simp [goodsL]
  | t :: T => by
    have h1 := goods_length s ss T
    have h2 := stepsL_length t s
    have h3 := List.length_filter_le (fun p : Act × Hist => decide (0 < (expl ss p.2).length)) (stepsL t s)
    rw [goods_cons, List.length_append, List.length_cons]
    omega
/-- sighting after sighting -/
theorem sure_out {S : List Sight} (h10 : S.length ≤ 10) (K : Knwn) (hK : OkK S K) (hC : ClK S K) (hKl : K.length ≤ 100000) (M0 : Mem) (kn fd : Nat) (hfd : M0.length ≤ fd) (s0 : Option W) : ∀ (ss pre : List Sight), S = pre ++ ss → ∀ (T : List Hist) (F : List (Option Act)) (pr : Nat) (M : Mem) (s5 s6 s7 s8 s9 s10 s11 s12 : Option W), (∀ t ∈ T, roomy t ss.length ∧ (ss ≠ [] → Has K t ss.length)) → T.length * 3 ^ ss.length ≤ 59049 → F.length + ss.length ≤ 100 → (∃ l, l ∈ restG T ss) →
    M0 <+: M → M[kn]? = some (.dT .nest (rowsD fC K)) → M[pr]? = some (.lst (T.map enc)) → M[fd]? = some (.lst (F.map enc)) → pr ≠ fd →
    ∃ M' σ', forL gdT (gT [(gV 5), (gV 6)]) b1_sure_actions (enumK pre.length (ss.map enc)) [s0, some (enc S), some (.ref kn), some (.ref pr), some (.ref fd), s5, s6, s7, s8, s9, s10, s11, s12] M = some (.nx σ' M') ∧ M0 <+: M' ∧ σ'.getD 4 none = some (.ref fd) ∧ M'[fd]? = some (.lst ((F ++ sureL ss T).map enc))
  | [], pre, hS, T, F, pr, M, s5, s6, s7, s8, s9, s10, s11, s12, _, _, _, _, p0, p1, p2, p3, _ => ⟨M, _, forL_nil rfl, p0, rfl, by rw [p3]; simp [sureL]⟩
  | s :: ss, pre, hS, T, F, pr, M, s5, s6, s7, s8, s9, s10, s11, s12, hT, hl, hF, ⟨l0, hl0⟩, p0, p1, p2, p3, hpf => by
    rw [List.length_cons] at hF
    rw [List.length_cons, Nat.pow_succ] at hl
    have e3 : 1 ≤ 3 ^ ss.length := Nat.one_le_pow _ _ (by omega)
    have e4 : T.length * (3 ^ ss.length * 3) = 3 * T.length * 3 ^ ss.length := by rw [Nat.mul_comm 3 T.length, Nat.mul_assoc, Nat.mul_comm 3]
    have hT3 : 3 * T.length ≤ 59049 := by
      have : 3 * T.length * 1 ≤ 3 * T.length * 3 ^ ss.length := Nat.mul_le_mul_left _ e3
      omega
    have hm0 := p0.length_le
    obtain ⟨M1, hM1⟩ : ∃ M1, M1 = M ++ [MO.lst [], MO.lst []] := ⟨_, rfl⟩
    have w4 : M1[M.length]? = some (.lst (([] : List Act).map enc)) := by rw [hM1]; simp
    have w5 : M1[M.length + 1]? = some (.lst (([] : List Hist).map enc)) := by rw [hM1, List.getElem?_append_right (by omega)]; simp
    have lpr := lt_of_get p2
    have lfd := lt_of_get p3
    obtain ⟨M2, t9, t10, t11, g0, g1, g2, g3, g4, g5, g6⟩ := sure_mid hS h10 K hK hC hKl M0 kn M.length (M.length + 1) pr fd (T.map enc) (F.map enc) (by omega) hm0 (by omega) (by omega) (by omega) (by omega) (by omega) s0 T [] [] M1 s9 s10 s11 s12
      (fun t ht => ⟨(hT t ht).1, (hT t ht).2 (by simp)⟩) (by simp; omega) (by simp; omega) (by rw [hM1]; exact p0.trans (List.prefix_append _ _)) (by rw [hM1]; exact up_app p1) (by rw [hM1]; exact up_app p2) (by rw [hM1]; exact up_app p3) w4 w5
    rw [List.nil_append] at g5 g6
    obtain ⟨p, hp, m, hm, _⟩ := rest_cons.mp hl0
    obtain ⟨G, hG⟩ : ∃ G, G = goodsL s ss T := ⟨_, rfl⟩
    rw [← hG] at g5 g6 hp
    have Gl : G.length ≤ 3 * T.length := by rw [hG]; exact goods_length s ss T
    have one := one_enc M2 M.length (G.map (·.1)) g5 (by intro z; rw [List.map_eq_nil_iff] at z; rw [z] at hp; cases hp) s0 (some (enc S)) (some (.ref kn)) (some (.ref pr)) (some (.ref fd)) (some (.int (pre.length : Nat))) (some (enc s)) (some (.ref (M.length + 1))) t9 t10 t11 s12
    obtain ⟨M3, hM3⟩ : ∃ M3, M3 = M2.set fd (.lst ((F ++ [allOne (G.map (·.1))]).map enc)) := ⟨_, rfl⟩
    have v6 : M3[M.length + 1]? = some (.lst ((G.map (·.2)).map enc)) := by rw [hM3, List.getElem?_set_ne (by omega)]; exact g6
    have v1 : M3[kn]? = some (.dT .nest (rowsD fC K)) := by
      rw [hM3, List.getElem?_set_ne]
      · exact g2
      · intro z; rw [z] at g4; rw [g4] at g2; cases g2
    have v4 : M3[fd]? = some (.lst ((F ++ [allOne (G.map (·.1))]).map enc)) := by rw [hM3, List.getElem?_set_self (lt_of_get g4)]
    obtain ⟨g, once⟩ := sure_once M3 (M.length + 1) (G.map (·.2)) v6 (by rw [List.length_map]; omega) s0 (some (enc S)) (some (.ref kn)) (some (.ref pr)) (some (.ref fd)) (some (.int (pre.length : Nat))) (some (enc s)) (some (.ref M.length)) t9 t10 t11 s12
    obtain ⟨M4, hM4⟩ : ∃ M4, M4 = M3 ++ (MO.lst ((firstsOf (G.map (·.2))).map enc) :: g) := ⟨_, rfl⟩
    rw [← hM4] at once
    have fl := firsts_length (G.map (·.2))
    rw [List.length_map] at fl
    have lfd3 := lt_of_get v4
    obtain ⟨M', σ', x0, x1, x2, x3⟩ := sure_out h10 K hK hC hKl M0 kn fd hfd s0 ss (pre ++ [s]) (by rw [hS]; simp) (firstsOf (G.map (·.2))) (F ++ [allOne (G.map (·.1))]) M3.length M4 (some (.int (pre.length : Nat))) (some (enc s)) (some (.ref M.length)) (some (.ref (M.length + 1))) t9 t10 t11 s12
      (fun t ht => by
        obtain ⟨q, hq, rfl⟩ := List.mem_map.mp ((mem_firsts _ _).mp ht)
        rw [hG] at hq
        obtain ⟨t0, ht0, hq⟩ := List.mem_flatMap.mp hq
        have hq := (List.mem_filter.mp hq).1
        have kd : S.drop (S.length - (ss.length + 1)) = s :: ss := by
          have := drop_suffix hS
          rw [List.length_cons] at this
          exact this
        exact ⟨roomy_steps (hT t0 ht0).1 q hq, fun hne => hC t0 ss.length s ss ((hT t0 ht0).2 (by simp)) kd hne q hq⟩)
      (by
        have : (firstsOf (G.map (·.2))).length * 3 ^ ss.length ≤ 3 * T.length * 3 ^ ss.length := Nat.mul_le_mul_right _ (by omega)
        omega) (by simp; omega) ⟨m, by rw [hG]; exact rest_next.mpr ⟨_, (by rw [hG] at hp; exact rest_cons.mpr ⟨p, hp, m, hm, rfl⟩)⟩⟩
      (by rw [hM4, hM3]; exact (keep_set g1 hfd).trans (List.prefix_append _ _)) (by rw [hM4]; exact up_app v1) (by rw [hM4]; simp) (by rw [hM4]; exact up_app v4) (by omega)
    refine ⟨M', σ', ?_, x1, x2, ?_⟩
    · have hset : (sSet (gT [(gV 7), (gV 8)]) (eTup [(eLst []), (eLst [])])) [s0, some (enc S), some (.ref kn), some (.ref pr), some (.ref fd), some (.int (pre.length : Nat)), some (enc s), s7, s8, s9, s10, s11, s12] M = some (.nx [s0, some (enc S), some (.ref kn), some (.ref pr), some (.ref fd), some (.int (pre.length : Nat)), some (enc s), some (.ref M.length), some (.ref (M.length + 1)), s9, s10, s11, s12] M1) := by
        rw [hM1]
        have le : (M ++ [MO.lst []]).length = M.length + 1 := by simp
        simp only [sSet_eq, eTup_eq, eArgs_cons, eArgs_nil, eLst_eq, List.length_nil, Nat.zero_le, if_true, Option.bind_some, le, List.length_cons, Nat.reduceAdd, Nat.reduceLeDiff, List.append_assoc, List.cons_append, List.nil_append]
        rfl
      have hfor : (sFor (iLst (eV 3)) (gV 9) b2_sure_actions) [s0, some (enc S), some (.ref kn), some (.ref pr), some (.ref fd), some (.int (pre.length : Nat)), some (enc s), some (.ref M.length), some (.ref (M.length + 1)), s9, s10, s11, s12] M1 = some (.nx [s0, some (enc S), some (.ref kn), some (.ref pr), some (.ref fd), some (.int (pre.length : Nat)), some (enc s), some (.ref M.length), some (.ref (M.length + 1)), t9, t10, t11, s12] M2) := by
        rw [← g0]
        have : M1[pr]? = some (.lst (T.map enc)) := by rw [hM1]; exact up_app p2
        simp only [sFor_eq, iLst_eq, eV_eq, List.getD_cons_zero, List.getD_cons_succ, Option.map_some, Option.bind_some, this]
      have happ : (sExpr (eML mAppend (eV 4) [(eIf (tB (e2 gEq (eML mCount (eV 7) [(e2 gIx (eV 7) (eL (.int 0)))]) (eN pLen [(eV 7)]))) (e2 gIx (eV 7) (eL (.int 0))) (eL .non))])) [s0, some (enc S), some (.ref kn), some (.ref pr), some (.ref fd), some (.int (pre.length : Nat)), some (enc s), some (.ref M.length), some (.ref (M.length + 1)), t9, t10, t11, s12] M2 = some (.nx [s0, some (enc S), some (.ref kn), some (.ref pr), some (.ref fd), some (.int (pre.length : Nat)), some (enc s), some (.ref M.length), some (.ref (M.length + 1)), t9, t10, t11, s12] M3) := by
        have il : isLst M2 (.ref fd) = true := by rw [isLst_ref, g4]
        have bl : (F.map (enc (α := Option Act)) : List W).length < 16777216 := by rw [List.length_map]; omega
        have ap : mAppend [.ref fd, enc (allOne (G.map (·.1)))] M2 = some (.non, M3) := by
          rw [mAppend_ref, g4]
          simp only [if_pos bl]
          rw [hM3, List.map_append]; rfl
        simp only [sExpr_eq, eML_eq, eV_eq, List.getD_cons_zero, List.getD_cons_succ, Option.map_some, Option.bind_some, il, if_true, eArgs_cons, eArgs_nil, one, ap]
      have hb : b1_sure_actions [s0, some (enc S), some (.ref kn), some (.ref pr), some (.ref fd), some (.int (pre.length : Nat)), some (enc s), s7, s8, s9, s10, s11, s12] M = some (.nx [s0, some (enc S), some (.ref kn), some (.ref M3.length), some (.ref fd), some (.int (pre.length : Nat)), some (enc s), some (.ref M.length), some (.ref (M.length + 1)), t9, t10, t11, s12] M4) := by
        show (sSeq _ (sSeq (sFor (iLst (eV 3)) (gV 9) b2_sure_actions) _)) _ M = _
        rw [sSeq_eq, hset, Option.bind_some]
        simp only []
        rw [sSeq_eq, hfor, Option.bind_some]
        simp only []
        rw [sSeq_eq, happ, Option.bind_some]
        simp only [sSet_eq, once, Option.bind_some, gV_eq, List.set_cons_zero, List.set_cons_succ]
      rw [List.map_cons, enumK_cons, forL_cons rfl rfl hb]
      have : (pre ++ [s]).length = pre.length + 1 := by simp
      rw [this] at x0
      exact x0
    · rw [x3, hG]
      have : sureL (s :: ss) T = allOne ((goodsL s ss T).map (·.1)) :: sureL ss (firstsOf ((goodsL s ss T).map (·.2))) := rfl
      rw [this, List.append_assoc, List.singleton_append]
open Classical in
theorem keeps_at_p {n : Nat} {body : CS} {ws : List W} {M M' : Mem} {w : W} (hc : Closed M) (hw : ∀ x ∈ ws, x.closed M.length = true) (g : Mem) (hb : body (ws.map some ++ List.replicate (n - ws.length) none) M = some (.rt w (M' ++ g))) (h1 : M.length ≤ M'.length) (h2 : Closed M') (h3 : w.closed M'.length = true) :
    ∃ (r : Nat → Nat) (M2 : Mem), (body (ws.map some ++ List.replicate (n - ws.length) none) M = some (.rt (w.ren r) M2) ∨
      w = .non ∧ ∃ σ', body (ws.map some ++ List.replicate (n - ws.length) none) M = some (.nx σ' M2)) ∧
    (∀ i < M.length, r i = i) ∧ (∀ (i : Nat) (mo : MO), M'[i]? = some mo → M2[r i]? = some (mo.ren r)) ∧ (∀ i j, i < M'.length → j < M'.length → r i = r j → i = j) ∧
    M.length ≤ M'.length ∧ Closed M' ∧ w.closed M'.length = true := by
  have kp : KeepsP n body (fun ws1 M1 => if ws1 = ws ∧ M1 = M then some (w, M') else none) := by
    intro ws1 M1 w1 M1' _ _ e
    simp only at e
    split at e
    · rename_i c
      obtain ⟨rfl, rfl⟩ := c
      cases e
      exact ⟨g, .inl hb, h1, h2, h3⟩
    · cases e
  exact kp.keeps ws M w M' hc hw (if_pos ⟨rfl, rfl⟩)
open Classical in
theorem keeps_at_new {γ : Type} [Enc γ] {n : Nat} {body : CS} {ws : List W} {M : Mem} (hc : Closed M) (hw : ∀ x ∈ ws, x.closed M.length = true) (cs : List γ) (k : Nat) (g : Mem) (hb : body (ws.map some ++ List.replicate (n - ws.length) none) M = some (.rt (.ref k) (M ++ g))) (h1 : M.length ≤ k) (h2 : (M ++ g)[k]? = some (.lst (cs.map enc))) :
    ∃ (r : Nat → Nat) (M2 : Mem), (body (ws.map some ++ List.replicate (n - ws.length) none) M = some (.rt ((W.ref M.length).ren r) M2) ∨
      W.ref M.length = .non ∧ ∃ σ', body (ws.map some ++ List.replicate (n - ws.length) none) M = some (.nx σ' M2)) ∧
    (∀ i < M.length, r i = i) ∧ (∀ (i : Nat) (mo : MO), (M ++ [MO.lst (cs.map enc)])[i]? = some mo → M2[r i]? = some (mo.ren r)) ∧ (∀ i j, i < (M ++ [MO.lst (cs.map enc)]).length → j < (M ++ [MO.lst (cs.map enc)]).length → r i = r j → i = j) ∧
    M.length ≤ (M ++ [MO.lst (cs.map enc)]).length ∧ Closed (M ++ [MO.lst (cs.map enc)]) ∧ (W.ref M.length).closed (M ++ [MO.lst (cs.map enc)]).length = true := by
  have kp : Keeps n body (fun ws1 M1 => if ws1 = ws ∧ M1 = M then some (.ref M.length, M ++ [.lst (cs.map enc)]) else none) := by
    refine keeps_new (γ := γ) fun ws1 M1 w1 M1' e => ?_
    split at e
    · rename_i c
      obtain ⟨rfl, rfl⟩ := c
      cases e
      exact ⟨cs, rfl, rfl, k, g, hb, h1, h2⟩
    · cases e
  exact kp ws M _ _ hc hw (if_pos ⟨rfl, rfl⟩)
theorem keeps_sure_actions : Keeps 13 c_sure_actions F_sure_actions := by
  intro ws M w M' hc hw e
  unfold F_sure_actions at e
  split at e
  · split at e
    · rename_i x y _ _ h ss hx hy
      split at e
      · rename_i hv
        obtain ⟨h1, h2⟩ := hv
        have ex := enc_dec _ _ hx
        have ey := enc_dec _ _ hy
        subst ex
        subst ey
        have t10 := tree10 h2
        have d0 : (M ++ [MO.dT .nest []])[M.length]? = some (.dT .nest (rowsD fC ([] : Knwn))) := by simp; rfl
        have cok : countOk 12 h ss [] := ⟨by omega, roomy_mono h1 (by omega), by omega, by simp; omega⟩
        have f1 := count_from_ok d0 cok
        obtain ⟨m1, m2⟩ := memo_ok ss [] (S := ss) rfl h [] (okK_nil ss)
        obtain ⟨c1, c2, _⟩ := memo_full ss [] (S := ss) rfl h [] (fun t n s ss' z => by unfold Has at z; cases z)
        have ml := memo_len ss h []
        rw [m1] at f1
        obtain ⟨K, hK⟩ : ∃ K, K = (memo ss h []).2 := ⟨_, rfl⟩
        rw [← hK] at f1 m2 c1 c2 ml
        simp only [List.length_nil, Nat.zero_add] at ml
        have ms : (M ++ [MO.dT .nest []]).set M.length (.dT .nest (rowsD fC K)) = M ++ [MO.dT .nest (rowsD fC K)] := by
          rw [List.set_append_right _ _ (Nat.le_refl _)]; simp
        rw [ms] at f1
        have z1 : (sSet (gV 2) eDictN) [some (enc h), some (enc ss), none, none, none, none, none, none, none, none, none, none, none] M = some (.nx [some (enc h), some (enc ss), some (.ref M.length), none, none, none, none, none, none, none, none, none, none] (M ++ [MO.dT .nest []])) := by
          simp
        by_cases c0 : expl ss h = []
        · rw [if_pos c0] at e
          cases e
          refine keeps_at_p hc hw [MO.dT .nest (rowsD fC K)] ?_ (Nat.le_refl _) hc rfl
          show c_sure_actions [some (enc h), some (enc ss), none, none, none, none, none, none, none, none, none, none, none] M = _
          rw [c0] at f1
          have z2 : (sIf (tB (e2 gEq (eN (F_count_from 12) [(eV 0), (eV 1), (eV 2)]) (eL (.int 0)))) (sRet (eL .non)) sNil) [some (enc h), some (enc ss), some (.ref M.length), none, none, none, none, none, none, none, none, none, none] (M ++ [MO.dT .nest []]) = some (.rt .non (M ++ [MO.dT .nest (rowsD fC K)])) := by
            simp [f1]
          unfold c_sure_actions
          rw [sSeq_eq, z1, Option.bind_some]
          simp only []
          rw [sSeq_eq, z2, Option.bind_some]
        · rw [if_neg c0] at e
          cases e
          have pos : (expl ss h).length ≠ 0 := fun z => c0 (List.length_eq_zero_iff.mp z)
          have z2 : (sIf (tB (e2 gEq (eN (F_count_from 12) [(eV 0), (eV 1), (eV 2)]) (eL (.int 0)))) (sRet (eL .non)) sNil) [some (enc h), some (enc ss), some (.ref M.length), none, none, none, none, none, none, none, none, none, none] (M ++ [MO.dT .nest []]) = some (.nx [some (enc h), some (enc ss), some (.ref M.length), none, none, none, none, none, none, none, none, none, none] (M ++ [MO.dT .nest (rowsD fC K)])) := by
            have q : eqW (M ++ [MO.dT .nest (rowsD fC K)]) (.int (((expl ss h).length : Nat) : Int)) (.int 0) = some false := by
              rw [eqW_int, decide_eq_false]
              omega
            simp only [sIf_eq, tB_eq, e2_eq, eN_eq, eArgs_cons, eArgs_nil, eV_eq, eL_eq, List.getD_cons_zero, List.getD_cons_succ, Option.map_some, Option.bind_some, f1, gEq_eq, q, Bool.false_eq_true, if_false, sNil_eq]
          obtain ⟨M3, hM3⟩ : ∃ M3, M3 = M ++ [MO.dT .nest (rowsD fC K), MO.lst [enc h], MO.lst []] := ⟨_, rfl⟩
          have z3 : (sPar [3, 4] [(eLst [(eV 0)]), (eLst [])]) [some (enc h), some (enc ss), some (.ref M.length), none, none, none, none, none, none, none, none, none, none] (M ++ [MO.dT .nest (rowsD fC K)]) = some (.nx [some (enc h), some (enc ss), some (.ref M.length), some (.ref (M.length + 1)), some (.ref (M.length + 2)), none, none, none, none, none, none, none, none] M3) := by
            rw [hM3]
            simp
          obtain ⟨M4, σ', x0, ⟨g, hg⟩, x2, x3⟩ := sure_out (S := ss) h2 K m2 c1 (by omega) M M.length (M.length + 2) (by omega) (some (enc h)) ss [] rfl [h] [] (M.length + 1) M3 none none none none none none none none
            (fun t ht => by
              rw [List.mem_singleton] at ht
              subst ht
              exact ⟨roomy_mono h1 (by omega), c2⟩)
            (by
              rw [List.length_singleton, Nat.one_mul]
              exact Nat.le_trans (Nat.pow_le_pow_right (by omega) h2) (by decide))
            (by simp; omega) (by
              obtain ⟨l, hl⟩ := List.exists_mem_of_length_pos (Nat.pos_of_ne_zero pos)
              exact ⟨l, List.mem_flatMap.mpr ⟨h, List.mem_singleton.mpr rfl, hl⟩⟩)
            (by rw [hM3]; exact List.prefix_append _ _) (by rw [hM3]; simp) (by rw [hM3, List.getElem?_append_right (by omega)]; simp) (by rw [hM3, List.getElem?_append_right (by omega)]; simp) (by omega)
          rw [List.nil_append] at x3
          refine keeps_at_new hc hw (sureL ss [h]) (M.length + 2) g ?_ (by omega) (by rw [hg]; exact x3)
          show c_sure_actions [some (enc h), some (enc ss), none, none, none, none, none, none, none, none, none, none, none] M = _
          have z4 : (sFor (iEnumT (eV 1)) (gT [(gV 5), (gV 6)]) b1_sure_actions) [some (enc h), some (enc ss), some (.ref M.length), some (.ref (M.length + 1)), some (.ref (M.length + 2)), none, none, none, none, none, none, none, none] M3 = some (.nx σ' M4) := by
            rw [← x0]
            simp only [sFor_eq, iEnumT_eq, eV_eq, List.getD_cons_zero, List.getD_cons_succ, Option.map_some, Option.bind_some, enc_list, enumK_zero]
            rfl
          unfold c_sure_actions
          rw [sSeq_eq, z1, Option.bind_some]
          simp only []
          rw [sSeq_eq, z2, Option.bind_some]
          simp only []
          rw [sSeq_eq, z3, Option.bind_some]
          simp only []
          rw [sSeq_eq, z4, Option.bind_some]
          simp only [sRet_eq, eV_eq, x2, Option.map_some, Option.bind_some]
          rw [hg]
      · cases e
    · cases e
  · cases e
end BF

set_option Elab.async false
set_option linter.all false
set_option autoImplicit false
set_option maxRecDepth 10000
namespace BF
open PySem Enc
/-! fewest_to_sighting -/
def fewC (h : Hist) (s : Sight) (i : Nat) (p : Str) : List Int :=
  if p = s.p ∧ s.b = decide (0 < i) then (if s.f = decide (i < h.ps.length - 1) then [(((h.at_ : Int) - i).natAbs : Int)] else []) ++ (if s.f = true then [(((h.at_ : Int) - i).natAbs : Int) + 2] else []) else []
def few0 (s : Sight) : List Int := if s.b = true then [if s.f = true then 3 else 1] else []
def fewL (h : Hist) (s : Sight) (n : Nat) : List Int := few0 s ++ (h.ps.zipIdx.take n).flatMap fun q => fewC h s q.2 q.1
def fewest (h : Hist) (s : Sight) : Option Int := match fewL h s h.ps.length with
  | [] => none
  | x :: xs => some (minI x xs)
def fewestF (h : Hist) (s : Sight) : Option (Option Int) := if valid h then some (fewest h s) else none
def F_fewest_to_sighting : Fn := fn2 fewestF
abbrev b1_fewest_to_sighting : CS :=
  (sIf (tAnd (tB (e2 gEq (eV 9) (eV 4))) (tB (e2 gEq (eV 5) (e2 gGt (eV 8) (eL (.int 0)))))) (sSeq (sIf (tB (e2 gEq (eV 6) (e2 gLt (eV 8) (e2 gSub (eN pLen [(eV 2)]) (eL (.int 1)))))) (sExpr (eML mAppend (eV 7) [(eN pAbs [(e2 gSub (eV 3) (eV 8))])])) sNil)
  (sIf (tB (eV 6)) (sExpr (eML mAppend (eV 7) [(e2 gAdd (eN pAbs [(e2 gSub (eV 3) (eV 8))]) (eL (.int 2)))])) sNil)) sNil)
abbrev N_fewest_to_sighting : List Str := ["history", "sighting", "pages", "place", "page", "back", "forward", "found", "at", "own"]
def c_fewest_to_sighting : CS :=
  (sSeq (sSet (gT [(gT [(gV 2), (gV 3)]), (gT [(gV 4), (gV 5), (gV 6)])]) (eTup [(eV 0), (eV 1)]))
  (sSeq (sSet (gV 7) (eIf (tB (eV 5)) (eLst [(eIf (tB (eV 6)) (eL (.int 3)) (eL (.int 1)))]) (eLst [])))
  (sSeq (sFor (iEnumT (eV 2)) (gT [(gV 8), (gV 9)]) (sIf (tAnd (tB (e2 gEq (eV 9) (eV 4))) (tB (e2 gEq (eV 5) (e2 gGt (eV 8) (eL (.int 0)))))) (sSeq (sIf (tB (e2 gEq (eV 6) (e2 gLt (eV 8) (e2 gSub (eN pLen [(eV 2)]) (eL (.int 1)))))) (sExpr (eML mAppend (eV 7) [(eN pAbs [(e2 gSub (eV 3) (eV 8))])])) sNil)
  (sIf (tB (eV 6)) (sExpr (eML mAppend (eV 7) [(e2 gAdd (eN pAbs [(e2 gSub (eV 3) (eV 8))]) (eL (.int 2)))])) sNil)) sNil))
  (sRet (eIf (tB (e2 gNe (eV 7) (eLst []))) (eN pMinL [(eV 7)]) (eL .non))))))
theorem fewest_ok {h : Hist} {s : Sight} (M : Mem) (hv : valid h) : F_fewest_to_sighting [enc h, enc s] M = some (enc (fewest h s), M) := by
  have := fn2_eq fewestF h s M
  unfold fewestF at this
  rw [if_pos hv] at this
  exact this
theorem fewL_length (h : Hist) (s : Sight) (hv : valid h) : ∀ n, n ≤ h.ps.length → (fewL h s n).length ≤ 1 + 2 * n := by
  intro n _
  unfold fewL
  rw [List.length_append]
  have h0 : (few0 s).length ≤ 1 := by unfold few0; split <;> simp
  have h1 : ∀ L : List (Str × Nat), (L.flatMap fun q => fewC h s q.2 q.1).length ≤ 2 * L.length := by
    intro L
    induction L with
    | nil => simp
    | cons q L ih =>
      rw [List.flatMap_cons, List.length_append, List.length_cons]
      have : (fewC h s q.2 q.1).length ≤ 2 := by
        unfold fewC
        split
        · rw [List.length_append]; split <;> split <;> simp
        · simp
      omega
  have h2 := h1 (h.ps.zipIdx.take n)
  rw [List.length_take] at h2
  omega
theorem keeps_fewest_to_sighting : Keeps 10 c_fewest_to_sighting F_fewest_to_sighting := by
  refine keeps2p fun h s c M e => ?_
  unfold fewestF at e
  split at e
  · rename_i hv
    cases e
    have hl := hv.2
    have key := forL_ind (gd := gdT) (g := gT [(gV 8), (gV 9)]) (body := b1_fewest_to_sighting) (enumW (h.ps.map W.str)) (fun i σ M' => M' = M ++ [.lst ((fewL h s i).map W.int)] ∧ ∃ s8 s9, σ = [some (enc h), some (enc s), some (.tup (h.ps.map W.str)), some (.int h.at_), some (.str s.p), some (.bl s.b), some (.bl s.f), some (.ref M.length), s8, s9])
      (σ := [some (enc h), some (enc s), some (.tup (h.ps.map W.str)), some (.int h.at_), some (.str s.p), some (.bl s.b), some (.bl s.f), some (.ref M.length), none, none]) (M := M ++ [.lst ((few0 s).map W.int)]) ⟨by unfold fewL; simp, _, _, rfl⟩ (fun _ _ _ _ => rfl) (by
      rintro i w σ M' hw ⟨rfl, s8, s9, rfl⟩
      obtain ⟨x, hx, rfl⟩ := enumW_get hw
      rw [List.getElem?_map] at hx
      obtain ⟨p, hp, rfl⟩ := Option.map_eq_some_iff.mp hx
      have hi : i < h.ps.length := (List.getElem?_eq_some_iff.mp hp).1
      have ll := fewL_length h s hv i (by omega)
      have en : fewL h s (i + 1) = fewL h s i ++ fewC h s i p := by
        unfold fewL
        have hz : (h.ps.zipIdx)[i]? = some (p, i) := by rw [List.getElem?_zipIdx, hp]; simp
        have hzl : i < h.ps.zipIdx.length := by simpa using hi
        rw [List.take_succ_eq_append_getElem hzl, (List.getElem?_eq_some_iff.mp hz).2, List.flatMap_append, List.append_assoc]
        simp
      rw [en]
      generalize fewL h s i = L at ll ⊢
      refine ⟨_, rfl, [some (enc h), some (enc s), some (.tup (h.ps.map W.str)), some (.int h.at_), some (.str s.p), some (.bl s.b), some (.bl s.f), some (.ref M.length), some (.int (i : Int)), some (.str p)], _, .inl ?_, rfl, _, _, rfl⟩
      have k1 : L.length < 16777215 := by omega
      have k2 : L.length < 16777216 := by omega
      have k2' : L.length + 1 < 16777216 := by omega
      have ei : ∀ M : Mem, eqW M (.bl s.b) (.bl (decide (0 < i))) = some (decide (s.b = decide (0 < i))) := fun M => eqW_bl M _ _
      have k3 : (h.ps.length : Int) - 1 = ((h.ps.length - 1 : Nat) : Int) := by omega
      have k4 : ∀ z : Int, (if z < 0 then -z else z) = (z.natAbs : Int) := fun z => by split <;> omega
      obtain ⟨sp, sb, sf⟩ := s
      simp only at ei ⊢
      have d0 : ∀ M : Mem, eqW M (.str p) (.str sp) = some (decide (p = sp)) := fun M => eqW_str M p sp
      unfold fewC
      simp only
      by_cases hc : p = sp ∧ sb = decide (0 < i)
      · rw [if_pos hc]
        obtain ⟨rfl, hb⟩ := hc
        have hb2 : decide (sb = decide (0 < i)) = true := decide_eq_true hb
        by_cases hf : sf = decide (i < h.ps.length - 1)
        · rw [if_pos hf]
          have hf2 : decide (sf = decide (i < h.ps.length - 1)) = true := decide_eq_true hf
          cases sf with
          | true => simp [ei, hb2, k3, ← hf, k1, k2, k2', k4]
          | false => simp [ei, hb2, k3, ← hf, k1, k2, k4]
        · rw [if_neg hf]
          have hf2 : decide (sf = decide (i < h.ps.length - 1)) = false := decide_eq_false hf
          cases sf with
          | true =>
            have h3 : ¬ i < h.ps.length - 1 := fun z => hf (by simp [z])
            simp [ei, hb2, k3, h3, k1, k2, k4]
          | false =>
            have h3 : i < h.ps.length - 1 := Classical.byContradiction fun z => hf (by simp [z])
            have h4 : ¬ h.ps.length ≤ i + 1 := by omega
            simp [ei, hb2, k3, h3, h4, k1, k2, k4]
      · rw [if_neg hc]
        by_cases hp' : p = sp
        · have hb2 : decide (sb = decide (0 < i)) = false := decide_eq_false fun z => hc ⟨hp', z⟩
          subst hp'
          simp [ei, hb2]
        · simp [hp'])
    obtain ⟨σ', M', e, rfl, s8, s9, rfl⟩ := key
    rw [enumW_length, List.length_map] at e
    refine ⟨M ++ [.lst ((fewL h s h.ps.length).map W.int), .lst []], ?_, List.prefix_append _ _⟩
    have st1 : (sSeq (sSet (gT [(gT [(gV 2), (gV 3)]), (gT [(gV 4), (gV 5), (gV 6)])]) (eTup [(eV 0), (eV 1)])) (sSet (gV 7) (eIf (tB (eV 5)) (eLst [(eIf (tB (eV 6)) (eL (.int 3)) (eL (.int 1)))]) (eLst [])))) [some (enc h), some (enc s), none, none, none, none, none, none, none, none] M =
        some (.nx [some (enc h), some (enc s), some (.tup (h.ps.map W.str)), some (.int h.at_), some (.str s.p), some (.bl s.b), some (.bl s.f), some (.ref M.length), none, none] (M ++ [.lst ((few0 s).map W.int)])) := by
      obtain ⟨sp, sb, sf⟩ := s
      cases sb <;> cases sf <;> simp [enc_hist, enc_sight, few0]
    have en : ∀ M : Mem, M[M.length - 1]? = M[M.length - 1]? := fun _ => rfl
    have lN := eqW_lst (α := Int) (M ++ [.lst ((fewL h s h.ps.length).map W.int), .lst []]) M.length (M.length + 1) (fewL h s h.ps.length) [] (by rw [List.getElem?_append_right (Nat.le_refl _)]; simp [map_encI]) (by rw [List.getElem?_append_right (by omega)]; simp)
    have gM : (M ++ [MO.lst ((fewL h s h.ps.length).map W.int), .lst []])[M.length]? = some (.lst ((fewL h s h.ps.length).map W.int)) := by rw [List.getElem?_append_right (Nat.le_refl _)]; simp
    have hb : c_fewest_to_sighting = sSeq (sSet (gT [(gT [(gV 2), (gV 3)]), (gT [(gV 4), (gV 5), (gV 6)])]) (eTup [(eV 0), (eV 1)])) (sSeq (sSet (gV 7) (eIf (tB (eV 5)) (eLst [(eIf (tB (eV 6)) (eL (.int 3)) (eL (.int 1)))]) (eLst []))) (sSeq (sFor (iEnumT (eV 2)) (gT [(gV 8), (gV 9)]) b1_fewest_to_sighting) (sRet (eIf (tB (e2 gNe (eV 7) (eLst []))) (eN pMinL [(eV 7)]) (eL .non))))) := rfl
    show c_fewest_to_sighting [some (enc h), some (enc s), none, none, none, none, none, none, none, none] M = _
    rw [hb]
    rw [sSeq_eq] at st1
    rw [sSeq_eq]
    cases h1 : sSet (gT [(gT [(gV 2), (gV 3)]), (gT [(gV 4), (gV 5), (gV 6)])]) (eTup [(eV 0), (eV 1)]) [some (enc h), some (enc s), none, none, none, none, none, none, none, none] M with
    | none => rw [h1] at st1; cases st1
    | some o =>
      rw [h1, Option.bind_some] at st1
      rw [Option.bind_some]
      cases o with
      | nx σ1 M1 =>
        simp only at st1 ⊢
        rw [sSeq_eq, st1, Option.bind_some]
        simp only []
        rw [sSeq_eq, sFor_eq, iEnumT_eq]
        simp only [eV_eq, List.getD_cons_zero, List.getD_cons_succ, Option.bind_some, e]
        unfold fewest
        cases hL : fewL h s h.ps.length with
        | nil =>
          rw [hL] at lN gM
          simp only [List.map_nil] at lN gM ⊢
          simp [lN]
        | cons x xs =>
          rw [hL] at lN gM
          have ai := asInts_map (x :: xs)
          simp only [List.map_cons] at lN gM ai ⊢
          simp [lN, gM, ai]
      | rt _ _ => cases st1
      | bk _ _ => cases st1
      | ct _ _ => cases st1
  · cases e
end BF

set_option Elab.async false
set_option linter.all false
set_option autoImplicit false
set_option maxRecDepth 10000
namespace BF
open PySem Enc
noncomputable section
/-! _law_second_right -/
noncomputable def F__law_second_right : Fn := fn1 rightF
abbrev N__law_second_right : List Str := ["page", "two", "three", "seen"]
def c__law_second_right : CS :=
  (sSeq (sIf (tB (e2 gNe (eN F_difference [(eTup [(eTup [(eL (.str "back"))]), (eTup [(eL (.str "forward"))])]), (eTup [])]) (eTup [(eL (.int 0)), (eL (.int 1))]))) (sRet (eL (.bl false))) sNil)
  (sSeq (sIf (tB (e2 gNotB (eN F_equal [(eTup [(eTup [(eL (.str "visit")), (eV 0)]), (eTup [(eL (.str "back"))]), (eTup [(eL (.str "visit")), (eL (.str "y"))])]), (eTup [(eTup [(eL (.str "visit")), (eL (.str "y"))])])]) (eL (.bl true)))) (sRet (eL (.bl false))) sNil)
  (sSeq (sIf (tB (e2 gNe (eN F_redundant_steps [(eTup [(eTup [(eL (.str "visit")), (eV 0)]), (eTup [(eL (.str "forward"))])])]) (eLst [(eL (.int 1))]))) (sRet (eL (.bl false))) sNil)
  (sSeq (sPar [1, 2, 3] [(eTup [(eTup [(eL (.str "a")), (eL (.str "b"))]), (eL (.int 0))]), (eTup [(eTup [(eL (.str "a")), (eL (.str "b")), (eV 0)]), (eL (.int 1))]), (eTup [(eTup [(eL (.str "b")), (eL (.bl true)), (eL (.bl false))])])])
  (sSeq (sIf (tOr (tB (e2 gNe (eN F_count_explanations [(eV 1), (eV 3)]) (eL (.int 2)))) (tB (e2 gNe (eN F_sure_actions [(eV 1), (eV 3)]) (eLst [(eL .non)])))) (sRet (eL (.bl false))) sNil)
  (sSeq (sIf (tB (e2 gNe (eN F_explanation_at [(eV 1), (eV 3), (eL (.int 0))]) (eTup [(eTup [(eL (.str "forward"))])]))) (sRet (eL (.bl false))) sNil)
  (sSeq (sIf (tB (e2 gNe (eN F_sure_actions [(eV 2), (eTup [(eTup [(eL (.str "a")), (eL (.bl false)), (eL (.bl true))])])]) (eLst [(eTup [(eL (.str "back"))])]))) (sRet (eL (.bl false))) sNil)
  (sSeq (sIf (tB (e2 gNe (eN F_fewest_to_sighting [(eV 2), (eTup [(eL (.str "z")), (eL (.bl true)), (eL (.bl true))])]) (eL (.int 3)))) (sRet (eL (.bl false))) sNil)
  (sRet (eAnd (e2 gEq (eN F_fewest_to_sighting [(eV 2), (eTup [(eL (.str "b")), (eL (.bl true)), (eL (.bl false))])]) (eL (.int 1))) (e1 gIsN (eN F_fewest_to_sighting [(eV 2), (eTup [(eL (.str "b")), (eL (.bl false)), (eL (.bl true))])]))))))))))))
theorem second_ok {p : Str} (M : Mem) (h : p ∈ pages3) : F__law_second_right [enc p] M = some (.bl true, M) := first_ok M h
theorem diff_is {a b : List Act} {r : Option (Nat × Nat)} (mb ma : Nat) (h1 : mbA a b = mb) (h2 : maA a b = ma) (h : IsFirst (dif a b) mb ma r) : diffR a b = r := by
  unfold diffR
  rw [h1, h2]
  exact IsFirst.unique (firstD_spec _ _ _) h
theorem up_one {M : Mem} {x : MO} {n : Nat} {y : MO} (h : M[n]? = some y) : (M ++ [x])[n]? = some y := up_app h
set_option maxHeartbeats 800000 in
theorem keeps__law_second_right : Keeps 4 c__law_second_right F__law_second_right := by
  refine keeps1p fun p b M e => ?_
  unfold rightF at e
  split at e
  · rename_i hp
    cases e
    have hp := pages3_or hp
    have d1 : diffR [.back, .forward] [] = some (0, 1) := diff_is 1 1 (by decide +kernel) (by decide +kernel) ⟨by decide, by decide, by decide +kernel, fun i' j' h1 h2 h3 => by
      have e1 : i' = 0 := by omega
      have e2 : j' = 0 := by omega
      subst e1; subst e2
      decide +kernel⟩
    have f1 : ∀ M, F_difference [.tup [.tup [.str "back"], .tup [.str "forward"]], .tup []] M = some (.tup [.int 0, .int 1], M) := fun M => by
      have h := difference_ok (a := [.back, .forward]) (b := []) M ⟨by decide, by decide⟩ ⟨by decide, by decide⟩
      rw [d1] at h
      exact h
    have e1 : ∀ M, eqW M (.tup [.int 0, .int 1]) (.tup [.int 0, .int 1]) = some true := fun M => eqW_yes M ((0, 1) : Nat × Nat)
    have d2 : diffR [.visit p, .back, .visit "y"] [.visit "y"] = none := by
      rcases hp with rfl | rfl | rfl <;> exact diff_is 1 0 (by decide +kernel) (by decide +kernel) (show ∀ i j, i ≤ 1 → j ≤ 0 → _ from fun i j h1 h2 => by
        have e2 : j = 0 := by omega
        subst e2
        have e1 : i = 0 ∨ i = 1 := by omega
        rcases e1 with rfl | rfl <;> decide +kernel)
    have f2 : ∀ M, F_equal [.tup [.tup [.str "visit", .str p], .tup [.str "back"], .tup [.str "visit", .str "y"]], .tup [.tup [.str "visit", .str "y"]]] M = some (.bl true, M) := fun M => by
      have h := equal_ok (a := [.visit p, .back, .visit "y"]) (b := [.visit "y"]) M ⟨by simp, rfl⟩ ⟨by simp, rfl⟩
      rw [d2] at h
      exact h
    have d3 : diffR [.forward] [.visit p, .forward] = some (0, 0) := by
      rcases hp with rfl | rfl | rfl <;> exact diff_is 0 1 (by decide +kernel) (by decide +kernel) ⟨by decide, by decide, by decide +kernel, fun i' j' h1 h2 h3 => by omega⟩
    have d4 : diffR [.visit p] [.visit p, .forward] = none := by
      rcases hp with rfl | rfl | rfl <;> exact diff_is 0 1 (by decide +kernel) (by decide +kernel) (show ∀ i j, i ≤ 0 → j ≤ 1 → _ from fun i j h1 h2 => by
        have e2 : i = 0 := by omega
        subst e2
        have e1 : j = 0 ∨ j = 1 := by omega
        rcases e1 with rfl | rfl <;> decide +kernel)
    have r3 : redL [.visit p, .forward] = [1] := by
      have q0 : delA [.visit p, .forward] 0 = [.forward] := rfl
      have q1 : delA [.visit p, .forward] 1 = [.visit p] := rfl
      show ([0, 1] : List Nat).filter (fun i => (diffR (delA [.visit p, .forward] i) [.visit p, .forward]).isNone) = [1]
      rw [List.filter_cons_of_neg (by rw [q0, d3]; decide), List.filter_cons_of_pos (by rw [q1, d4]; rfl), List.filter_nil]
    have f3 : ∀ M, F_redundant_steps [.tup [.tup [.str "visit", .str p], .tup [.str "forward"]]] M = some (.ref M.length, M ++ [.lst [.int 1]]) := fun M => by
      have h := red_ok (l := [.visit p, .forward]) M ⟨by simp, rfl⟩
      rw [r3] at h
      exact h
    obtain ⟨M1, hM1⟩ : ∃ M1, M1 = M ++ [MO.lst [.int 1]] := ⟨_, rfl⟩
    obtain ⟨M2, hM2⟩ : ∃ M2, M2 = M1 ++ [MO.lst [.int 1]] := ⟨_, rfl⟩
    have n1 : M1[M.length]? = some (.lst [.int 1]) := by rw [hM1]; simp
    have e3 : eqW M2 (.ref M.length) (.ref M1.length) = some true := by
      have := eqW_lst M2 M.length M1.length ([1] : List Nat) [1] (by rw [hM2]; exact up_one n1) (by rw [hM2]; simp)
      rw [this, decide_eq_true rfl]
    have f4 : ∀ M, F_count_explanations [.tup [.tup [.str "a", .str "b"], .int 0], .tup [.tup [.str "b", .bl true, .bl false]]] M = some (.int 2, M) := fun M => by
      have h := countE_ok (h := ⟨["a", "b"], 0⟩) (ss := [⟨"b", true, false⟩]) M ⟨by simp, by simp⟩ (by simp)
      rw [show expl [⟨"b", true, false⟩] ⟨["a", "b"], 0⟩ = [[.forward], [.visit "b"]] by decide +kernel] at h
      exact h
    have f5 : ∀ M, F_sure_actions [.tup [.tup [.str "a", .str "b"], .int 0], .tup [.tup [.str "b", .bl true, .bl false]]] M = some (.ref M.length, M ++ [.lst [.non]]) := fun M => by
      have h := sure_ok (h := ⟨["a", "b"], 0⟩) (ss := [⟨"b", true, false⟩]) M ⟨by simp, by simp⟩ (by simp)
      rw [show expl [⟨"b", true, false⟩] ⟨["a", "b"], 0⟩ = [[.forward], [.visit "b"]] by decide +kernel, if_neg (by simp), show sureL [⟨"b", true, false⟩] [⟨["a", "b"], 0⟩] = [none] by decide +kernel] at h
      exact h
    have f6 : ∀ M, F_explanation_at [.tup [.tup [.str "a", .str "b"], .int 0], .tup [.tup [.str "b", .bl true, .bl false]], .int 0] M = some (.tup [.tup [.str "forward"]], M) := fun M => by
      have h := at_ok (h := ⟨["a", "b"], 0⟩) (ss := [⟨"b", true, false⟩]) 0 M ⟨by simp, by simp⟩ (by simp)
      rw [show expl [⟨"b", true, false⟩] ⟨["a", "b"], 0⟩ = [[.forward], [.visit "b"]] by decide +kernel] at h
      exact h
    have e6 : ∀ M, eqW M (.tup [.tup [.str "forward"]]) (.tup [.tup [.str "forward"]]) = some true := fun M => eqW_yes M [Act.forward]
    have f7 : ∀ M, F_sure_actions [.tup [.tup [.str "a", .str "b", .str p], .int 1], .tup [.tup [.str "a", .bl false, .bl true]]] M = some (.ref M.length, M ++ [.lst [.tup [.str "back"]]]) := fun M => by
      have h := sure_ok (h := ⟨["a", "b", p], 1⟩) (ss := [⟨"a", false, true⟩]) M ⟨by simp, by simp⟩ (by simp)
      rw [show expl [⟨"a", false, true⟩] ⟨["a", "b", p], 1⟩ = [[.back]] by rcases hp with rfl | rfl | rfl <;> decide +kernel, if_neg (by simp), show sureL [⟨"a", false, true⟩] [⟨["a", "b", p], 1⟩] = [some .back] by rcases hp with rfl | rfl | rfl <;> decide +kernel] at h
      exact h
    have fw : ∀ (s : Sight) M, F_fewest_to_sighting [.tup [.tup [.str "a", .str "b", .str p], .int 1], enc s] M = some (enc (fewest ⟨["a", "b", p], 1⟩ s), M) := fun s M => fewest_ok (h := ⟨["a", "b", p], 1⟩) (s := s) M ⟨by simp, by simp⟩
    have f8 : ∀ M, F_fewest_to_sighting [.tup [.tup [.str "a", .str "b", .str p], .int 1], .tup [.str "z", .bl true, .bl true]] M = some (.int 3, M) := fun M => by
      have h := fw ⟨"z", true, true⟩ M
      rw [show fewest ⟨["a", "b", p], 1⟩ ⟨"z", true, true⟩ = some 3 by rcases hp with rfl | rfl | rfl <;> decide +kernel] at h
      exact h
    have f9 : ∀ M, F_fewest_to_sighting [.tup [.tup [.str "a", .str "b", .str p], .int 1], .tup [.str "b", .bl true, .bl false]] M = some (.int 1, M) := fun M => by
      have h := fw ⟨"b", true, false⟩ M
      rw [show fewest ⟨["a", "b", p], 1⟩ ⟨"b", true, false⟩ = some 1 by rcases hp with rfl | rfl | rfl <;> decide +kernel] at h
      exact h
    have f10 : ∀ M, F_fewest_to_sighting [.tup [.tup [.str "a", .str "b", .str p], .int 1], .tup [.str "b", .bl false, .bl true]] M = some (.non, M) := fun M => by
      have h := fw ⟨"b", false, true⟩ M
      rw [show fewest ⟨["a", "b", p], 1⟩ ⟨"b", false, true⟩ = none by rcases hp with rfl | rfl | rfl <;> decide +kernel] at h
      exact h
    obtain ⟨M3, hM3⟩ : ∃ M3, M3 = M2 ++ [MO.lst [.non]] := ⟨_, rfl⟩
    obtain ⟨M4, hM4⟩ : ∃ M4, M4 = M3 ++ [MO.lst [.non]] := ⟨_, rfl⟩
    have n3 : M3[M2.length]? = some (.lst [.non]) := by rw [hM3]; simp
    have e5 : eqW M4 (.ref M2.length) (.ref M3.length) = some true := by
      have := eqW_lst M4 M2.length M3.length ([none] : List (Option Act)) [none] (by rw [hM4]; exact up_one n3) (by rw [hM4]; simp; rfl)
      rw [this, decide_eq_true rfl]
    obtain ⟨M5, hM5⟩ : ∃ M5, M5 = M4 ++ [MO.lst [.tup [.str "back"]]] := ⟨_, rfl⟩
    obtain ⟨M6, hM6⟩ : ∃ M6, M6 = M5 ++ [MO.lst [.tup [.str "back"]]] := ⟨_, rfl⟩
    have n5 : M5[M4.length]? = some (.lst [.tup [.str "back"]]) := by rw [hM5]; simp
    have e7 : eqW M6 (.ref M4.length) (.ref M5.length) = some true := by
      have := eqW_lst M6 M4.length M5.length ([some .back] : List (Option Act)) [some .back] (by rw [hM6]; exact up_one n5) (by rw [hM6]; simp; rfl)
      rw [this, decide_eq_true rfl]
    have g1 : ∀ M, eqW M (.int 1) (.int 1) = some true := fun M => by rw [eqW_int]; rfl
    have g2 : ∀ M, eqW M (.int 2) (.int 2) = some true := fun M => by rw [eqW_int]; rfl
    have g3 : ∀ M, eqW M (.int 3) (.int 3) = some true := fun M => by rw [eqW_int]; rfl
    refine ⟨M6, ?_, by
      rw [hM6, hM5, hM4, hM3, hM2, hM1]
      simp only [List.append_assoc]
      exact List.prefix_append _ _⟩
    show c__law_second_right [some (.str p), none, none, none] M = _
    unfold c__law_second_right
    rw [sSeq_eq]
    simp only [sIf_eq, tB_eq, e2_eq, eN_eq, eTup_eq, eArgs_cons, eArgs_nil, eV_eq, eL_eq, List.getD_cons_zero, List.getD_cons_succ, Option.map_some, Option.bind_some, List.length_cons, List.length_nil, Nat.reduceAdd, Nat.reduceLeDiff, Nat.zero_le, if_true, f1, gNe_eq, e1, Bool.not_true, Bool.false_eq_true, if_false, sNil_eq]
    rw [sSeq_eq]
    simp only [sIf_eq, tB_eq, e2_eq, eN_eq, eTup_eq, eArgs_cons, eArgs_nil, eV_eq, eL_eq, List.getD_cons_zero, List.getD_cons_succ, Option.map_some, Option.bind_some, List.length_cons, List.length_nil, Nat.reduceAdd, Nat.reduceLeDiff, Nat.zero_le, if_true, f2, gNotB_eq, decide_true, Bool.not_true, Bool.false_eq_true, if_false, sNil_eq]
    rw [sSeq_eq]
    simp only [sIf_eq, tB_eq, e2_eq, eN_eq, eTup_eq, eLst_eq, eArgs_cons, eArgs_nil, eV_eq, eL_eq, List.getD_cons_zero, List.getD_cons_succ, Option.map_some, Option.bind_some, List.length_cons, List.length_nil, Nat.reduceAdd, Nat.reduceLeDiff, Nat.zero_le, if_true, f3, ← hM1, ← hM2, gNe_eq, e3, Bool.not_true, Bool.false_eq_true, if_false, sNil_eq]
    have z4 : (sPar [1, 2, 3] [(eTup [(eTup [(eL (.str "a")), (eL (.str "b"))]), (eL (.int 0))]), (eTup [(eTup [(eL (.str "a")), (eL (.str "b")), (eV 0)]), (eL (.int 1))]), (eTup [(eTup [(eL (.str "b")), (eL (.bl true)), (eL (.bl false))])])]) [some (.str p), none, none, none] M2 = some (.nx [some (.str p), some (.tup [.tup [.str "a", .str "b"], .int 0]), some (.tup [.tup [.str "a", .str "b", .str p], .int 1]), some (.tup [.tup [.str "b", .bl true, .bl false]])] M2) := by
      simp only [sPar_eq, eTup_eq, eArgs_cons, eArgs_nil, eV_eq, eL_eq, List.getD_cons_zero, List.getD_cons_succ, Option.map_some, Option.bind_some, List.length_cons, List.length_nil, Nat.reduceAdd, Nat.reduceLeDiff, if_true, List.zip_cons_cons, List.zip_nil_left, List.zip_nil_right, List.foldl_cons, List.foldl_nil, List.set_cons_zero, List.set_cons_succ]
    rw [sSeq_eq, z4, Option.bind_some]
    simp only []
    simp only [sSeq_eq, sIf_eq, tOr_eq, tB_eq, e1_eq, e2_eq, eN_eq, eTup_eq, eLst_eq, eArgs_cons, eArgs_nil, eV_eq, eL_eq, sRet_eq, eAnd_eq, List.getD_cons_zero, List.getD_cons_succ, Option.map_some, Option.bind_some, List.length_cons, List.length_nil, Nat.reduceAdd, Nat.reduceLeDiff, Nat.zero_le, if_true, f4, g2, f5, ← hM3, ← hM4, e5, f6, e6, f7, ← hM5, ← hM6, e7, f8, g3, f9, g1, f10, gNe_eq, gEq_eq, gIsN_eq, isN_non, Bool.not_true, Bool.false_eq_true, if_false, sNil_eq, enc_bool]
  · cases e
end
end BF

set_option Elab.async false
set_option linter.all false
set_option autoImplicit false
set_option maxRecDepth 10000
namespace BF
open PySem Enc
/-! common_beginning -/
def begF (one other : Hist) : Option Nat := if one.ps.length ≤ 900 ∧ other.ps.length ≤ 900 then some (commonN one.ps other.ps) else none
def F_common_beginning : Fn := fn2 begF
abbrev N_common_beginning : List Str := ["one", "other"]
def c_common_beginning : CS :=
  (sRet (eN F_common [(e2 gIx (eV 0) (eL (.int 0))), (e2 gIx (eV 1) (eL (.int 0)))]))
theorem beg_ok {one other : Hist} (M : Mem) (h3 : one.ps.length ≤ 900) (h4 : other.ps.length ≤ 900) : F_common_beginning [enc one, enc other] M = some (.int (commonN one.ps other.ps), M) := by
  have := fn2_eq begF one other M
  unfold begF at this
  rw [if_pos ⟨h3, h4⟩] at this
  exact this
theorem keeps_common_beginning : Keeps 2 c_common_beginning F_common_beginning := by
  refine keeps2p fun one other c M e => ?_
  unfold begF at e
  split at e
  · rename_i hv
    cases e
    have f1 := common_ok M hv.1 hv.2
    simp only [enc_list, map_encS] at f1
    refine ⟨M, ?_, List.prefix_refl _⟩
    simp [c_common_beginning, enc_hist, f1]
  · cases e
end BF

set_option Elab.async false
set_option linter.all false
set_option autoImplicit false
set_option maxRecDepth 10000
namespace BF
open PySem Enc
/-! the best start of two histories -/
def costC (one other s : Hist) : Option Int := match distH s one, distH s other with
  | some x, some y => some (x + y)
  | _, _ => none
def bestU (one other : Hist) (b : Option (Int × Hist)) (s : Hist) : Option (Int × Hist) := match costC one other s with
  | some v => match b with
    | none => some (v, s)
    | some q => if v < q.1 then some (v, s) else b
  | none => b
def starts (ps : List Str) : List Hist := (List.range ps.length).flatMap fun c => (List.range (c + 1)).map fun j => ⟨ps.take (c + 1), j⟩
def bestS (one other : Hist) : Option (Int × Hist) := (starts other.ps).foldl (bestU one other) ((starts one.ps).foldl (bestU one other) none)
theorem best_spec (one other : Hist) : ∀ (L : List Hist) (b : Option (Int × Hist)),
    (L.foldl (bestU one other) b = none → b = none ∧ ∀ s ∈ L, costC one other s = none) ∧
    ∀ v s, L.foldl (bestU one other) b = some (v, s) → (b = some (v, s) ∨ s ∈ L ∧ costC one other s = some v) ∧ (∀ q, b = some q → v ≤ q.1) ∧ ∀ s' ∈ L, ∀ v', costC one other s' = some v' → v ≤ v'
  | [], b => ⟨fun h => ⟨h, fun _ hs => by cases hs⟩, fun v s h => ⟨.inl h, fun q hq => by
      rw [List.foldl_nil] at h
      rw [h] at hq; cases hq; exact Int.le_refl _, fun _ hs => by cases hs⟩⟩
  | x :: L, b => by
    obtain ⟨h1, h2⟩ := best_spec one other L (bestU one other b x)
    rw [List.foldl_cons]
    refine ⟨fun h => ?_, fun v s h => ?_⟩
    · obtain ⟨h3, h4⟩ := h1 h
      unfold bestU at h3
      split at h3
      · split at h3
        · cases h3
        · split at h3
          · cases h3
          · cases h3
      · rename_i hc
        refine ⟨h3, fun s hs => ?_⟩
        rcases List.mem_cons.mp hs with rfl | hs
        · exact hc
        · exact h4 s hs
    · obtain ⟨h3, h4, h5⟩ := h2 v s h
      have up : (∀ v', costC one other x = some v' → v ≤ v') ∧ (∀ q, b = some q → v ≤ q.1) ∧ (bestU one other b x = some (v, s) → b = some (v, s) ∨ s = x ∧ costC one other x = some v) := by
        unfold bestU at h4 ⊢
        cases hc : costC one other x with
        | none =>
          rw [hc] at h4
          simp only at h4 ⊢
          exact ⟨fun _ h => (by cases h), h4, fun h => .inl h⟩
        | some w =>
          rw [hc] at h4
          simp only at h4 ⊢
          cases b with
          | none =>
            simp only at h4 ⊢
            exact ⟨fun v' hv => (by cases hv; exact h4 _ rfl), fun _ h => (by cases h), fun h => (by cases h; exact .inr ⟨rfl, rfl⟩)⟩
          | some q =>
            simp only at h4 ⊢
            by_cases hq : w < q.1
            · rw [if_pos hq] at h4 ⊢
              have := h4 _ rfl
              simp only at this
              exact ⟨fun v' hv => (by cases hv; exact this), fun q2 hq2 => (by cases hq2; omega), fun h => (by cases h; exact .inr ⟨rfl, rfl⟩)⟩
            · rw [if_neg hq] at h4 ⊢
              have := h4 _ rfl
              exact ⟨fun v' hv => (by cases hv; omega), h4, fun h => .inl h⟩
      obtain ⟨u1, u2, u3⟩ := up
      refine ⟨?_, u2, fun s' hs v' hv => ?_⟩
      · rcases h3 with h3 | ⟨h3, h6⟩
        · rcases u3 h3 with h7 | ⟨rfl, h7⟩
          · exact .inl h7
          · exact .inr ⟨List.mem_cons_self, h7⟩
        · exact .inr ⟨List.mem_cons_of_mem _ h3, h6⟩
      · rcases List.mem_cons.mp hs with rfl | hs
        · exact u1 v' hv
        · exact h5 s' hs v' hv
theorem mem_starts {ps : List Str} {s : Hist} : s ∈ starts ps ↔ ∃ c j, c < ps.length ∧ j < c + 1 ∧ s = ⟨ps.take (c + 1), j⟩ := by
  unfold starts
  simp only [List.mem_flatMap, List.mem_range, List.mem_map]
  constructor
  · rintro ⟨c, h1, j, h2, h3⟩; exact ⟨c, j, h1, h2, h3.symm⟩
  · rintro ⟨c, j, h1, h2, h3⟩; exact ⟨c, h1, j, h2, h3.symm⟩
/-- all that is to be known of it -/
theorem bestS_spec (one other : Hist) : (bestS one other = none → ∀ s, s ∈ starts one.ps ∨ s ∈ starts other.ps → costC one other s = none) ∧
    ∀ v s, bestS one other = some (v, s) → (s ∈ starts one.ps ∨ s ∈ starts other.ps) ∧ costC one other s = some v ∧ ∀ s', s' ∈ starts one.ps ∨ s' ∈ starts other.ps → ∀ v', costC one other s' = some v' → v ≤ v' := by
  obtain ⟨a1, a2⟩ := best_spec one other (starts one.ps) none
  obtain ⟨b1, b2⟩ := best_spec one other (starts other.ps) ((starts one.ps).foldl (bestU one other) none)
  refine ⟨fun h s hs => ?_, fun v s h => ?_⟩
  · obtain ⟨h1, h2⟩ := b1 h
    rcases hs with hs | hs
    · exact (a1 h1).2 s hs
    · exact h2 s hs
  · obtain ⟨h1, h2, h3⟩ := b2 v s h
    refine ⟨?_, ?_, fun s' hs v' hv => ?_⟩
    · rcases h1 with h1 | ⟨h1, _⟩
      · rcases (a2 _ _ h1).1 with h4 | ⟨h4, _⟩
        · cases h4
        · exact .inl h4
      · exact .inr h1
    · rcases h1 with h1 | ⟨_, h1⟩
      · rcases (a2 _ _ h1).1 with h4 | ⟨_, h4⟩
        · cases h4
        · exact h4
      · exact h1
    · rcases hs with hs | hs
      · cases hf : (starts one.ps).foldl (bestU one other) none with
        | none =>
          have := (a1 hf).2 s' hs
          rw [this] at hv; cases hv
        | some q =>
          have h4 := h2 q hf
          have h5 := (a2 q.1 q.2 hf).2.2 s' hs v' hv
          omega
      · exact h3 s' hs v' hv
theorem costC_comm (one other s : Hist) : costC other one s = costC one other s := by
  unfold costC
  cases distH s one <;> cases distH s other <;> simp [Int.add_comm]
theorem bestS_comm (one other : Hist) : (bestS other one).map (·.1) = (bestS one other).map (·.1) := by
  obtain ⟨a1, a2⟩ := bestS_spec one other
  obtain ⟨b1, b2⟩ := bestS_spec other one
  cases ha : bestS one other with
  | none =>
    cases hb : bestS other one with
    | none => rfl
    | some q =>
      obtain ⟨c1, c2, _⟩ := b2 q.1 q.2 hb
      have := a1 ha q.2 c1.symm
      rw [costC_comm] at c2
      rw [this] at c2; cases c2
  | some p =>
    obtain ⟨d1, d2, d3⟩ := a2 p.1 p.2 ha
    cases hb : bestS other one with
    | none =>
      have := b1 hb p.2 d1.symm
      rw [costC_comm, d2] at this; cases this
    | some q =>
      obtain ⟨c1, c2, c3⟩ := b2 q.1 q.2 hb
      rw [costC_comm] at c2
      have h1 := d3 q.2 c1.symm q.1 c2
      have h2 := c3 p.2 d1.symm p.1 (by rw [costC_comm]; exact d2)
      simp only [Option.map_some, Option.some.injEq]
      omega
/-- what any start gives, a beginning of one of them gives as well -/
theorem start_cand {one other s : Hist} (h1 : one.at_ < one.ps.length) (h2 : other.at_ < other.ps.length) (hs : s.at_ < s.ps.length) {v : Int} (hv : costC one other s = some v) :
    ∃ c, (c ∈ starts one.ps ∨ c ∈ starts other.ps) ∧ ∃ u, costC one other c = some u ∧ u ≤ v := by
  obtain ⟨p, i⟩ := s
  obtain ⟨u, e⟩ := one
  obtain ⟨w, f⟩ := other
  simp only at h1 h2 hs
  by_cases hp : p = u
  · exact ⟨⟨p, i⟩, .inl (mem_starts.mpr ⟨u.length - 1, i, by simp only; omega, by rw [hp] at hs; omega, by simp only; rw [hp, List.take_of_length_le (by omega)]⟩), v, hv, Int.le_refl _⟩
  by_cases hq : p = w
  · exact ⟨⟨p, i⟩, .inr (mem_starts.mpr ⟨w.length - 1, i, by simp only; omega, by rw [hq] at hs; omega, by simp only; rw [hq, List.take_of_length_le (by omega)]⟩), v, hv, Int.le_refl _⟩
  unfold costC at hv
  rw [dist_mk, dist_mk, if_neg hp, if_neg hq] at hv
  have cu := commonN_le p u
  have cw := commonN_le p w
  split at hv
  · rename_i x y hx hy
    have hvv := Option.some.inj hv
    split at hx
    · cases hx
    · split at hy
      · cases hy
      · rename_i k1 k2
        have hx2 := Option.some.inj hx
        have hy2 := Option.some.inj hy
        obtain ⟨m1, hm1⟩ : ∃ m, m = min i (min (commonN p u) (u.length - 1) - 1) := ⟨_, rfl⟩
        obtain ⟨m2, hm2⟩ : ∃ m, m = min i (min (commonN p w) (w.length - 1) - 1) := ⟨_, rfl⟩
        rw [← hm1] at hx2
        rw [← hm2] at hy2
        have a1 : m1 ≤ i := by omega
        have a2 : m2 ≤ i := by omega
        have a3 : m1 + 1 ≤ commonN p u := by omega
        have a4 : m2 + 1 ≤ commonN p w := by omega
        have a5 : m1 + 2 ≤ u.length := by omega
        have a6 : m2 + 2 ≤ w.length := by omega
        clear k1 k2 hx hy
        clear hm1 hm2
        obtain ⟨j, hj⟩ : ∃ j, j = min m1 m2 := ⟨_, rfl⟩
        have b1 : j ≤ m1 := by omega
        have b2 : j ≤ m2 := by omega
        have tu : u.take (j + 1) = p.take (j + 1) := (take_of_common p u (j + 1) (by omega)).symm
        have tw : p.take (j + 1) = w.take (j + 1) := take_of_common p w (j + 1) (by omega)
        have len : (u.take (j + 1)).length = j + 1 := by simp; omega
        have e1 : commonN (u.take (j + 1)) u = j + 1 := by
          rw [commonN_take, commonN_self]; omega
        have e2 : commonN (u.take (j + 1)) w = j + 1 := by
          rw [tu, commonN_take]; omega
        have n1 : u.take (j + 1) ≠ u := fun z => by rw [z] at len; omega
        have n2 : u.take (j + 1) ≠ w := fun z => by rw [z] at len; omega
        refine ⟨⟨u.take (j + 1), j⟩, .inl (mem_starts.mpr ⟨j, j, by simp only; omega, by omega, rfl⟩), ?_⟩
        have z1 : min (j + 1) (u.length - 1) = j + 1 := by omega
        have z2 : min (j + 1) (w.length - 1) = j + 1 := by omega
        have z3 : min j (j + 1 - 1) = j := by omega
        unfold costC
        rw [dist_mk, dist_mk, if_neg n1, if_neg n2, e1, e2, z1, z2, if_neg (by omega), if_neg (by omega), z3]
        refine ⟨_, rfl, ?_⟩
        rw [← hvv, ← hx2, ← hy2]
        have z4 : ((j : Int) - j).natAbs = 0 := by omega
        rw [z4]
        have z5 : ((m1 : Int) - i).natAbs = i - m1 := by omega
        have z6 : ((m2 : Int) - i).natAbs = i - m2 := by omega
        rw [z5, z6]
        omega
  · cases hv
end BF

set_option Elab.async false
set_option linter.all false
set_option autoImplicit false
set_option maxRecDepth 10000
namespace BF
open PySem Enc
/-! best_start -/
def bestF (one other : Hist) : Option (Option (Int × Hist)) := if valid one ∧ valid other ∧ one.ps.length ≤ 900 ∧ other.ps.length ≤ 900 then some (bestS one other) else none
def F_best_start : Fn := fn2 bestF
abbrev b1_best_start : CS :=
  (sFor (iRange2 (eL (.int 1)) (e2 gAdd (eN pLen [(eV 3)]) (eL (.int 1)))) (gV 4) (sFor (iRange1 (eV 4)) (gV 5) (sSeq (sSet (gV 6) (eTup [(eSl (eV 3) none (some (eV 4))), (eV 5)]))
  (sSeq (sPar [7, 8] [(eN F_distance [(eV 6), (eV 0)]), (eN F_distance [(eV 6), (eV 1)])])
  (sIf (tAnd (tB (e1 gNotN (eV 7))) (tAnd (tB (e1 gNotN (eV 8))) (tOr (tB (e1 gIsN (eV 2))) (tB (e2 gLt (e2 gAdd (eV 7) (eV 8)) (e2 gIx (eV 2) (eL (.int 0)))))))) (sSet (gV 2) (eTup [(e2 gAdd (eV 7) (eV 8)), (eV 6)])) sNil)))))
abbrev b2_best_start : CS :=
  (sFor (iRange1 (eV 4)) (gV 5) (sSeq (sSet (gV 6) (eTup [(eSl (eV 3) none (some (eV 4))), (eV 5)]))
  (sSeq (sPar [7, 8] [(eN F_distance [(eV 6), (eV 0)]), (eN F_distance [(eV 6), (eV 1)])])
  (sIf (tAnd (tB (e1 gNotN (eV 7))) (tAnd (tB (e1 gNotN (eV 8))) (tOr (tB (e1 gIsN (eV 2))) (tB (e2 gLt (e2 gAdd (eV 7) (eV 8)) (e2 gIx (eV 2) (eL (.int 0)))))))) (sSet (gV 2) (eTup [(e2 gAdd (eV 7) (eV 8)), (eV 6)])) sNil))))
abbrev b3_best_start : CS :=
  (sSeq (sSet (gV 6) (eTup [(eSl (eV 3) none (some (eV 4))), (eV 5)]))
  (sSeq (sPar [7, 8] [(eN F_distance [(eV 6), (eV 0)]), (eN F_distance [(eV 6), (eV 1)])])
  (sIf (tAnd (tB (e1 gNotN (eV 7))) (tAnd (tB (e1 gNotN (eV 8))) (tOr (tB (e1 gIsN (eV 2))) (tB (e2 gLt (e2 gAdd (eV 7) (eV 8)) (e2 gIx (eV 2) (eL (.int 0)))))))) (sSet (gV 2) (eTup [(e2 gAdd (eV 7) (eV 8)), (eV 6)])) sNil)))
abbrev N_best_start : List Str := ["one", "other", "best", "pages", "count", "place", "start", "first", "second"]
def c_best_start : CS :=
  (sSeq (sSet (gV 2) (eL .non))
  (sSeq (sFor (iLst (eLst [(e2 gIx (eV 0) (eL (.int 0))), (e2 gIx (eV 1) (eL (.int 0)))])) (gV 3) (sFor (iRange2 (eL (.int 1)) (e2 gAdd (eN pLen [(eV 3)]) (eL (.int 1)))) (gV 4) (sFor (iRange1 (eV 4)) (gV 5) (sSeq (sSet (gV 6) (eTup [(eSl (eV 3) none (some (eV 4))), (eV 5)]))
  (sSeq (sPar [7, 8] [(eN F_distance [(eV 6), (eV 0)]), (eN F_distance [(eV 6), (eV 1)])])
  (sIf (tAnd (tB (e1 gNotN (eV 7))) (tAnd (tB (e1 gNotN (eV 8))) (tOr (tB (e1 gIsN (eV 2))) (tB (e2 gLt (e2 gAdd (eV 7) (eV 8)) (e2 gIx (eV 2) (eL (.int 0)))))))) (sSet (gV 2) (eTup [(e2 gAdd (eV 7) (eV 8)), (eV 6)])) sNil))))))
  (sRet (eV 2))))
theorem best_ok {one other : Hist} (M : Mem) (h1 : valid one) (h2 : valid other) (h3 : one.ps.length ≤ 900) (h4 : other.ps.length ≤ 900) : F_best_start [enc one, enc other] M = some (enc (bestS one other), M) := by
  have := fn2_eq bestF one other M
  unfold bestF at this
  rw [if_pos ⟨h1, h2, h3, h4⟩] at this
  exact this
theorem best_body {one other : Hist} (M : Mem) (h1 : valid one) (h2 : valid other) (h3 : one.ps.length ≤ 900) (h4 : other.ps.length ≤ 900) (ps : List Str) (hps : ps.length ≤ 900) (c j : Nat) (hc : c < ps.length) (hj : j < c + 1) (b : Option (Int × Hist)) (s6 s7 s8 : Option W) :
    ∃ u6 u7 u8, b3_best_start [some (enc one), some (enc other), some (enc b), some (enc ps), some (.int ((c + 1 : Nat) : Int)), some (.int (j : Int)), s6, s7, s8] M =
      some (.nx [some (enc one), some (enc other), some (enc (bestU one other b ⟨ps.take (c + 1), j⟩)), some (enc ps), some (.int ((c + 1 : Nat) : Int)), some (.int (j : Int)), u6, u7, u8] M) := by
  obtain ⟨s, hs⟩ : ∃ s : Hist, s = ⟨ps.take (c + 1), j⟩ := ⟨_, rfl⟩
  have sl : s.ps.length ≤ 900 := by rw [hs]; simp; omega
  have sv : valid s := by rw [hs]; exact ⟨by simp; omega, by simp; omega⟩
  have f1 := distance_ok M sv h1 sl h3
  have f2 := distance_ok M sv h2 sl h4
  have es : (enc s : W) = .tup [.tup ((ps.map W.str).take (c + 1)), .int j] := by rw [hs, enc_hist, List.map_take]
  rw [← hs]
  refine ⟨some (enc s), some (enc (distH s one)), some (enc (distH s other)), ?_⟩
  have hU : bestU one other b s = match costC one other s with
    | some v => (match b with
      | none => some (v, s)
      | some q => if v < q.1 then some (v, s) else b)
    | none => b := rfl
  rw [hU]
  unfold costC
  rw [es] at f1 f2
  cases hx : distH s one with
  | none =>
    rw [hx] at f1
    simp only [enc_on] at f1
    simp [enc_list, map_encS, f1, f2, es, isN]
  | some x =>
    rw [hx] at f1
    simp only [enc_os] at f1
    cases hy : distH s other with
    | none =>
      rw [hy] at f2
      simp only [enc_on] at f2
      simp [enc_list, map_encS, f1, f2, es, isN]
    | some y =>
      rw [hy] at f2
      simp only [enc_os] at f2
      cases b with
      | none => simp [enc_list, map_encS, f1, f2, es, isN, enc_obn, enc_obs]
      | some q =>
        obtain ⟨v, q⟩ := q
        by_cases hlt : x + y < v
        · simp [enc_list, map_encS, f1, f2, es, isN, enc_obs, hlt]
        · simp [enc_list, map_encS, f1, f2, es, isN, enc_obs, hlt]
theorem best_inner {one other : Hist} (M : Mem) (h1 : valid one) (h2 : valid other) (h3 : one.ps.length ≤ 900) (h4 : other.ps.length ≤ 900) (ps : List Str) (hps : ps.length ≤ 900) (c : Nat) (hc : c < ps.length) (b : Option (Int × Hist)) (s5 s6 s7 s8 : Option W) :
    ∃ u5 u6 u7 u8, forL gdT (gV 5) b3_best_start (rangeW 0 (c + 1)) [some (enc one), some (enc other), some (enc b), some (enc ps), some (.int ((c + 1 : Nat) : Int)), s5, s6, s7, s8] M =
      some (.nx [some (enc one), some (enc other), some (enc (((List.range (c + 1)).map fun j => (⟨ps.take (c + 1), j⟩ : Hist)).foldl (bestU one other) b)), some (enc ps), some (.int ((c + 1 : Nat) : Int)), u5, u6, u7, u8] M) := by
  obtain ⟨σ', M', e, hM, w5, w6, w7, w8, hσ⟩ := forL_ind (gd := gdT) (g := gV 5) (body := b3_best_start) (rangeW 0 (c + 1)) (fun i σ M' => M' = M ∧ ∃ s5 s6 s7 s8, σ = [some (enc one), some (enc other), some (enc (((List.range i).map fun j => (⟨ps.take (c + 1), j⟩ : Hist)).foldl (bestU one other) b)), some (enc ps), some (.int ((c + 1 : Nat) : Int)), s5, s6, s7, s8])
    (σ := [some (enc one), some (enc other), some (enc b), some (enc ps), some (.int ((c + 1 : Nat) : Int)), s5, s6, s7, s8]) (M := M) ⟨rfl, _, _, _, _, rfl⟩ (fun _ _ _ _ => rfl) (by
    intro i w σ M' hw ⟨hM, t5, t6, t7, t8, hσ⟩
    obtain ⟨hi, rfl⟩ := rangeW_get hw
    subst hM hσ
    obtain ⟨u6, u7, u8, hb⟩ := best_body M' h1 h2 h3 h4 ps hps c i hc hi (((List.range i).map fun j => (⟨ps.take (c + 1), j⟩ : Hist)).foldl (bestU one other) b) t6 t7 t8
    refine ⟨_, rfl, _, _, .inl ?_, rfl, some (.int (i : Int)), u6, u7, u8, rfl⟩
    rw [List.range_succ, List.map_append, List.foldl_append]
    show b3_best_start [some (enc one), some (enc other), some (enc (((List.range i).map fun j => (⟨ps.take (c + 1), j⟩ : Hist)).foldl (bestU one other) b)), some (enc ps), some (.int ((c + 1 : Nat) : Int)), some (.int (0 + (i : Int))), t6, t7, t8] M' = _
    rw [Int.zero_add]
    exact hb)
  rw [rangeW_length] at hσ
  subst hM hσ
  exact ⟨w5, w6, w7, w8, e⟩
theorem best_middle {one other : Hist} (M : Mem) (h1 : valid one) (h2 : valid other) (h3 : one.ps.length ≤ 900) (h4 : other.ps.length ≤ 900) (ps : List Str) (hps : ps.length ≤ 900) (b : Option (Int × Hist)) (s4 s5 s6 s7 s8 : Option W) :
    ∃ u4 u5 u6 u7 u8, forL gdT (gV 4) b2_best_start (rangeW 1 ps.length) [some (enc one), some (enc other), some (enc b), some (enc ps), s4, s5, s6, s7, s8] M =
      some (.nx [some (enc one), some (enc other), some (enc ((starts ps).foldl (bestU one other) b)), some (enc ps), u4, u5, u6, u7, u8] M) := by
  obtain ⟨σ', M', e, hM, w4, w5, w6, w7, w8, hσ⟩ := forL_ind (gd := gdT) (g := gV 4) (body := b2_best_start) (rangeW 1 ps.length) (fun i σ M' => M' = M ∧ ∃ s4 s5 s6 s7 s8, σ = [some (enc one), some (enc other), some (enc (((List.range i).flatMap fun c => (List.range (c + 1)).map fun j => (⟨ps.take (c + 1), j⟩ : Hist)).foldl (bestU one other) b)), some (enc ps), s4, s5, s6, s7, s8])
    (σ := [some (enc one), some (enc other), some (enc b), some (enc ps), s4, s5, s6, s7, s8]) (M := M) ⟨rfl, _, _, _, _, _, rfl⟩ (fun _ _ _ _ => rfl) (by
    intro i w σ M' hw ⟨hM, t4, t5, t6, t7, t8, hσ⟩
    obtain ⟨hi, rfl⟩ := rangeW_get hw
    subst hM hσ
    obtain ⟨u5, u6, u7, u8, hb⟩ := best_inner M' h1 h2 h3 h4 ps hps i hi (((List.range i).flatMap fun c => (List.range (c + 1)).map fun j => (⟨ps.take (c + 1), j⟩ : Hist)).foldl (bestU one other) b) t5 t6 t7 t8
    have k1 : (1 + (i : Int)) = ((i + 1 : Nat) : Int) := by omega
    have k2 : small62 ((i + 1 : Nat) : Int) = true := small62_of (by omega)
    refine ⟨[some (enc one), some (enc other), some (enc (((List.range i).flatMap fun c => (List.range (c + 1)).map fun j => (⟨ps.take (c + 1), j⟩ : Hist)).foldl (bestU one other) b)), some (enc ps), some (.int ((i + 1 : Nat) : Int)), t5, t6, t7, t8], by rw [← k1]; rfl, [some (enc one), some (enc other), some (enc (((List.range (i + 1)).flatMap fun c => (List.range (c + 1)).map fun j => (⟨ps.take (c + 1), j⟩ : Hist)).foldl (bestU one other) b)), some (enc ps), some (.int ((i + 1 : Nat) : Int)), u5, u6, u7, u8], M', .inl ?_, rfl, _, u5, u6, u7, u8, rfl⟩
    rw [List.range_succ, List.flatMap_append, List.foldl_append]
    simp only [List.flatMap_cons, List.flatMap_nil, List.append_nil]
    have eI : iRange1 (eV 4) [some (enc one), some (enc other), some (enc (((List.range i).flatMap fun c => (List.range (c + 1)).map fun j => (⟨ps.take (c + 1), j⟩ : Hist)).foldl (bestU one other) b)), some (enc ps), some (.int ((i + 1 : Nat) : Int)), t5, t6, t7, t8] M' = some (rangeW 0 (i + 1), gdT, M') := by
      rw [iRange1_eq, eV_eq]
      simp only [List.getD_cons_succ, List.getD_cons_zero, Option.bind_some, k2, if_true, Int.toNat_natCast]
    show (sFor _ _ _) _ _ = _
    rw [sFor_eq, eI]
    exact hb)
  rw [rangeW_length] at hσ
  subst hM hσ
  exact ⟨w4, w5, w6, w7, w8, e⟩
theorem keeps_best_start : Keeps 9 c_best_start F_best_start := by
  refine keeps2p fun one other c M e => ?_
  unfold bestF at e
  split at e
  · rename_i hv
    cases e
    obtain ⟨h1, h2, h3, h4⟩ := hv
    have outer : ∀ (M' : Mem) (ps : List Str) (hps : ps.length ≤ 900) (b : Option (Int × Hist)) (s4 s5 s6 s7 s8 : Option W), ∃ u4 u5 u6 u7 u8, b1_best_start [some (enc one), some (enc other), some (enc b), some (enc ps), s4, s5, s6, s7, s8] M' =
        some (.nx [some (enc one), some (enc other), some (enc ((starts ps).foldl (bestU one other) b)), some (enc ps), u4, u5, u6, u7, u8] M') := by
      intro M' ps hps b s4 s5 s6 s7 s8
      obtain ⟨t4, t5, t6, t7, t8, hb⟩ := best_middle M' h1 h2 h3 h4 ps hps b s4 s5 s6 s7 s8
      refine ⟨t4, t5, t6, t7, t8, ?_⟩
      have k2 : small62 ((ps.length : Int) + 1) = true := small62_of (by omega)
      have eI : iRange2 (eL (.int 1)) (e2 gAdd (eN pLen [(eV 3)]) (eL (.int 1))) [some (enc one), some (enc other), some (enc b), some (enc ps), s4, s5, s6, s7, s8] M' = some (rangeW 1 ps.length, gdT, M') := by
        have : (((ps.length : Int) + 1) - 1).toNat = ps.length := by omega
        simp [enc_list, k2, this]
      show (sFor _ _ _) _ _ = _
      rw [sFor_eq, eI]
      exact hb
    obtain ⟨a4, a5, a6, a7, a8, o1⟩ := outer (M ++ [.lst [enc one.ps, enc other.ps]]) one.ps h3 none none none none none none
    obtain ⟨b4, b5, b6, b7, b8, o2⟩ := outer (M ++ [.lst [enc one.ps, enc other.ps]]) other.ps h4 ((starts one.ps).foldl (bestU one other) none) a4 a5 a6 a7 a8
    have lp : forL (fun M' => decide (M'[M.length]? = some (.lst [enc one.ps, enc other.ps]))) (gV 3) b1_best_start [enc one.ps, enc other.ps] [some (enc one), some (enc other), some .non, none, none, none, none, none, none] (M ++ [.lst [enc one.ps, enc other.ps]]) =
        some (.nx [some (enc one), some (enc other), some (enc (bestS one other)), some (enc other.ps), b4, b5, b6, b7, b8] (M ++ [.lst [enc one.ps, enc other.ps]])) := by
      rw [forL_cons (by simp) rfl o1]
      simp only [contO]
      rw [forL_cons (by simp) rfl o2]
      simp only [contO]
      exact forL_nil (by simp)
    refine ⟨M ++ [.lst [enc one.ps, enc other.ps]], ?_, List.prefix_append _ _⟩
    simp only [enc_hist, enc_list, map_encS] at lp
    generalize bestS one other = B at *
    simp [c_best_start, enc_hist, lp]
    exact ⟨rfl, rfl⟩
  · cases e
end BF

set_option Elab.async false
set_option linter.all false
set_option autoImplicit false
set_option maxRecDepth 10000
namespace BF
open PySem Enc
/-! fewest_since_copy -/
def fewH (one other : Hist) : Option Int := (bestS one other).map (·.1)
def fewF (one other : Hist) : Option (Option Int) := if valid one ∧ valid other ∧ one.ps.length ≤ 900 ∧ other.ps.length ≤ 900 then some (fewH one other) else none
def F_fewest_since_copy : Fn := fn2 fewF
abbrev N_fewest_since_copy : List Str := ["one", "other", "best"]
def c_fewest_since_copy : CS :=
  (sSeq (sSet (gV 2) (eN F_best_start [(eV 0), (eV 1)]))
  (sRet (eIf (tB (e1 gNotN (eV 2))) (e2 gIx (eV 2) (eL (.int 0))) (eL .non))))
theorem few_ok {one other : Hist} (M : Mem) (h1 : valid one) (h2 : valid other) (h3 : one.ps.length ≤ 900) (h4 : other.ps.length ≤ 900) : F_fewest_since_copy [enc one, enc other] M = some (enc (fewH one other), M) := by
  have := fn2_eq fewF one other M
  unfold fewF at this
  rw [if_pos ⟨h1, h2, h3, h4⟩] at this
  exact this
theorem keeps_fewest_since_copy : Keeps 3 c_fewest_since_copy F_fewest_since_copy := by
  refine keeps2p fun one other c M e => ?_
  unfold fewF at e
  split at e
  · rename_i hv
    cases e
    obtain ⟨h1, h2, h3, h4⟩ := hv
    have f1 := best_ok M h1 h2 h3 h4
    refine ⟨M, ?_, List.prefix_refl _⟩
    unfold fewH
    cases hb : bestS one other with
    | none =>
      rw [hb] at f1
      simp only [enc_obn] at f1
      simp [c_fewest_since_copy, f1, isN]
    | some q =>
      obtain ⟨v, q⟩ := q
      rw [hb] at f1
      simp only [enc_obs] at f1
      simp [c_fewest_since_copy, f1, isN]
  · cases e
end BF

set_option Elab.async false
set_option linter.all false
set_option autoImplicit false
set_option maxRecDepth 10000
namespace BF
open PySem Enc
/-! copy_point -/
def pointH (one other : Hist) : Option Hist := (bestS one other).map (·.2)
def pointF (one other : Hist) : Option (Option Hist) := if valid one ∧ valid other ∧ one.ps.length ≤ 900 ∧ other.ps.length ≤ 900 then some (pointH one other) else none
def F_copy_point : Fn := fn2 pointF
abbrev N_copy_point : List Str := ["one", "other", "best"]
def c_copy_point : CS :=
  (sSeq (sSet (gV 2) (eN F_best_start [(eV 0), (eV 1)]))
  (sRet (eIf (tB (e1 gNotN (eV 2))) (e2 gIx (eV 2) (eL (.int 1))) (eL .non))))
theorem point_ok {one other : Hist} (M : Mem) (h1 : valid one) (h2 : valid other) (h3 : one.ps.length ≤ 900) (h4 : other.ps.length ≤ 900) : F_copy_point [enc one, enc other] M = some (enc (pointH one other), M) := by
  have := fn2_eq pointF one other M
  unfold pointF at this
  rw [if_pos ⟨h1, h2, h3, h4⟩] at this
  exact this
theorem keeps_copy_point : Keeps 3 c_copy_point F_copy_point := by
  refine keeps2p fun one other c M e => ?_
  unfold pointF at e
  split at e
  · rename_i hv
    cases e
    obtain ⟨h1, h2, h3, h4⟩ := hv
    have f1 := best_ok M h1 h2 h3 h4
    refine ⟨M, ?_, List.prefix_refl _⟩
    unfold pointH
    cases hb : bestS one other with
    | none =>
      rw [hb] at f1
      simp only [enc_obn] at f1
      simp [c_copy_point, f1, isN, enc_ohn]
    | some q =>
      obtain ⟨v, q⟩ := q
      rw [hb] at f1
      simp only [enc_obs] at f1
      simp [c_copy_point, f1, isN, enc_ohs]
  · cases e
end BF

set_option Elab.async false
set_option linter.all false
set_option autoImplicit false
set_option maxRecDepth 10000
namespace BF
open PySem Enc
/-! run: a history with a cap, and how many pages it dropped -/
def capStep (cap : Nat) (q : Hist × Nat) (a : Act) : Hist × Nat :=
  let h := stepH q.1 a
  (⟨h.ps.drop (h.ps.length - cap), h.at_ - (h.ps.length - cap)⟩, q.2 + (h.ps.length - cap))
def runC (cap : Nat) (h : Hist) (l : List Act) : Hist × Nat := l.foldl (capStep cap) (h, 0)
def capOk (cap : Nat) (h : Hist) : Prop := valid h ∧ h.ps.length ≤ cap ∧ 1 ≤ cap ∧ cap ≤ 900
instance (cap : Nat) (h : Hist) : Decidable (capOk cap h) := by unfold capOk; infer_instance
theorem capStep_at {cap : Nat} {h : Hist} {a : Act} (hc : capOk cap h) (ha : plain a = true) : (stepH h a).ps.length - cap ≤ (stepH h a).at_ ∧ (stepH h a).ps.length ≤ cap + 1 ∧ (stepH h a).at_ < (stepH h a).ps.length := by
  obtain ⟨⟨h1, h2⟩, h3, h4, h5⟩ := hc
  cases a with
  | visit p => simp [stepH]; omega
  | back => simp [stepH]; omega
  | forward => simp [stepH]; omega
  | go i => cases ha
theorem capStep_ok {cap : Nat} {q : Hist × Nat} {a : Act} (hc : capOk cap q.1) (ha : plain a = true) : capOk cap (capStep cap q a).1 := by
  have := capStep_at hc ha
  obtain ⟨⟨h1, h2⟩, h3, h4, h5⟩ := hc
  refine ⟨⟨?_, ?_⟩, ?_, h4, h5⟩ <;> simp [capStep] <;> omega
def runF3 (h : Hist) (l : List Act) (cap : Nat) : Option (Hist × Nat) := if capOk cap h ∧ l.all plain = true then some (runC cap h l) else none
def F_run : Fn := fn3 runF3
abbrev b1_run : CS :=
  (sSeq (sSet (gT [(gV 5), (gV 6)]) (eN F_after [(eV 0), (eV 4)]))
  (sSeq (sSet (gV 7) (eN pMax [(eL (.int 0)), (e2 gSub (eN pLen [(eV 5)]) (eV 2))]))
  (sPar [0, 3] [(eTup [(eSl (eV 5) (some (eV 7)) none), (e2 gSub (eV 6) (eV 7))]), (e2 gAdd (eV 3) (eV 7))])))
abbrev N_run : List Str := ["history", "script", "cap", "count", "action", "pages", "place", "excess"]
def c_run : CS :=
  (sSeq (sSet (gV 3) (eL (.int 0)))
  (sSeq (sFor (iTup (eV 1)) (gV 4) (sSeq (sSet (gT [(gV 5), (gV 6)]) (eN F_after [(eV 0), (eV 4)]))
  (sSeq (sSet (gV 7) (eN pMax [(eL (.int 0)), (e2 gSub (eN pLen [(eV 5)]) (eV 2))]))
  (sPar [0, 3] [(eTup [(eSl (eV 5) (some (eV 7)) none), (e2 gSub (eV 6) (eV 7))]), (e2 gAdd (eV 3) (eV 7))]))))
  (sRet (eTup [(eV 0), (eV 3)]))))
theorem run_ok {h : Hist} {l : List Act} {cap : Nat} (M : Mem) (hc : capOk cap h) (ha : l.all plain = true) : F_run [enc h, enc l, .int cap] M = some (enc (runC cap h l), M) := by
  have := fn3_eq runF3 h l cap M
  unfold runF3 at this
  rw [if_pos ⟨hc, ha⟩] at this
  exact this
theorem keeps_run : Keeps 8 c_run F_run := by
  refine keeps3p fun h l cap c M e => ?_
  unfold runF3 at e
  split at e
  · rename_i hv
    cases e
    obtain ⟨hc, ha⟩ := hv
    have key : ∀ (l : List Act) (q : Hist × Nat) (s1 s4 s5 s6 s7 : Option W), capOk cap q.1 → l.all plain = true →
        ∃ σ', forL gdT (gV 4) b1_run (l.map enc) [some (enc q.1), s1, some (.int cap), some (.int q.2), s4, s5, s6, s7] M = some (.nx σ' M) ∧ σ'[0]? = some (some (enc (l.foldl (capStep cap) q).1)) ∧ σ'[3]? = some (some (.int ((l.foldl (capStep cap) q).2 : Nat))) := by
      intro l
      induction l with
      | nil => intro q s1 s4 s5 s6 s7 _ _; exact ⟨_, forL_nil rfl, rfl, rfl⟩
      | cons a l ih =>
        intro q s1 s4 s5 s6 s7 hc hp
        rw [List.all_cons, Bool.and_eq_true] at hp
        have ca := capStep_at hc hp.1
        have f1 := after_ok M hc.1 hp.1
        obtain ⟨σ', e1, e2, e3⟩ := ih (capStep cap q a) s1 (some (enc a)) (some (enc (stepH q.1 a).ps)) (some (.int (stepH q.1 a).at_)) (some (.int (((stepH q.1 a).ps.length - cap : Nat) : Int))) (capStep_ok hc hp.1) hp.2
        refine ⟨σ', ?_, e2, e3⟩
        rw [List.map_cons, forL_cons (σ1 := [some (enc q.1), s1, some (.int cap), some (.int q.2), some (enc a), s5, s6, s7]) (o := .nx [some (enc (capStep cap q a).1), s1, some (.int cap), some (.int (capStep cap q a).2), some (enc a), some (enc (stepH q.1 a).ps), some (.int (stepH q.1 a).at_), some (.int (((stepH q.1 a).ps.length - cap : Nat) : Int))] M) rfl rfl ?_]
        · exact e1
        · have k1 : max 0 (((stepH q.1 a).ps.length : Int) - cap) = (((stepH q.1 a).ps.length - cap : Nat) : Int) := by omega
          have k2 : ((stepH q.1 a).at_ : Int) - (((stepH q.1 a).ps.length - cap : Nat) : Int) = (((stepH q.1 a).at_ - ((stepH q.1 a).ps.length - cap) : Nat) : Int) := by omega
          simp only [enc_hist] at f1
          simp [enc_list, map_encS, f1, enc_hist, k2, capStep, cutW_map]
    obtain ⟨σ', e1, e2, e3⟩ := key l (h, 0) (some (enc l)) none none none none hc ha
    simp only [enc_list, Int.cast_ofNat_Int] at e1
    refine ⟨M, ?_, List.prefix_refl _⟩
    simp [c_run, enc_list, e1, e2, e3, runC]
    rfl
  · cases e
end BF

set_option Elab.async false
set_option linter.all false
set_option autoImplicit false
set_option maxRecDepth 10000
namespace BF
open PySem Enc
/-! apply_capped -/
def capF (h : Hist) (l : List Act) (cap : Nat) : Option Hist := if capOk cap h ∧ l.all plain = true then some (runC cap h l).1 else none
def F_apply_capped : Fn := fn3 capF
abbrev N_apply_capped : List Str := ["history", "script", "cap"]
def c_apply_capped : CS :=
  (sRet (e2 gIx (eN F_run [(eV 0), (eV 1), (eV 2)]) (eL (.int 0))))
theorem capped_ok {h : Hist} {l : List Act} {cap : Nat} (M : Mem) (hc : capOk cap h) (ha : l.all plain = true) : F_apply_capped [enc h, enc l, .int cap] M = some (enc (runC cap h l).1, M) := by
  have := fn3_eq capF h l cap M
  unfold capF at this
  rw [if_pos ⟨hc, ha⟩] at this
  exact this
theorem keeps_apply_capped : Keeps 3 c_apply_capped F_apply_capped := by
  refine keeps3p fun h l cap c M e => ?_
  unfold capF at e
  split at e
  · rename_i hv
    cases e
    have f1 := run_ok M hv.1 hv.2
    refine ⟨M, ?_, List.prefix_refl _⟩
    generalize runC cap h l = q at f1
    obtain ⟨q1, q2⟩ := q
    simp only [enc_pair] at f1
    simp [c_apply_capped, f1]
  · cases e
end BF

set_option Elab.async false
set_option linter.all false
set_option autoImplicit false
set_option maxRecDepth 10000
namespace BF
open PySem Enc
/-! dropped -/
def dropF (h : Hist) (l : List Act) (cap : Nat) : Option Nat := if capOk cap h ∧ l.all plain = true then some (runC cap h l).2 else none
def F_dropped : Fn := fn3 dropF
abbrev N_dropped : List Str := ["history", "script", "cap"]
def c_dropped : CS :=
  (sRet (e2 gIx (eN F_run [(eV 0), (eV 1), (eV 2)]) (eL (.int 1))))
theorem dropped_ok {h : Hist} {l : List Act} {cap : Nat} (M : Mem) (hc : capOk cap h) (ha : l.all plain = true) : F_dropped [enc h, enc l, .int cap] M = some (.int (runC cap h l).2, M) := by
  have := fn3_eq dropF h l cap M
  unfold dropF at this
  rw [if_pos ⟨hc, ha⟩] at this
  exact this
theorem keeps_dropped : Keeps 3 c_dropped F_dropped := by
  refine keeps3p fun h l cap c M e => ?_
  unfold dropF at e
  split at e
  · rename_i hv
    cases e
    have f1 := run_ok M hv.1 hv.2
    refine ⟨M, ?_, List.prefix_refl _⟩
    generalize runC cap h l = q at f1
    obtain ⟨q1, q2⟩ := q
    simp only [enc_pair, enc_nat] at f1
    simp [c_dropped, f1]
  · cases e
end BF

set_option Elab.async false
set_option linter.all false
set_option autoImplicit false
set_option maxRecDepth 10000
namespace BF
open PySem Enc
/-! caps_for -/
def caps (lo : Nat) : List Nat := (List.range (13 - lo)).map (lo + ·)
theorem mem_caps {lo c : Nat} : c ∈ caps lo ↔ lo ≤ c ∧ c ≤ 12 := by
  unfold caps
  rw [List.mem_map]
  constructor
  · rintro ⟨i, hi, rfl⟩
    have := List.mem_range.mp hi
    omega
  · intro h
    exact ⟨c - lo, List.mem_range.mpr (by omega), by omega⟩
theorem rangeW_caps (lo : Nat) : rangeW (lo : Int) (13 - lo) = (caps lo).map fun c : Nat => W.int c := by
  unfold rangeW caps
  rw [List.map_map]
  apply List.map_congr_left
  intro i _
  simp
def capsH (h : Hist) (l : List Act) (r : Hist) : List Nat := (caps (max 2 h.ps.length)).filter fun c => decide ((runC c h l).1 = r)
def capsF (h : Hist) (l : List Act) (r : Hist) : Option (List Nat) := if valid h ∧ h.ps.length ≤ 12 ∧ l.all plain = true then some (capsH h l r) else none
def F_caps_for : Fn := fnL3 capsF
abbrev N_caps_for : List Str := ["history", "script", "result", "low", "cap"]
def c_caps_for : CS :=
  (sSeq (sSet (gV 3) (eN pMax [(eL (.int 2)), (eN pLen [(e2 gIx (eV 0) (eL (.int 0)))])]))
  (sRet (eLc (iRange2 (eV 3) (e2 gAdd (eL (.int 12)) (eL (.int 1)))) (gV 4) (tB (e2 gEq (e2 gIx (eN F_run [(eV 0), (eV 1), (eV 4)]) (eL (.int 0))) (eV 2))) (eV 4) [4])))
theorem caps_ok {h r : Hist} {l : List Act} (M : Mem) (hv : valid h) (hl : h.ps.length ≤ 12) (ha : l.all plain = true) : F_caps_for [enc h, enc l, enc r] M = some (.ref M.length, M ++ [.lst ((capsH h l r).map enc)]) := by
  have := fnL3_eq capsF h l r M
  unfold capsF at this
  rw [if_pos ⟨hv, hl, ha⟩] at this
  exact this
theorem filter_ints (p : Nat → Bool) (q : W → Bool) (hq : ∀ c : Nat, q (.int c) = p c) (L : List Nat) : ((L.map fun c : Nat => W.int c).filter q).map (fun w => w) = (L.filter p).map (enc : Nat → W) := by
  induction L with
  | nil => rfl
  | cons c L ih =>
    rw [List.map_cons]
    by_cases h : p c = true
    · rw [List.filter_cons_of_pos (by rw [hq]; exact h), List.filter_cons_of_pos h, List.map_cons, List.map_cons, ih]; rfl
    · rw [List.filter_cons_of_neg (by rw [hq]; exact h), List.filter_cons_of_neg h, ih]
theorem keeps_caps_for : Keeps 5 c_caps_for F_caps_for := by
  refine keepsL3 fun h l r cs M e => ?_
  unfold capsF at e
  split at e
  · rename_i hv
    cases e
    obtain ⟨hv, hl, ha⟩ := hv
    obtain ⟨lo, hlo⟩ : ∃ lo, lo = max 2 h.ps.length := ⟨_, rfl⟩
    have key := lcL_filter (gd := gdT) (g := gV 4) (t := tB (e2 gEq (e2 gIx (eN F_run [(eV 0), (eV 1), (eV 4)]) (eL (.int 0))) (eV 2))) (e := eV 4) (vs := [4]) (σ := [some (enc h), some (enc l), some (enc r), some (.int lo), none])
      ((caps lo).map fun c : Nat => W.int c) (fun w => w) (fun w => match w with | .int c => decide ((runC c.toNat h l).1 = r) | _ => false) M [] (by simp [caps]; omega) (fun _ => rfl) (fun w hw L => by
        obtain ⟨c, hc, rfl⟩ := List.mem_map.mp hw
        have hc2 := mem_caps.mp hc
        have f1 := run_ok (h := h) (l := l) (cap := c) (M ++ [.lst L]) ⟨hv, by omega, by omega, by omega⟩ ha
        have eq1 : ∀ M : Mem, eqW M (enc (runC c h l).1) (enc r) = some (decide ((runC c h l).1 = r)) := fun M => eqW_enc (α := Hist) M _ _
        rw [show (enc (runC c h l) : W) = .tup [enc (runC c h l).1, .int (runC c h l).2] from rfl] at f1
        refine ⟨_, rfl, ?_, fun _ => ?_⟩
        · simp [wipe, f1, eq1]
        · simp [wipe])
    rw [filter_ints (fun c => decide ((runC c h l).1 = r)) _ (fun c => by simp) (caps lo), List.nil_append] at key
    rw [← rangeW_caps] at key
    have k0 : max 2 (h.ps.length : Int) = (lo : Int) := by omega
    have k1 : small62 (lo : Int) = true := small62_of (by omega)
    have k2 : ((13 : Int) - (lo : Int)).toNat = 13 - lo := by omega
    have k3 : pMax [.int 2, .int (h.ps.length : Int)] M = some (.int lo, M) := by rw [pMax_eq]; congr 3; split <;> omega
    refine ⟨M.length, [.lst ((capsH h l r).map enc)], ?_, Nat.le_refl _, by simp⟩
    unfold capsH
    rw [← hlo]
    simp only [enc_list] at key ⊢
    simp only [enc_hist] at key ⊢
    simp [-pMax_eq, c_caps_for, k3, k1, k2, key]
  · cases e
end BF

set_option Elab.async false
set_option linter.all false
set_option autoImplicit false
set_option maxRecDepth 10000
namespace BF
open PySem Enc
/-! the letters of the actions -/
def alph (pool : List Str) : List Act := [Act.back, .forward] ++ pool.map .visit
theorem alph_plain (pool : List Str) : ∀ a ∈ alph pool, plain a = true := by
  intro a ha
  rcases List.mem_append.mp ha with ha | ha
  · rcases List.mem_cons.mp ha with rfl | ha
    · rfl
    · rw [List.mem_singleton] at ha; subst ha; rfl
  · obtain ⟨p, _, rfl⟩ := List.mem_map.mp ha; rfl
end BF

set_option Elab.async false
set_option linter.all false
set_option autoImplicit false
set_option maxRecDepth 10000
namespace BF
open PySem Enc
/-! hidden_actions (pSortX: texts sorted) -/
/-- one action more -/
def insA (l : List Act) (k : Nat) (a : Act) : List Act := l.take k ++ [a] ++ l.drop k
def hidL (h : Hist) (l : List Act) (k : Nat) (r : Hist) : List Act := (alph (fstS (sortS (h.ps ++ r.ps)))).filter fun a => decide (runH h (insA l k a) = r)
def hidOk (h : Hist) (l : List Act) (r : Hist) : Prop := roomy h (l.length + 1) ∧ l.all plain = true ∧ r.ps.length ≤ 1000
instance (h : Hist) (l : List Act) (r : Hist) : Decidable (hidOk h l r) := by unfold hidOk; infer_instance
def F_hidden_actions : Fn := fun ws M => match ws with
  | [x, y, z, u] => match (dec x : Option Hist), (dec y : Option (List Act)), (dec z : Option Nat), (dec u : Option Hist) with
    | some h, some l, some k, some r => if hidOk h l r then some (.ref M.length, M ++ [.lst ((hidL h l k r).map enc)]) else none
    | _, _, _, _ => none
  | _ => none
abbrev b1_hidden_actions : CS :=
  (sIf (tB (e2 gEq (eN F_apply [(eV 0), (e2 gAdd (e2 gAdd (eSl (eV 1) none (some (eV 2))) (eTup [(eV 7)])) (eSl (eV 1) (some (eV 2)) none))]) (eV 3))) (sExpr (eML mAppend (eV 6) [(eV 7)])) sNil)
abbrev N_hidden_actions : List Str := ["history", "script", "position", "result", "pages", "visits", "found", "action", "at", "page"]
def c_hidden_actions : CS :=
  (sSeq (sSet (gV 4) (eN pSortX [(e2 gAdd (e2 gIx (eV 0) (eL (.int 0))) (e2 gIx (eV 3) (eL (.int 0))))]))
  (sSeq (sSet (gV 5) (eLc (iEnumL (eV 4)) (gT [(gV 8), (gV 9)]) (tB (e2 gNotInD (eV 9) (eSl (eV 4) none (some (eV 8))))) (eTup [(eL (.str "visit")), (eV 9)]) [8, 9]))
  (sSeq (sSet (gV 6) (eLst []))
  (sSeq (sFor (iLst (e2 gAdd (eLst [(eTup [(eL (.str "back"))]), (eTup [(eL (.str "forward"))])]) (eV 5))) (gV 7) (sIf (tB (e2 gEq (eN F_apply [(eV 0), (e2 gAdd (e2 gAdd (eSl (eV 1) none (some (eV 2))) (eTup [(eV 7)])) (eSl (eV 1) (some (eV 2)) none))]) (eV 3))) (sExpr (eML mAppend (eV 6) [(eV 7)])) sNil))
  (sRet (eV 6))))))
theorem hidden_ok {h : Hist} {l : List Act} (k : Nat) {r : Hist} (M : Mem) (hv : hidOk h l r) : F_hidden_actions [enc h, enc l, .int (k : Nat), enc r] M = some (.ref M.length, M ++ [.lst ((hidL h l k r).map enc)]) := by
  have e : (.int (k : Nat) : W) = enc k := rfl
  rw [e]
  unfold F_hidden_actions
  simp only [dec_enc]
  rw [if_pos hv]
/-- a loop that keeps some of the items in a list -/
theorem forL_keep {α : Type} [Enc α] {gd : Mem → Bool} {g : CG} {B : CS} (p : α → Bool) (F : Nat) (M : Mem) (σ0 : Option W → Sl) (hgd : ∀ acc : List α, gd (M.set F (.lst (acc.map enc))) = true) (hg : ∀ (t : Option W) (x : α), g (enc x) (σ0 t) = some (σ0 (some (enc x)))) :
    ∀ (xs acc : List α), acc.length + xs.length ≤ 1000000 → (∀ x ∈ xs, ∀ acc : List α, acc.length ≤ 1000000 → B (σ0 (some (enc x))) (M.set F (.lst (acc.map enc))) = some (.nx (σ0 (some (enc x))) (M.set F (.lst ((if p x = true then acc ++ [x] else acc).map enc))))) →
      ∀ t, ∃ t', forL gd g B (xs.map enc) (σ0 t) (M.set F (.lst (acc.map enc))) = some (.nx (σ0 t') (M.set F (.lst ((acc ++ xs.filter p).map enc))))
  | [], acc, _, _, t => ⟨t, by rw [List.filter_nil, List.append_nil]; exact forL_nil (hgd acc)⟩
  | x :: xs, acc, hl, step, t => by
    rw [List.length_cons] at hl
    have b := step x List.mem_cons_self acc (by omega)
    rw [List.map_cons, forL_cons (hgd acc) (hg t x) b]
    by_cases c : p x = true
    · rw [if_pos c] at b ⊢
      obtain ⟨t', e⟩ := forL_keep p F M σ0 hgd hg xs (acc ++ [x]) (by simp; omega) (fun y hy => step y (List.mem_cons_of_mem _ hy)) (some (enc x))
      refine ⟨t', ?_⟩
      rw [List.filter_cons_of_pos c, show acc ++ x :: xs.filter p = (acc ++ [x]) ++ xs.filter p by simp]
      exact e
    · rw [if_neg c] at b ⊢
      obtain ⟨t', e⟩ := forL_keep p F M σ0 hgd hg xs acc (by omega) (fun y hy => step y (List.mem_cons_of_mem _ hy)) (some (enc x))
      refine ⟨t', ?_⟩
      rw [List.filter_cons_of_neg c]
      exact e
def fstI (l : List Str) (i : Nat) : List Str := ((l.zipIdx.take i).filter fun p => decide (p.1 ∉ l.take p.2)).map (·.1)
theorem fstI_succ {l : List Str} {i : Nat} {t : Str} (h : l[i]? = some t) : fstI l (i + 1) = if t ∈ l.take i then fstI l i else fstI l i ++ [t] := by
  have hz : l.zipIdx[i]? = some (t, i) := by rw [List.getElem?_zipIdx, h]; simp
  have hi := (List.getElem?_eq_some_iff.mp hz).1
  unfold fstI
  rw [List.take_succ_eq_append_getElem hi, (List.getElem?_eq_some_iff.mp hz).2, List.filter_append, List.map_append]
  by_cases c : t ∈ l.take i
  · rw [if_pos c, List.filter_cons_of_neg (by simpa using c)]; simp
  · rw [if_neg c, List.filter_cons_of_pos (by simpa using c)]; simp
theorem fstI_all (l : List Str) : fstI l l.length = fstS l := by
  unfold fstI fstS
  rw [List.take_of_length_le (by simp)]
theorem fstS_length (l : List Str) : (fstS l).length ≤ l.length := (fstS_sub l).length_le
theorem hid_visits (M : Mem) (lt : Nat) (B : List Str) (hB : M[lt]? = some (.lst (B.map enc))) (hl : B.length ≤ 900000) (s0 s1 s2 s3 s5 s6 s7 s8 s9 : Option W) :
    ∃ g, (eLc (iEnumL (eV 4)) (gT [(gV 8), (gV 9)]) (tB (e2 gNotInD (eV 9) (eSl (eV 4) none (some (eV 8))))) (eTup [(eL (.str "visit")), (eV 9)]) [8, 9]) [s0, s1, s2, s3, some (.ref lt), s5, s6, s7, s8, s9] M = some (.ref M.length, M ++ (.lst (((fstS B).map Act.visit).map enc) :: g)) := by
  have hlt := lt_of_get hB
  have key := lcL_ind (gd := fun M' => decide (M'[lt]? = some (.lst (B.map enc)))) (g := gT [(gV 8), (gV 9)]) (t := tB (e2 gNotInD (eV 9) (eSl (eV 4) none (some (eV 8))))) (e := eTup [(eL (.str "visit")), (eV 9)]) (vs := [8, 9]) (σ := [s0, s1, s2, s3, some (.ref lt), s5, s6, s7, s8, s9]) (D := M.length) (enumW (B.map enc))
    (fun i acc M' => acc = ((fstI B i).map Act.visit).map enc ∧ ∃ g, M' = M ++ (.lst acc :: g)) (M := M ++ [.lst []]) (acc0 := []) ⟨rfl, [], rfl⟩ (by
      rintro i acc M' ⟨_, g, rfl⟩
      exact decide_eq_true (up_app hB)) (by
    rintro i w acc M' hw ⟨rfl, g, rfl⟩
    obtain ⟨x, hx, rfl⟩ := enumW_get hw
    rw [List.getElem?_map] at hx
    obtain ⟨t, ht, rfl⟩ := Option.map_eq_some_iff.mp hx
    have hi := (List.getElem?_eq_some_iff.mp ht).1
    obtain ⟨M1, hM1⟩ : ∃ M1, M1 = M ++ (MO.lst (((fstI B i).map Act.visit).map enc) :: g) := ⟨_, rfl⟩
    rw [← hM1]
    have m1 : M1[lt]? = some (.lst (B.map enc)) := by rw [hM1]; exact up_app hB
    have cut : gSl M1 (.ref lt) none (some (i : Int)) = some (.ref M1.length, M1 ++ [.lst ((B.take i).map enc)]) := by
      have : cutW (B.map (enc (α := Str)) : List W) none (some (i : Int)) = (B.take i).map enc := by rw [cutW_hi0, List.map_take]
      simp [m1, this]
    have nin := gNotInD_enc (M1 ++ [MO.lst ((B.take i).map enc)]) M1.length (B.take i) t (by simp)
    refine ⟨[s0, s1, s2, s3, some (.ref lt), s5, s6, s7, some (.int (i : Nat)), some (enc t)], rfl, !decide (t ∈ B.take i), M1 ++ [MO.lst ((B.take i).map enc)], ?_, ?_⟩
    · simp only [tB_eq, e2_eq, eSl_eq, ePart_some, ePart_none, eV_eq, List.getD_cons_zero, List.getD_cons_succ, Option.map_some, Option.bind_some, cut, nin]
    · rw [fstI_succ ht]
      have fl : (fstI B i).length ≤ 900000 := by
        unfold fstI
        rw [List.length_map]
        exact Nat.le_trans (List.length_filter_le _ _) (by rw [List.length_take, List.length_zipIdx]; omega)
      by_cases c : t ∈ B.take i
      · rw [if_pos c, decide_eq_true c]
        simp only [Bool.not_true, Bool.false_eq_true, if_false]
        exact ⟨trivial, g ++ [MO.lst ((B.take i).map enc)], by rw [hM1]; simp⟩
      · rw [if_neg c, decide_eq_false c]
        simp only [Bool.not_false, if_true]
        refine ⟨enc (Act.visit t), M1 ++ [MO.lst ((B.take i).map enc)], rfl, ?_, by rw [List.length_map, List.length_map]; omega, by simp, g ++ [MO.lst ((B.take i).map enc)], ?_⟩
        · rw [hM1, List.append_assoc, List.getElem?_append_right (Nat.le_refl _)]; simp
        · rw [hM1, List.append_assoc, List.set_append_right _ _ (Nat.le_refl _)]; simp)
  obtain ⟨M', acc, e, rfl, g, rfl⟩ := key
  rw [enumW_length, List.length_map, fstI_all] at e
  refine ⟨g, ?_⟩
  simp only [eLc_eq, iEnumL_eq, eV_eq, List.getD_cons_zero, List.getD_cons_succ, Option.map_some, Option.bind_some, hB, e]
theorem ins_plain {l : List Act} {k : Nat} {a : Act} (hl : l.all plain = true) (ha : plain a = true) : (insA l k a).all plain = true := by
  rw [List.all_eq_true] at hl ⊢
  intro b hb
  unfold insA at hb
  rw [List.mem_append, List.mem_append, List.mem_singleton] at hb
  rcases hb with (hb | rfl) | hb
  · exact hl b (List.mem_of_mem_take hb)
  · exact ha
  · exact hl b (List.mem_of_mem_drop hb)
theorem ins_length (l : List Act) (k : Nat) (a : Act) : (insA l k a).length = l.length + 1 := by
  unfold insA
  simp only [List.length_append, List.length_take, List.length_drop, List.length_singleton]
  omega
/-- l[:k] + (a,) + l[k:] -/
theorem ins_eval {σ : Sl} {M : Mem} {l : List Act} {k i j x : Nat} {a : Act} (hl : l.length ≤ 1000) (h1 : (eV i) σ M = some (enc l, M)) (h2 : (eV j) σ M = some (.int (k : Nat), M)) (h3 : (eV x) σ M = some (enc a, M)) :
    (e2 gAdd (e2 gAdd (eSl (eV i) none (some (eV j))) (eTup [(eV x)])) (eSl (eV i) (some (eV j)) none)) σ M = some (enc (insA l k a), M) := by
  have c1 : gSl M (enc l) none (some ((k : Nat) : Int)) = some (.tup ((l.take k).map enc), M) := by rw [enc_list, gSl_tup, cutW_hi0, ← List.map_take]
  have c2 : gSl M (enc l) (some ((k : Nat) : Int)) none = some (.tup ((l.drop k).map enc), M) := by rw [enc_list, gSl_tup, cutW_lo0, ← List.map_drop]
  have l1 : (l.take k).length ≤ 1000 := by rw [List.length_take]; omega
  have l2 : (l.drop k).length ≤ 1000 := by rw [List.length_drop]; omega
  have b1 : ((l.take k).map (enc (α := Act)) : List W).length + [enc a].length ≤ 16777216 := by simp; omega
  have b2 : ((l.take k).map (enc (α := Act)) ++ [enc a] : List W).length + ((l.drop k).map (enc (α := Act)) : List W).length ≤ 16777216 := by simp; omega
  have e : (enc (insA l k a) : W) = .tup ((l.take k).map enc ++ [enc a] ++ (l.drop k).map enc) := by
    rw [enc_list]; unfold insA; simp
  have f1 : (e2 gAdd (eSl (eV i) none (some (eV j))) (eTup [(eV x)])) σ M = some (.tup ((l.take k).map enc ++ [enc a]), M) := by
    simp only [e2_eq, eSl_eq, h1, h2, h3, ePart_some, ePart_none, Option.bind_some, c1, eTup_eq, eArgs_cons, eArgs_nil, List.length_cons, List.length_nil, Nat.zero_add, Nat.reduceLeDiff, if_true, gAdd_tup]
    rw [if_pos (by simpa using b1)]
  have f2 : (eSl (eV i) (some (eV j)) none) σ M = some (.tup ((l.drop k).map enc), M) := by
    simp only [eSl_eq, h1, h2, ePart_some, ePart_none, Option.bind_some, c2]
  rw [e, e2_eq, f1, Option.bind_some, f2, Option.bind_some, gAdd_tup, if_pos b2]
theorem keeps_hidden_actions : Keeps 10 c_hidden_actions F_hidden_actions := by
  refine keeps_new (γ := Act) fun ws M w M' e => ?_
  unfold F_hidden_actions at e
  split at e
  · split at e
    · rename_i x y z u _ _ _ _ h l k r hx hy hz hu
      split at e
      · rename_i hv
        cases e
        rw [enc_dec _ _ hx, enc_dec _ _ hy, enc_dec _ _ hz, enc_dec _ _ hu]
        refine ⟨hidL h l k r, rfl, rfl, ?_⟩
        obtain ⟨h1, h2, h3⟩ := hv
        have hp : h.ps.length ≤ 1000 := by have := h1.2; omega
        have ll : l.length ≤ 1000 := by have := h1.2; omega
        obtain ⟨S, hS⟩ : ∃ S, S = sortS (h.ps ++ r.ps) := ⟨_, rfl⟩
        have Sl2 : S.length ≤ 2000 := by rw [hS, (sortS_perm _).length_eq, List.length_append]; omega
        have so := pSortX_ok (xs := h.ps ++ r.ps) M (by rw [List.length_append]; omega)
        rw [← hS] at so
        obtain ⟨M1, hM1⟩ : ∃ M1, M1 = M ++ [MO.lst (S.map W.str)] := ⟨_, rfl⟩
        rw [← hM1] at so
        have m1 : M1[M.length]? = some (.lst (S.map enc)) := by rw [hM1]; simp [map_encS]
        have z1 : (sSet (gV 4) (eN pSortX [(e2 gAdd (e2 gIx (eV 0) (eL (.int 0))) (e2 gIx (eV 3) (eL (.int 0))))])) [some (enc h), some (enc l), some (enc k), some (enc r), none, none, none, none, none, none] M = some (.nx [some (enc h), some (enc l), some (enc k), some (enc r), some (.ref M.length), none, none, none, none, none] M1) := by
          have i1 : gIx M (enc h) (.int 0) = some (.tup (h.ps.map W.str), M) := by rw [enc_hist]; simp
          have i2 : gIx M (enc r) (.int 0) = some (.tup (r.ps.map W.str), M) := by rw [enc_hist]; simp
          have i3 : gAdd M (.tup (h.ps.map W.str)) (.tup (r.ps.map W.str)) = some (.tup ((h.ps ++ r.ps).map W.str), M) := by
            rw [gAdd_tup, if_pos (by rw [List.length_map, List.length_map]; omega), List.map_append]
          simp only [sSet_eq, eN_eq, eArgs_cons, eArgs_nil, e2_eq, eV_eq, eL_eq, gV_eq, List.set_cons_zero, List.set_cons_succ, List.getD_cons_zero, List.getD_cons_succ, Option.map_some, Option.bind_some, i1, i2, i3, so]
        obtain ⟨g1, vis⟩ := hid_visits M1 M.length S m1 (by omega) (some (enc h)) (some (enc l)) (some (enc k)) (some (enc r)) none none none none none
        obtain ⟨V, hV⟩ : ∃ V, V = (fstS S).map Act.visit := ⟨_, rfl⟩
        rw [← hV] at vis
        have Vl : V.length ≤ 2000 := by rw [hV, List.length_map]; have := fstS_length S; omega
        obtain ⟨M2, hM2⟩ : ∃ M2, M2 = M1 ++ (MO.lst (V.map enc) :: g1) := ⟨_, rfl⟩
        rw [← hM2] at vis
        have m2 : M2[M1.length]? = some (.lst (V.map enc)) := by rw [hM2]; simp
        have z2 : (sSet (gV 5) (eLc (iEnumL (eV 4)) (gT [(gV 8), (gV 9)]) (tB (e2 gNotInD (eV 9) (eSl (eV 4) none (some (eV 8))))) (eTup [(eL (.str "visit")), (eV 9)]) [8, 9])) [some (enc h), some (enc l), some (enc k), some (enc r), some (.ref M.length), none, none, none, none, none] M1 = some (.nx [some (enc h), some (enc l), some (enc k), some (enc r), some (.ref M.length), some (.ref M1.length), none, none, none, none] M2) := by
          rw [sSet_eq, vis]
          simp only [Option.bind_some, gV_eq, List.set_cons_zero, List.set_cons_succ]
        obtain ⟨M3, hM3⟩ : ∃ M3, M3 = M2 ++ [MO.lst []] := ⟨_, rfl⟩
        have z3 : (sSet (gV 6) (eLst [])) [some (enc h), some (enc l), some (enc k), some (enc r), some (.ref M.length), some (.ref M1.length), none, none, none, none] M2 = some (.nx [some (enc h), some (enc l), some (enc k), some (enc r), some (.ref M.length), some (.ref M1.length), some (.ref M2.length), none, none, none] M3) := by
          simp only [sSet_eq, eLst_eq, eArgs_nil, Option.bind_some, List.length_nil, Nat.zero_le, if_true, gV_eq, List.set_cons_zero, List.set_cons_succ, ← hM3]
        obtain ⟨M4, hM4⟩ : ∃ M4, M4 = M3 ++ [MO.lst [enc Act.back, enc Act.forward]] := ⟨_, rfl⟩
        obtain ⟨A, hA⟩ : ∃ A, A = alph (fstS S) := ⟨_, rfl⟩
        have Ae : A = Act.back :: Act.forward :: V := by rw [hA, hV]; rfl
        obtain ⟨M5, hM5⟩ : ∃ M5, M5 = M4 ++ [MO.lst (A.map enc)] := ⟨_, rfl⟩
        have ad : gAdd M4 (.ref M3.length) (.ref M1.length) = some (.ref M4.length, M5) := by
          have q1 : M4[M3.length]? = some (.lst [enc Act.back, enc Act.forward]) := by rw [hM4]; simp
          have q2 : M4[M1.length]? = some (.lst (V.map enc)) := by rw [hM4, hM3]; exact up_app (up_app m2)
          rw [gAdd_ref, q1, q2, hM5, Ae]
          simp only [List.length_cons, List.length_nil, List.length_map]
          rw [if_pos (by omega)]
          rfl
        have it : (iLst (e2 gAdd (eLst [(eTup [(eL (.str "back"))]), (eTup [(eL (.str "forward"))])]) (eV 5))) [some (enc h), some (enc l), some (enc k), some (enc r), some (.ref M.length), some (.ref M1.length), some (.ref M2.length), none, none, none] M3 = some (A.map enc, fun M' => decide (M'[M4.length]? = some (.lst (A.map enc))), M5) := by
          have q : M5[M4.length]? = some (.lst (A.map enc)) := by rw [hM5]; simp
          have lst : (eLst [(eTup [(eL (.str "back"))]), (eTup [(eL (.str "forward"))])]) [some (enc h), some (enc l), some (enc k), some (enc r), some (.ref M.length), some (.ref M1.length), some (.ref M2.length), none, none, none] M3 = some (.ref M3.length, M4) := by
            rw [hM4]; rfl
          simp only [iLst_eq, e2_eq, lst, eV_eq, List.getD_cons_zero, List.getD_cons_succ, Option.map_some, Option.bind_some, ad, q]
        have n1 : M2.length ≠ M4.length := by rw [hM4, hM3]; simp
        have set0 : M5.set M2.length (.lst (([] : List Act).map enc)) = M5 := by
          have : M5[M2.length]? = some (.lst []) := by
            have : M3[M2.length]? = some (.lst []) := by rw [hM3]; simp
            rw [hM5, hM4]; exact up_app (up_app this)
          obtain ⟨hlt, e⟩ := List.getElem?_eq_some_iff.mp this
          refine List.ext_getElem? fun i => ?_
          by_cases hi : M2.length = i
          · rw [← hi, List.getElem?_set_self hlt, this]; rfl
          · rw [List.getElem?_set_ne hi]
        have fl5 : M2.length < M5.length := by rw [hM5, hM4, hM3]; simp
        have key := forL_keep (α := Act) (gd := fun M' => decide (M'[M4.length]? = some (.lst (A.map enc)))) (g := gV 7) (B := b1_hidden_actions) (fun a => decide (runH h (insA l k a) = r)) M2.length M5 (fun t => [some (enc h), some (enc l), some (enc k), some (enc r), some (.ref M.length), some (.ref M1.length), some (.ref M2.length), t, none, none]) (fun acc => decide_eq_true (by
            rw [List.getElem?_set_ne n1, hM5]; simp)) (fun t x => rfl) A [] (by rw [Ae]; simp; omega) (fun a ha acc hacc => by
          have pa : plain a = true := alph_plain _ a (by rw [← hA]; exact ha)
          obtain ⟨N, hN⟩ : ∃ N, N = M5.set M2.length (.lst (acc.map enc)) := ⟨_, rfl⟩
          rw [← hN]
          have nN : N[M2.length]? = some (.lst (acc.map enc)) := by rw [hN, List.getElem?_set_self fl5]
          have ie := ins_eval (σ := [some (enc h), some (enc l), some (enc k), some (enc r), some (.ref M.length), some (.ref M1.length), some (.ref M2.length), some (enc a), none, none]) (M := N) (l := l) (k := k) (i := 1) (j := 2) (x := 7) (a := a) ll rfl rfl rfl
          have fa := apply_ok (h := h) (l := insA l k a) N (by rw [ins_length]; exact h1) (ins_plain h2 pa)
          have eq := eqW_enc N (runH h (insA l k a)) r (by decide)
          have il : isLst N (.ref M2.length) = true := by rw [isLst_ref, nN]
          have b0 : (acc.map (enc (α := Act)) : List W).length < 16777216 := by rw [List.length_map]; omega
          have ap : mAppend [.ref M2.length, enc a] N = some (.non, M5.set M2.length (.lst ((acc ++ [a]).map enc))) := by
            rw [mAppend_ref, nN]
            simp only [if_pos b0]
            rw [hN, List.set_set, List.map_append, List.map_cons, List.map_nil]
          show (sIf (tB (e2 gEq (eN F_apply [(eV 0), (e2 gAdd (e2 gAdd (eSl (eV 1) none (some (eV 2))) (eTup [(eV 7)])) (eSl (eV 1) (some (eV 2)) none))]) (eV 3))) (sExpr (eML mAppend (eV 6) [(eV 7)])) sNil) [some (enc h), some (enc l), some (enc k), some (enc r), some (.ref M.length), some (.ref M1.length), some (.ref M2.length), some (enc a), none, none] N = _
          have tst : (e2 gEq (eN F_apply [(eV 0), (e2 gAdd (e2 gAdd (eSl (eV 1) none (some (eV 2))) (eTup [(eV 7)])) (eSl (eV 1) (some (eV 2)) none))]) (eV 3)) [some (enc h), some (enc l), some (enc k), some (enc r), some (.ref M.length), some (.ref M1.length), some (.ref M2.length), some (enc a), none, none] N = some (.bl (decide (runH h (insA l k a) = r)), N) := by
            simp only [e2_eq gEq, eN_eq, eArgs_cons, eArgs_nil, ie, eV_eq, List.getD_cons_zero, List.getD_cons_succ, Option.map_some, Option.bind_some, fa, gEq_eq, eq]
          by_cases c : runH h (insA l k a) = r
          · rw [decide_eq_true c] at tst ⊢
            simp only [sIf_eq, tB_eq, tst, Option.bind_some, if_true, sExpr_eq, eML_eq, eV_eq, List.getD_cons_zero, List.getD_cons_succ, Option.map_some, il, eArgs_cons, eArgs_nil, ap]
          · rw [decide_eq_false c] at tst ⊢
            simp only [sIf_eq, tB_eq, tst, Option.bind_some, Bool.false_eq_true, if_false, sNil_eq]
            rw [hN]) none
        rw [set0, List.nil_append] at key
        obtain ⟨t', key⟩ := key
        have fin : A.filter (fun a => decide (runH h (insA l k a) = r)) = hidL h l k r := by rw [hA, hS]; rfl
        rw [fin] at key
        have pre : M <+: M5 := by
          rw [hM5, hM4, hM3, hM2, hM1]
          simp only [List.append_assoc]
          exact List.prefix_append _ _
        obtain ⟨g, hg⟩ := pre
        have lM : M.length ≤ M2.length := by rw [hM2, hM1]; simp
        refine ⟨M2.length, g.set (M2.length - M.length) (.lst ((hidL h l k r).map enc)), ?_, lM, ?_⟩
        · have e5 : M ++ g.set (M2.length - M.length) (.lst ((hidL h l k r).map enc)) = M5.set M2.length (.lst ((hidL h l k r).map enc)) := by
            rw [← hg, List.set_append_right _ _ lM]
          rw [e5]
          show c_hidden_actions [some (enc h), some (enc l), some (enc k), some (enc r), none, none, none, none, none, none] M = _
          unfold c_hidden_actions
          rw [sSeq_eq, z1, Option.bind_some]
          simp only []
          rw [sSeq_eq, z2, Option.bind_some]
          simp only []
          rw [sSeq_eq, z3, Option.bind_some]
          simp only []
          rw [sSeq_eq, sFor_eq, it, Option.bind_some]
          simp only []
          have key' := key
          unfold b1_hidden_actions at key'
          rw [key', Option.bind_some]
          rfl
        · have e5 : M ++ g.set (M2.length - M.length) (.lst ((hidL h l k r).map enc)) = M5.set M2.length (.lst ((hidL h l k r).map enc)) := by
            rw [← hg, List.set_append_right _ _ lM]
          rw [e5, List.getElem?_set_self fl5]
      · cases e
    · cases e
  · cases e
end BF

set_option Elab.async false
set_option linter.all false
set_option autoImplicit false
set_option maxRecDepth 10000
namespace BF
open PySem Enc
/-! places_for -/
def placesL (ps : List Str) (l : List Act) (r : Hist) : List Nat := (List.range ps.length).filter fun i => decide (runH ⟨ps, i⟩ l = r)
def placesF (ps : List Str) (l : List Act) (r : Hist) : Option (List Nat) := if ps.length + l.length ≤ 1000 ∧ l.all plain = true then some (placesL ps l r) else none
def F_places_for : Fn := fnL3 placesF
abbrev N_places_for : List Str := ["pages", "script", "result", "place"]
def c_places_for : CS :=
  (sRet (eLc (iRange1 (eN pLen [(eV 0)])) (gV 3) (tB (e2 gEq (eN F_apply [(eTup [(eV 0), (eV 3)]), (eV 1)]) (eV 2))) (eV 3) [3]))
theorem places_ok {ps : List Str} {l : List Act} {r : Hist} (M : Mem) (h1 : ps.length + l.length ≤ 1000) (h2 : l.all plain = true) : F_places_for [enc ps, enc l, enc r] M = some (.ref M.length, M ++ [.lst ((placesL ps l r).map enc)]) := by
  have := fnL3_eq placesF ps l r M
  unfold placesF at this
  rw [if_pos ⟨h1, h2⟩] at this
  exact this
theorem keeps_places_for : Keeps 4 c_places_for F_places_for := by
  refine keepsL3 fun ps l r cs M e => ?_
  unfold placesF at e
  split at e
  · rename_i hv
    obtain ⟨h1, h2⟩ := hv
    cases e
    have key := lcL_rangeF (gd := gdT) (g := gV 3) (t := tB (e2 gEq (eN F_apply [(eTup [(eV 0), (eV 3)]), (eV 1)]) (eV 2))) (e := eV 3) (vs := [3]) (σ := [some (enc ps), some (enc l), some (enc r), none]) ps.length (fun i => decide (runH ⟨ps, i⟩ l = r)) M (by omega) (fun _ => rfl) (fun i hi m => by
      have fa := apply_ok (h := ⟨ps, i⟩) (l := l) (M ++ [.lst m]) ⟨hi, h1⟩ h2
      have eq := eqW_enc (M ++ [.lst m]) (runH ⟨ps, i⟩ l) r (by decide)
      have tp : (.tup [enc ps, .int (i : Nat)] : W) = enc (⟨ps, i⟩ : Hist) := rfl
      refine ⟨[some (enc ps), some (enc l), some (enc r), some (.int (i : Nat))], rfl, ?_, rfl⟩
      simp only [tB_eq, e2_eq, eN_eq, eTup_eq, eArgs_cons, eArgs_nil, eV_eq, List.getD_cons_zero, List.getD_cons_succ, Option.map_some, Option.bind_some, List.length_cons, List.length_nil, Nat.reduceAdd, Nat.reduceLeDiff, if_true, tp, fa, gEq_eq, eq])
    have sl : small62 ((ps.length : Nat) : Int) = true := small62_of (by omega)
    have pl : pLen [enc ps] M = some (.int (ps.length : Nat), M) := by rw [enc_list, pLen_tup, List.length_map]
    refine ⟨M.length, [.lst ((placesL ps l r).map enc)], ?_, Nat.le_refl _, by simp⟩
    show c_places_for [some (enc ps), some (enc l), some (enc r), none] M = _
    unfold c_places_for
    simp only [sRet_eq, eLc_eq, iRange1_eq, eN_eq, eArgs_cons, eArgs_nil, eV_eq, List.getD_cons_zero, List.getD_cons_succ, Option.map_some, Option.bind_some, pl, sl, if_true, Int.toNat_natCast, key]
    rfl
  · cases e
end BF

set_option Elab.async false
set_option linter.all false
set_option autoImplicit false
set_option maxRecDepth 10000
namespace BF
open PySem Enc
/-! _law_third_right -/
def F__law_third_right : Fn := fn1 rightF
abbrev N__law_third_right : List Str := ["page", "uno", "my_other", "visits", "back", "told"]
def c__law_third_right : CS :=
  (sSeq (sPar [1, 2] [(eTup [(eTup [(eL (.str "a")), (eL (.str "b")), (eV 0)]), (eL (.int 2))]), (eTup [(eTup [(eL (.str "a")), (eL (.str "b")), (eL (.str "d"))]), (eL (.int 2))])])
  (sSeq (sIf (tOr (tB (e2 gNe (eN F_common_beginning [(eV 1), (eV 2)]) (eL (.int 2)))) (tB (e2 gNe (eN F_fewest_since_copy [(eV 1), (eV 2)]) (eL (.int 2))))) (sRet (eL (.bl false))) sNil)
  (sSeq (sIf (tB (e2 gNe (eN F_copy_point [(eTup [(eTup [(eL (.str "a")), (eL (.str "b"))]), (eL (.int 1))]), (eTup [(eTup [(eL (.str "a")), (eL (.str "b"))]), (eL (.int 1))])]) (eTup [(eTup [(eL (.str "a")), (eL (.str "b"))]), (eL (.int 1))]))) (sRet (eL (.bl false))) sNil)
  (sSeq (sSet (gV 3) (eTup [(eTup [(eL (.str "visit")), (eV 0)]), (eTup [(eL (.str "visit")), (eL (.str "d"))])]))
  (sSeq (sIf (tB (e2 gNe (eN F_apply_capped [(eTup [(eTup [(eL (.str "a")), (eL (.str "b"))]), (eL (.int 1))]), (eV 3), (eL (.int 3))]) (eTup [(eTup [(eL (.str "b")), (eV 0), (eL (.str "d"))]), (eL (.int 2))]))) (sRet (eL (.bl false))) sNil)
  (sSeq (sIf (tB (e2 gNe (eN F_dropped [(eTup [(eTup [(eL (.str "a")), (eL (.str "b"))]), (eL (.int 1))]), (eV 3), (eL (.int 3))]) (eL (.int 1)))) (sRet (eL (.bl false))) sNil)
  (sSeq (sSet (gV 4) (eTup [(eTup [(eL (.str "visit")), (eL (.str "b"))]), (eTup [(eL (.str "visit")), (eV 0)]), (eTup [(eL (.str "back"))]), (eTup [(eL (.str "back"))])]))
  (sSeq (sIf (tB (e2 gNe (eN F_caps_for [(eTup [(eTup [(eL (.str "a"))]), (eL (.int 0))]), (eV 4), (eTup [(eTup [(eL (.str "b")), (eV 0)]), (eL (.int 0))])]) (eLst [(eL (.int 2))]))) (sRet (eL (.bl false))) sNil)
  (sSeq (sSet (gV 5) (eN F_hidden_actions [(eTup [(eTup [(eL (.str "a")), (eL (.str "b"))]), (eL (.int 1))]), (eTup [(eTup [(eL (.str "visit")), (eV 0)])]), (eL (.int 0)), (eTup [(eTup [(eL (.str "a")), (eV 0)]), (eL (.int 1))])]))
  (sSeq (sIf (tB (e2 gNe (eV 5) (eLst [(eTup [(eL (.str "back"))])]))) (sRet (eL (.bl false))) sNil)
  (sRet (e2 gEq (eN F_places_for [(eTup [(eL (.str "a")), (eL (.str "b")), (eV 0)]), (eTup [(eTup [(eL (.str "back"))]), (eTup [(eL (.str "visit")), (eL (.str "x"))])]), (eTup [(eTup [(eL (.str "a")), (eL (.str "x"))]), (eL (.int 1))])]) (eLst [(eL (.int 0)), (eL (.int 1))])))))))))))))
theorem third_ok {p : Str} (M : Mem) (h : p ∈ pages3) : F__law_third_right [enc p] M = some (.bl true, M) := first_ok M h
theorem hid_k22 {p : Str} (hp : p = "c" ∨ p = "cc" ∨ p = "zzzzzzzz") : hidL ⟨["a", "b"], 1⟩ [.visit p] 0 ⟨["a", p], 1⟩ = [.back] := by
  unfold hidL alph
  rw [List.filter_append]
  have h2 : ((fstS (sortS (([("a" : Str), ("b" : Str)] : List Str) ++ ([("a" : Str), p] : List Str)))).map Act.visit).filter (fun a => decide (runH ⟨["a", "b"], 1⟩ (insA [.visit p] 0 a) = ⟨["a", p], 1⟩)) = [] := by
    rw [List.filter_eq_nil_iff]
    intro a ha
    obtain ⟨q, hq, rfl⟩ := List.mem_map.mp ha
    have hq := (sortS_perm _).mem_iff.mp ((mem_fstS _ _).mp hq)
    have hq : q = "a" ∨ q = "b" ∨ q = "a" ∨ q = p := by simpa using hq
    rcases hp with rfl | rfl | rfl <;> rcases hq with rfl | rfl | rfl | rfl <;> decide +kernel
  have h1 : ([.back, .forward] : List Act).filter (fun a => decide (runH ⟨["a", "b"], 1⟩ (insA [.visit p] 0 a) = ⟨["a", p], 1⟩)) = [.back] := by
    rcases hp with rfl | rfl | rfl <;> decide +kernel
  show ([.back, .forward] : List Act).filter (fun a => decide (runH ⟨["a", "b"], 1⟩ (insA [.visit p] 0 a) = ⟨["a", p], 1⟩)) ++ ((fstS (sortS (([("a" : Str), ("b" : Str)] : List Str) ++ ([("a" : Str), p] : List Str)))).map Act.visit).filter (fun a => decide (runH ⟨["a", "b"], 1⟩ (insA [.visit p] 0 a) = ⟨["a", p], 1⟩)) = _
  rw [h1, h2]; rfl
theorem up_one3 {M : Mem} {x : MO} {n : Nat} {y : MO} (h : M[n]? = some y) : (M ++ [x])[n]? = some y := up_app h
set_option maxHeartbeats 800000 in
theorem keeps__law_third_right : Keeps 6 c__law_third_right F__law_third_right := by
  refine keeps1p fun p b M e => ?_
  unfold rightF at e
  split at e
  · rename_i hp
    cases e
    have hp := pages3_or hp
    have f1 : ∀ M, F_common_beginning [.tup [.tup [.str "a", .str "b", .str p], .int 2], .tup [.tup [.str "a", .str "b", .str "d"], .int 2]] M = some (.int 2, M) := fun M => by
      have h := beg_ok (one := ⟨["a", "b", p], 2⟩) (other := ⟨["a", "b", "d"], 2⟩) M (by simp) (by simp)
      rw [show commonN ([("a" : Str), "b", p] : List Str) [("a" : Str), "b", "d"] = 2 by rcases hp with rfl | rfl | rfl <;> decide +kernel] at h
      exact h
    have f2 : ∀ M, F_fewest_since_copy [.tup [.tup [.str "a", .str "b", .str p], .int 2], .tup [.tup [.str "a", .str "b", .str "d"], .int 2]] M = some (.int 2, M) := fun M => by
      have h := few_ok (one := ⟨["a", "b", p], 2⟩) (other := ⟨["a", "b", "d"], 2⟩) M ⟨by simp, by simp⟩ ⟨by simp, by simp⟩ (by simp) (by simp)
      rw [show fewH ⟨["a", "b", p], 2⟩ ⟨["a", "b", "d"], 2⟩ = some 2 by rcases hp with rfl | rfl | rfl <;> decide +kernel] at h
      exact h
    have f3 : ∀ M, F_copy_point [.tup [.tup [.str "a", .str "b"], .int 1], .tup [.tup [.str "a", .str "b"], .int 1]] M = some (.tup [.tup [.str "a", .str "b"], .int 1], M) := fun M => by
      have h := point_ok (one := ⟨["a", "b"], 1⟩) (other := ⟨["a", "b"], 1⟩) M ⟨by simp, by simp⟩ ⟨by simp, by simp⟩ (by simp) (by simp)
      rw [show pointH ⟨["a", "b"], 1⟩ ⟨["a", "b"], 1⟩ = some ⟨["a", "b"], 1⟩ by decide +kernel] at h
      exact h
    have e3 : ∀ M, eqW M (.tup [.tup [.str "a", .str "b"], .int 1]) (.tup [.tup [.str "a", .str "b"], .int 1]) = some true := fun M => eqW_yes M (⟨["a", "b"], 1⟩ : Hist)
    have f4 : ∀ M, F_apply_capped [.tup [.tup [.str "a", .str "b"], .int 1], .tup [.tup [.str "visit", .str p], .tup [.str "visit", .str "d"]], .int 3] M = some (.tup [.tup [.str "b", .str p, .str "d"], .int 2], M) := fun M => by
      have h := capped_ok (h := ⟨["a", "b"], 1⟩) (l := [.visit p, .visit "d"]) (cap := 3) M ⟨⟨by simp, by simp⟩, by simp, by simp, by simp⟩ rfl
      rw [show (runC 3 ⟨["a", "b"], 1⟩ [.visit p, .visit "d"]).1 = (⟨[("b" : Str), p, "d"], 2⟩ : Hist) by rcases hp with rfl | rfl | rfl <;> decide +kernel] at h
      exact h
    have e4 : ∀ M, eqW M (.tup [.tup [.str "b", .str p, .str "d"], .int 2]) (.tup [.tup [.str "b", .str p, .str "d"], .int 2]) = some true := fun M => eqW_yes M (⟨["b", p, "d"], 2⟩ : Hist)
    have f5 : ∀ M, F_dropped [.tup [.tup [.str "a", .str "b"], .int 1], .tup [.tup [.str "visit", .str p], .tup [.str "visit", .str "d"]], .int 3] M = some (.int 1, M) := fun M => by
      have h := dropped_ok (h := ⟨["a", "b"], 1⟩) (l := [.visit p, .visit "d"]) (cap := 3) M ⟨⟨by simp, by simp⟩, by simp, by simp, by simp⟩ rfl
      rw [show (runC 3 ⟨["a", "b"], 1⟩ [.visit p, .visit "d"]).2 = 1 by rcases hp with rfl | rfl | rfl <;> decide +kernel] at h
      exact h
    have f6 : ∀ M, F_caps_for [.tup [.tup [.str "a"], .int 0], .tup [.tup [.str "visit", .str "b"], .tup [.str "visit", .str p], .tup [.str "back"], .tup [.str "back"]], .tup [.tup [.str "b", .str p], .int 0]] M = some (.ref M.length, M ++ [.lst [.int 2]]) := fun M => by
      have h := caps_ok (h := ⟨["a"], 0⟩) (l := [.visit "b", .visit p, .back, .back]) (r := ⟨["b", p], 0⟩) M ⟨by simp, by simp⟩ (by simp) rfl
      rw [show capsH ⟨["a"], 0⟩ [.visit "b", .visit p, .back, .back] ⟨["b", p], 0⟩ = [2] by rcases hp with rfl | rfl | rfl <;> decide +kernel] at h
      exact h
    have f7 : ∀ M, F_hidden_actions [.tup [.tup [.str "a", .str "b"], .int 1], .tup [.tup [.str "visit", .str p]], .int 0, .tup [.tup [.str "a", .str p], .int 1]] M = some (.ref M.length, M ++ [.lst [.tup [.str "back"]]]) := fun M => by
      have h := hidden_ok (h := ⟨["a", "b"], 1⟩) (l := [.visit p]) 0 (r := ⟨["a", p], 1⟩) M ⟨⟨by simp, by simp⟩, rfl, by simp⟩
      rw [hid_k22 hp] at h
      exact h
    have f8 : ∀ M, F_places_for [.tup [.str "a", .str "b", .str p], .tup [.tup [.str "back"], .tup [.str "visit", .str "x"]], .tup [.tup [.str "a", .str "x"], .int 1]] M = some (.ref M.length, M ++ [.lst [.int 0, .int 1]]) := fun M => by
      have h := places_ok (ps := ["a", "b", p]) (l := [.back, .visit "x"]) (r := ⟨["a", "x"], 1⟩) M (by simp) rfl
      rw [show placesL ["a", "b", p] [.back, .visit "x"] ⟨["a", "x"], 1⟩ = [0, 1] by rcases hp with rfl | rfl | rfl <;> decide +kernel] at h
      exact h
    have g1 : ∀ M, eqW M (.int 1) (.int 1) = some true := fun M => by rw [eqW_int]; rfl
    have g2 : ∀ M, eqW M (.int 2) (.int 2) = some true := fun M => by rw [eqW_int]; rfl
    obtain ⟨M1, hM1⟩ : ∃ M1, M1 = M ++ [MO.lst [.int 2]] := ⟨_, rfl⟩
    obtain ⟨M2, hM2⟩ : ∃ M2, M2 = M1 ++ [MO.lst [.int 2]] := ⟨_, rfl⟩
    have n1 : M1[M.length]? = some (.lst [.int 2]) := by rw [hM1]; simp
    have e6 : eqW M2 (.ref M.length) (.ref M1.length) = some true := by
      have := eqW_lst M2 M.length M1.length ([2] : List Nat) [2] (by rw [hM2]; exact up_one3 n1) (by rw [hM2]; simp)
      rw [this, decide_eq_true rfl]
    obtain ⟨M3, hM3⟩ : ∃ M3, M3 = M2 ++ [MO.lst [.tup [.str "back"]]] := ⟨_, rfl⟩
    obtain ⟨M4, hM4⟩ : ∃ M4, M4 = M3 ++ [MO.lst [.tup [.str "back"]]] := ⟨_, rfl⟩
    have n3 : M3[M2.length]? = some (.lst [.tup [.str "back"]]) := by rw [hM3]; simp
    have e7 : eqW M4 (.ref M2.length) (.ref M3.length) = some true := by
      have := eqW_lst M4 M2.length M3.length ([.back] : List Act) [.back] (by rw [hM4]; exact up_one3 n3) (by rw [hM4]; simp)
      rw [this, decide_eq_true rfl]
    obtain ⟨M5, hM5⟩ : ∃ M5, M5 = M4 ++ [MO.lst [.int 0, .int 1]] := ⟨_, rfl⟩
    obtain ⟨M6, hM6⟩ : ∃ M6, M6 = M5 ++ [MO.lst [.int 0, .int 1]] := ⟨_, rfl⟩
    have n5 : M5[M4.length]? = some (.lst [.int 0, .int 1]) := by rw [hM5]; simp
    have e8 : eqW M6 (.ref M4.length) (.ref M5.length) = some true := by
      have := eqW_lst M6 M4.length M5.length ([0, 1] : List Nat) [0, 1] (by rw [hM6]; exact up_one3 n5) (by rw [hM6]; simp)
      rw [this, decide_eq_true rfl]
    refine ⟨M6, ?_, by
      rw [hM6, hM5, hM4, hM3, hM2, hM1]
      simp only [List.append_assoc]
      exact List.prefix_append _ _⟩
    show c__law_third_right [some (.str p), none, none, none, none, none] M = _
    unfold c__law_third_right
    have z1 : (sPar [1, 2] [(eTup [(eTup [(eL (.str "a")), (eL (.str "b")), (eV 0)]), (eL (.int 2))]), (eTup [(eTup [(eL (.str "a")), (eL (.str "b")), (eL (.str "d"))]), (eL (.int 2))])]) [some (.str p), none, none, none, none, none] M = some (.nx [some (.str p), some (.tup [.tup [.str "a", .str "b", .str p], .int 2]), some (.tup [.tup [.str "a", .str "b", .str "d"], .int 2]), none, none, none] M) := by
      simp only [sPar_eq, eTup_eq, eArgs_cons, eArgs_nil, eV_eq, eL_eq, List.getD_cons_zero, List.getD_cons_succ, Option.map_some, Option.bind_some, List.length_cons, List.length_nil, Nat.reduceAdd, Nat.reduceLeDiff, if_true, List.zip_cons_cons, List.zip_nil_left, List.zip_nil_right, List.foldl_cons, List.foldl_nil, List.set_cons_zero, List.set_cons_succ]
    rw [sSeq_eq, z1, Option.bind_some]
    simp only []
    simp only [sSeq_eq, sIf_eq, tOr_eq, tB_eq, e1_eq, e2_eq, eN_eq, eTup_eq, eLst_eq, eArgs_cons, eArgs_nil, eV_eq, eL_eq, sSet_eq, gV_eq, sRet_eq, List.set_cons_zero, List.set_cons_succ, List.getD_cons_zero, List.getD_cons_succ, Option.map_some, Option.bind_some, List.length_cons, List.length_nil, Nat.reduceAdd, Nat.reduceLeDiff, Nat.zero_le, if_true, f1, g2, f2, f3, e3, f4, e4, f5, g1, f6, ← hM1, ← hM2, e6, f7, ← hM3, ← hM4, e7, f8, ← hM5, ← hM6, e8, gNe_eq, gEq_eq, Bool.not_true, Bool.false_eq_true, if_false, sNil_eq, enc_bool]
  · cases e
end BF

set_option Elab.async false
set_option linter.all false
set_option autoImplicit false
set_option maxRecDepth 10000
namespace BF
open PySem Enc
noncomputable section
/-! the law's body; noncomputable: one of its defs is -/
abbrev N_law_k22 : List Str := ["my_script", "tape", "page"]
def c_law_k22 : CS :=
  (sSeq (sSet (gV 1) (eLst [(eN pList [(eV 0)]), (eL (.int 0)), (eL (.int 0))]))
  (sSeq (sSet (gV 2) (e2 gIx (eLst [(eL (.str "c")), (eL (.str "cc")), (eL (.str "zzzzzzzz"))]) (eN F__law_draw [(eV 1), (eL (.int 3))])))
  (sRet (eAnd (eN F__law_first_right [(eV 2)]) (eAnd (eN F__law_second_right [(eV 2)]) (eN F__law_third_right [(eV 2)]))))))
theorem keeps_law_k22 : Keeps 3 c_law_k22 lawF := by
  refine keeps_lawT fun ns hl => ?_
  have f1 := draw_ok 3 ns (0, 0) [.lst [.str "c", .str "cc", .str "zzzzzzzz"]] (by omega) (by omega)
  have dl := drawD_lt ns (0, 0) (show 0 < 3 by omega)
  generalize drawD ns 3 (0, 0) = q at f1 dl
  obtain ⟨k, s1⟩ := q
  simp only at f1 dl
  have q3 : ((3 : Nat) : Int) = 3 := rfl
  rw [q3] at f1
  have pk : ∃ p : Str, p ∈ pages3 ∧ gIx (TM ns s1 [.lst [.str "c", .str "cc", .str "zzzzzzzz"]]) (.ref 3) (.int (k : Nat)) = some (.str p, TM ns s1 [.lst [.str "c", .str "cc", .str "zzzzzzzz"]]) := by
    have hk : k = 0 ∨ k = 1 ∨ k = 2 := by omega
    rcases hk with rfl | rfl | rfl
    · exact ⟨"c", by decide, rfl⟩
    · exact ⟨"cc", by decide, rfl⟩
    · exact ⟨"zzzzzzzz", by decide, rfl⟩
  obtain ⟨p, hp, ix⟩ := pk
  refine ⟨s1, [.lst [.str "c", .str "cc", .str "zzzzzzzz"]], ?_⟩
  have e0 : List.replicate (3 - 1) (none : Option W) = none :: List.replicate 1 none := rfl
  have hb : c_law_k22 = sSeq (sSet (gV 1) (eLst [(eN pList [(eV 0)]), (eL (.int 0)), (eL (.int 0))])) (sSeq (sSet (gV 2) (e2 gIx (eLst [(eL (.str "c")), (eL (.str "cc")), (eL (.str "zzzzzzzz"))]) (eN F__law_draw [(eV 1), (eL (.int 3))])))
    (sRet (eAnd (eN F__law_first_right [(eV 2)]) (eAnd (eN F__law_second_right [(eV 2)]) (eN F__law_third_right [(eV 2)]))))) := rfl
  rw [e0, hb, law_tape hl]
  have ep : (.str p : W) = enc p := rfl
  have g1 := first_ok (TM ns s1 [.lst [.str "c", .str "cc", .str "zzzzzzzz"]]) hp
  have g2 := second_ok (TM ns s1 [.lst [.str "c", .str "cc", .str "zzzzzzzz"]]) hp
  have g3 := third_ok (TM ns s1 [.lst [.str "c", .str "cc", .str "zzzzzzzz"]]) hp
  rw [← ep] at g1 g2 g3
  have lst : (eLst [(eL (.str "c")), (eL (.str "cc")), (eL (.str "zzzzzzzz"))]) [some (.ref 0), some (.ref 2), none] (TM ns (0, 0) []) = some (.ref 3, TM ns (0, 0) [.lst [.str "c", .str "cc", .str "zzzzzzzz"]]) := by
    simp
  show (sSeq _ _) [some (.ref 0), some (.ref 2), none] (TM ns (0, 0) []) = _
  simp only [sSeq_eq, sSet_eq, e2_eq gIx, lst, eN_eq, eArgs_cons, eArgs_nil, eV_eq, eL_eq, List.getD_cons_zero, List.getD_cons_succ, Option.map_some, Option.bind_some, f1, ix, gV_eq, List.set_cons_zero, List.set_cons_succ, sRet_eq, eAnd_eq, g1, g2, g3]
end
end BF

namespace BF
open PySem PySem.Spec
open PyProof.Rows L2
/-! ### the text of k22 -/
def topS (i : Nat) : Stmt := PySem.Challenge.pw_backforward_k22_worked_examples_and_name.main.body.getD i (.Pass ⟨0, 0, 0, 0⟩)
abbrev s__law_draw : Stmt := topS 45
theorem sc__law_draw : FnScope N__law_draw ["tape", "many"] (defScope s__law_draw) := ⟨rfl, rfl, rfl, by decide +kernel, rfl, by decide +kernel, by decide +kernel⟩
theorem bi__law_draw : BindsAll "_law_draw" s__law_draw ["tape", "many"] := fun _ _ _ _ _ _ us hl => match us, hl with | [_, _], _ => rfl
abbrev s_common : Stmt := topS 12
theorem sc_common : FnScope N_common ["one", "other"] (defScope s_common) := ⟨rfl, rfl, rfl, by decide +kernel, rfl, by decide +kernel, by decide +kernel⟩
theorem bi_common : BindsAll "common" s_common ["one", "other"] := fun _ _ _ _ _ _ us hl => match us, hl with | [_, _], _ => rfl
abbrev s_kept_pages : Stmt := topS 13
theorem sc_kept_pages : FnScope N_kept_pages ["history", "target"] (defScope s_kept_pages) := ⟨rfl, rfl, rfl, by decide +kernel, rfl, by decide +kernel, by decide +kernel⟩
theorem bi_kept_pages : BindsAll "kept_pages" s_kept_pages ["history", "target"] := fun _ _ _ _ _ _ us hl => match us, hl with | [_, _], _ => rfl
abbrev s_distance : Stmt := topS 14
theorem sc_distance : FnScope N_distance ["history", "target"] (defScope s_distance) := ⟨rfl, rfl, rfl, by decide +kernel, rfl, by decide +kernel, by decide +kernel⟩
theorem bi_distance : BindsAll "distance" s_distance ["history", "target"] := fun _ _ _ _ _ _ us hl => match us, hl with | [_, _], _ => rfl
theorem bk_distance : BindsAllK "distance" s_distance ["history", "target"] := fun _ _ _ _ _ _ us hl => match us, hl with | [_, _], _ => rfl
abbrev s_most_forward : Stmt := topS 15
theorem sc_most_forward : FnScope N_most_forward ["history", "target"] (defScope s_most_forward) := ⟨rfl, rfl, rfl, by decide +kernel, rfl, by decide +kernel, by decide +kernel⟩
theorem bi_most_forward : BindsAll "most_forward" s_most_forward ["history", "target"] := fun _ _ _ _ _ _ us hl => match us, hl with | [_, _], _ => rfl
abbrev s_count_plans : Stmt := topS 16
theorem sc_count_plans : FnScope N_count_plans ["history", "target"] (defScope s_count_plans) := ⟨rfl, rfl, rfl, by decide +kernel, rfl, by decide +kernel, by decide +kernel⟩
theorem bi_count_plans : BindsAll "count_plans" s_count_plans ["history", "target"] := fun _ _ _ _ _ _ us hl => match us, hl with | [_, _], _ => rfl
theorem bk_count_plans : BindsAllK "count_plans" s_count_plans ["history", "target"] := fun _ _ _ _ _ _ us hl => match us, hl with | [_, _], _ => rfl
abbrev s_plan_at : Stmt := topS 17
theorem sc_plan_at : FnScope N_plan_at ["history", "target", "number"] (defScope s_plan_at) := ⟨rfl, rfl, rfl, by decide +kernel, rfl, by decide +kernel, by decide +kernel⟩
theorem bi_plan_at : BindsAll "plan_at" s_plan_at ["history", "target", "number"] := fun _ _ _ _ _ _ us hl => match us, hl with | [_, _, _], _ => rfl
theorem bk_plan_at : BindsAllK "plan_at" s_plan_at ["history", "target", "number"] := fun _ _ _ _ _ _ us hl => match us, hl with | [_, _, _], _ => rfl
abbrev s_after : Stmt := topS 2
theorem sc_after : FnScope N_after ["history", "action"] (defScope s_after) := ⟨rfl, rfl, rfl, by decide +kernel, rfl, by decide +kernel, by decide +kernel⟩
theorem bi_after : BindsAll "after" s_after ["history", "action"] := fun _ _ _ _ _ _ us hl => match us, hl with | [_, _], _ => rfl
abbrev s_apply : Stmt := topS 3
theorem sc_apply : FnScope N_apply ["history", "script"] (defScope s_apply) := ⟨rfl, rfl, rfl, by decide +kernel, rfl, by decide +kernel, by decide +kernel⟩
theorem bi_apply : BindsAll "apply" s_apply ["history", "script"] := fun _ _ _ _ _ _ us hl => match us, hl with | [_, _], _ => rfl
theorem bk_apply : BindsAllK "apply" s_apply ["history", "script"] := fun _ _ _ _ _ _ us hl => match us, hl with | [_, _], _ => rfl
abbrev s_sight : Stmt := topS 4
theorem sc_sight : FnScope N_sight ["history"] (defScope s_sight) := ⟨rfl, rfl, rfl, by decide +kernel, rfl, by decide +kernel, by decide +kernel⟩
theorem bi_sight : BindsAll "sight" s_sight ["history"] := fun _ _ _ _ _ _ us hl => match us, hl with | [_], _ => rfl
theorem bk_sight : BindsAllK "sight" s_sight ["history"] := fun _ _ _ _ _ _ us hl => match us, hl with | [_], _ => rfl
abbrev s_trail : Stmt := topS 5
theorem sc_trail : FnScope N_trail ["history", "script"] (defScope s_trail) := ⟨rfl, rfl, rfl, by decide +kernel, rfl, by decide +kernel, by decide +kernel⟩
theorem bi_trail : BindsAll "trail" s_trail ["history", "script"] := fun _ _ _ _ _ _ us hl => match us, hl with | [_, _], _ => rfl
theorem bk_trail : BindsAllK "trail" s_trail ["history", "script"] := fun _ _ _ _ _ _ us hl => match us, hl with | [_, _], _ => rfl
abbrev s_apply_with_menu : Stmt := topS 24
theorem sc_apply_with_menu : FnScope N_apply_with_menu ["history", "script"] (defScope s_apply_with_menu) := ⟨rfl, rfl, rfl, by decide +kernel, rfl, by decide +kernel, by decide +kernel⟩
theorem bi_apply_with_menu : BindsAll "apply_with_menu" s_apply_with_menu ["history", "script"] := fun _ _ _ _ _ _ us hl => match us, hl with | [_, _], _ => rfl
theorem bk_apply_with_menu : BindsAllK "apply_with_menu" s_apply_with_menu ["history", "script"] := fun _ _ _ _ _ _ us hl => match us, hl with | [_, _], _ => rfl
abbrev s_jump : Stmt := topS 25
theorem sc_jump : FnScope N_jump ["start", "end"] (defScope s_jump) := ⟨rfl, rfl, rfl, by decide +kernel, rfl, by decide +kernel, by decide +kernel⟩
theorem bi_jump : BindsAll "jump" s_jump ["start", "end"] := fun _ _ _ _ _ _ us hl => match us, hl with | [_, _], _ => rfl
abbrev s_plan_with_menu : Stmt := topS 26
theorem sc_plan_with_menu : FnScope N_plan_with_menu ["history", "target"] (defScope s_plan_with_menu) := ⟨rfl, rfl, rfl, by decide +kernel, rfl, by decide +kernel, by decide +kernel⟩
theorem bi_plan_with_menu : BindsAll "plan_with_menu" s_plan_with_menu ["history", "target"] := fun _ _ _ _ _ _ us hl => match us, hl with | [_, _], _ => rfl
abbrev s_distance_with_menu : Stmt := topS 27
theorem sc_distance_with_menu : FnScope N_distance_with_menu ["history", "target"] (defScope s_distance_with_menu) := ⟨rfl, rfl, rfl, by decide +kernel, rfl, by decide +kernel, by decide +kernel⟩
theorem bi_distance_with_menu : BindsAll "distance_with_menu" s_distance_with_menu ["history", "target"] := fun _ _ _ _ _ _ us hl => match us, hl with | [_, _], _ => rfl
theorem bk_distance_with_menu : BindsAllK "distance_with_menu" s_distance_with_menu ["history", "target"] := fun _ _ _ _ _ _ us hl => match us, hl with | [_, _], _ => rfl
abbrev s__law_first_right : Stmt := topS 46
theorem sc__law_first_right : FnScope N__law_first_right ["page"] (defScope s__law_first_right) := ⟨rfl, rfl, rfl, by decide +kernel, rfl, by decide +kernel, by decide +kernel⟩
theorem bi__law_first_right : BindsAll "_law_first_right" s__law_first_right ["page"] := fun _ _ _ _ _ _ us hl => match us, hl with | [_], _ => rfl
abbrev s_steps : Stmt := topS 35
theorem sc_steps : FnScope N_steps ["history", "sighting"] (defScope s_steps) := ⟨rfl, rfl, rfl, by decide +kernel, rfl, by decide +kernel, by decide +kernel⟩
theorem bi_steps : BindsAll "steps" s_steps ["history", "sighting"] := fun _ _ _ _ _ _ us hl => match us, hl with | [_, _], _ => rfl
abbrev s_count_from : Stmt := topS 36
theorem sc_count_from : FnScope N_count_from ["history", "sightings", "known"] (defScope s_count_from) := ⟨rfl, rfl, rfl, by decide +kernel, rfl, by decide +kernel, by decide +kernel⟩
theorem bi_count_from : BindsAll "count_from" s_count_from ["history", "sightings", "known"] := fun _ _ _ _ _ _ us hl => match us, hl with | [_, _, _], _ => rfl
abbrev s_sure_actions : Stmt := topS 39
theorem sc_sure_actions : FnScope N_sure_actions ["history", "sightings"] (defScope s_sure_actions) := ⟨rfl, rfl, rfl, by decide +kernel, rfl, by decide +kernel, by decide +kernel⟩
theorem bi_sure_actions : BindsAll "sure_actions" s_sure_actions ["history", "sightings"] := fun _ _ _ _ _ _ us hl => match us, hl with | [_, _], _ => rfl
theorem bk_sure_actions : BindsAllK "sure_actions" s_sure_actions ["history", "sightings"] := fun _ _ _ _ _ _ us hl => match us, hl with | [_, _], _ => rfl
abbrev s_fewest_to_sighting : Stmt := topS 40
theorem sc_fewest_to_sighting : FnScope N_fewest_to_sighting ["history", "sighting"] (defScope s_fewest_to_sighting) := ⟨rfl, rfl, rfl, by decide +kernel, rfl, by decide +kernel, by decide +kernel⟩
theorem bi_fewest_to_sighting : BindsAll "fewest_to_sighting" s_fewest_to_sighting ["history", "sighting"] := fun _ _ _ _ _ _ us hl => match us, hl with | [_, _], _ => rfl
theorem bk_fewest_to_sighting : BindsAllK "fewest_to_sighting" s_fewest_to_sighting ["history", "sighting"] := fun _ _ _ _ _ _ us hl => match us, hl with | [_, _], _ => rfl
abbrev s_count_actions : Stmt := topS 29
theorem sc_count_actions : FnScope N_count_actions ["script", "word"] (defScope s_count_actions) := ⟨rfl, rfl, rfl, by decide +kernel, rfl, by decide +kernel, by decide +kernel⟩
theorem bi_count_actions : BindsAll "count_actions" s_count_actions ["script", "word"] := fun _ _ _ _ _ _ us hl => match us, hl with | [_, _], _ => rfl
abbrev s_differs : Stmt := topS 30
theorem sc_differs : FnScope N_differs ["first", "second", "behind", "ahead"] (defScope s_differs) := ⟨rfl, rfl, rfl, by decide +kernel, rfl, by decide +kernel, by decide +kernel⟩
theorem bi_differs : BindsAll "differs" s_differs ["first", "second", "behind", "ahead"] := fun _ _ _ _ _ _ us hl => match us, hl with | [_, _, _, _], _ => rfl
abbrev s_difference : Stmt := topS 31
theorem sc_difference : FnScope N_difference ["first", "second"] (defScope s_difference) := ⟨rfl, rfl, rfl, by decide +kernel, rfl, by decide +kernel, by decide +kernel⟩
theorem bi_difference : BindsAll "difference" s_difference ["first", "second"] := fun _ _ _ _ _ _ us hl => match us, hl with | [_, _], _ => rfl
theorem bk_difference : BindsAllK "difference" s_difference ["first", "second"] := fun _ _ _ _ _ _ us hl => match us, hl with | [_, _], _ => rfl
abbrev s_equal : Stmt := topS 32
theorem sc_equal : FnScope N_equal ["first", "second"] (defScope s_equal) := ⟨rfl, rfl, rfl, by decide +kernel, rfl, by decide +kernel, by decide +kernel⟩
theorem bi_equal : BindsAll "equal" s_equal ["first", "second"] := fun _ _ _ _ _ _ us hl => match us, hl with | [_, _], _ => rfl
theorem bk_equal : BindsAllK "equal" s_equal ["first", "second"] := fun _ _ _ _ _ _ us hl => match us, hl with | [_, _], _ => rfl
abbrev s_redundant_steps : Stmt := topS 33
theorem sc_redundant_steps : FnScope N_redundant_steps ["script"] (defScope s_redundant_steps) := ⟨rfl, rfl, rfl, by decide +kernel, rfl, by decide +kernel, by decide +kernel⟩
theorem bi_redundant_steps : BindsAll "redundant_steps" s_redundant_steps ["script"] := fun _ _ _ _ _ _ us hl => match us, hl with | [_], _ => rfl
theorem bk_redundant_steps : BindsAllK "redundant_steps" s_redundant_steps ["script"] := fun _ _ _ _ _ _ us hl => match us, hl with | [_], _ => rfl
abbrev s_count_explanations : Stmt := topS 37
theorem sc_count_explanations : FnScope N_count_explanations ["history", "sightings"] (defScope s_count_explanations) := ⟨rfl, rfl, rfl, by decide +kernel, rfl, by decide +kernel, by decide +kernel⟩
theorem bi_count_explanations : BindsAll "count_explanations" s_count_explanations ["history", "sightings"] := fun _ _ _ _ _ _ us hl => match us, hl with | [_, _], _ => rfl
theorem bk_count_explanations : BindsAllK "count_explanations" s_count_explanations ["history", "sightings"] := fun _ _ _ _ _ _ us hl => match us, hl with | [_, _], _ => rfl
abbrev s_explanation_at : Stmt := topS 38
theorem sc_explanation_at : FnScope N_explanation_at ["history", "sightings", "number"] (defScope s_explanation_at) := ⟨rfl, rfl, rfl, by decide +kernel, rfl, by decide +kernel, by decide +kernel⟩
theorem bi_explanation_at : BindsAll "explanation_at" s_explanation_at ["history", "sightings", "number"] := fun _ _ _ _ _ _ us hl => match us, hl with | [_, _, _], _ => rfl
theorem bk_explanation_at : BindsAllK "explanation_at" s_explanation_at ["history", "sightings", "number"] := fun _ _ _ _ _ _ us hl => match us, hl with | [_, _, _], _ => rfl
abbrev s__law_second_right : Stmt := topS 47
theorem sc__law_second_right : FnScope N__law_second_right ["page"] (defScope s__law_second_right) := ⟨rfl, rfl, rfl, by decide +kernel, rfl, by decide +kernel, by decide +kernel⟩
theorem bi__law_second_right : BindsAll "_law_second_right" s__law_second_right ["page"] := fun _ _ _ _ _ _ us hl => match us, hl with | [_], _ => rfl
abbrev s_common_beginning : Stmt := topS 19
theorem sc_common_beginning : FnScope N_common_beginning ["one", "other"] (defScope s_common_beginning) := ⟨rfl, rfl, rfl, by decide +kernel, rfl, by decide +kernel, by decide +kernel⟩
theorem bi_common_beginning : BindsAll "common_beginning" s_common_beginning ["one", "other"] := fun _ _ _ _ _ _ us hl => match us, hl with | [_, _], _ => rfl
theorem bk_common_beginning : BindsAllK "common_beginning" s_common_beginning ["one", "other"] := fun _ _ _ _ _ _ us hl => match us, hl with | [_, _], _ => rfl
abbrev s_best_start : Stmt := topS 20
theorem sc_best_start : FnScope N_best_start ["one", "other"] (defScope s_best_start) := ⟨rfl, rfl, rfl, by decide +kernel, rfl, by decide +kernel, by decide +kernel⟩
theorem bi_best_start : BindsAll "best_start" s_best_start ["one", "other"] := fun _ _ _ _ _ _ us hl => match us, hl with | [_, _], _ => rfl
abbrev s_fewest_since_copy : Stmt := topS 21
theorem sc_fewest_since_copy : FnScope N_fewest_since_copy ["one", "other"] (defScope s_fewest_since_copy) := ⟨rfl, rfl, rfl, by decide +kernel, rfl, by decide +kernel, by decide +kernel⟩
theorem bi_fewest_since_copy : BindsAll "fewest_since_copy" s_fewest_since_copy ["one", "other"] := fun _ _ _ _ _ _ us hl => match us, hl with | [_, _], _ => rfl
theorem bk_fewest_since_copy : BindsAllK "fewest_since_copy" s_fewest_since_copy ["one", "other"] := fun _ _ _ _ _ _ us hl => match us, hl with | [_, _], _ => rfl
abbrev s_copy_point : Stmt := topS 22
theorem sc_copy_point : FnScope N_copy_point ["one", "other"] (defScope s_copy_point) := ⟨rfl, rfl, rfl, by decide +kernel, rfl, by decide +kernel, by decide +kernel⟩
theorem bi_copy_point : BindsAll "copy_point" s_copy_point ["one", "other"] := fun _ _ _ _ _ _ us hl => match us, hl with | [_, _], _ => rfl
theorem bk_copy_point : BindsAllK "copy_point" s_copy_point ["one", "other"] := fun _ _ _ _ _ _ us hl => match us, hl with | [_, _], _ => rfl
abbrev s_run : Stmt := topS 7
theorem sc_run : FnScope N_run ["history", "script", "cap"] (defScope s_run) := ⟨rfl, rfl, rfl, by decide +kernel, rfl, by decide +kernel, by decide +kernel⟩
theorem bi_run : BindsAll "run" s_run ["history", "script", "cap"] := fun _ _ _ _ _ _ us hl => match us, hl with | [_, _, _], _ => rfl
abbrev s_apply_capped : Stmt := topS 8
theorem sc_apply_capped : FnScope N_apply_capped ["history", "script", "cap"] (defScope s_apply_capped) := ⟨rfl, rfl, rfl, by decide +kernel, rfl, by decide +kernel, by decide +kernel⟩
theorem bi_apply_capped : BindsAll "apply_capped" s_apply_capped ["history", "script", "cap"] := fun _ _ _ _ _ _ us hl => match us, hl with | [_, _, _], _ => rfl
theorem bk_apply_capped : BindsAllK "apply_capped" s_apply_capped ["history", "script", "cap"] := fun _ _ _ _ _ _ us hl => match us, hl with | [_, _, _], _ => rfl
abbrev s_dropped : Stmt := topS 9
theorem sc_dropped : FnScope N_dropped ["history", "script", "cap"] (defScope s_dropped) := ⟨rfl, rfl, rfl, by decide +kernel, rfl, by decide +kernel, by decide +kernel⟩
theorem bi_dropped : BindsAll "dropped" s_dropped ["history", "script", "cap"] := fun _ _ _ _ _ _ us hl => match us, hl with | [_, _, _], _ => rfl
theorem bk_dropped : BindsAllK "dropped" s_dropped ["history", "script", "cap"] := fun _ _ _ _ _ _ us hl => match us, hl with | [_, _, _], _ => rfl
abbrev s_caps_for : Stmt := topS 10
theorem sc_caps_for : FnScope N_caps_for ["history", "script", "result"] (defScope s_caps_for) := ⟨rfl, rfl, rfl, by decide +kernel, rfl, by decide +kernel, by decide +kernel⟩
theorem bi_caps_for : BindsAll "caps_for" s_caps_for ["history", "script", "result"] := fun _ _ _ _ _ _ us hl => match us, hl with | [_, _, _], _ => rfl
theorem bk_caps_for : BindsAllK "caps_for" s_caps_for ["history", "script", "result"] := fun _ _ _ _ _ _ us hl => match us, hl with | [_, _, _], _ => rfl
abbrev s_hidden_actions : Stmt := topS 42
theorem sc_hidden_actions : FnScope N_hidden_actions ["history", "script", "position", "result"] (defScope s_hidden_actions) := ⟨rfl, rfl, rfl, by decide +kernel, rfl, by decide +kernel, by decide +kernel⟩
theorem bi_hidden_actions : BindsAll "hidden_actions" s_hidden_actions ["history", "script", "position", "result"] := fun _ _ _ _ _ _ us hl => match us, hl with | [_, _, _, _], _ => rfl
theorem bk_hidden_actions : BindsAllK "hidden_actions" s_hidden_actions ["history", "script", "position", "result"] := fun _ _ _ _ _ _ us hl => match us, hl with | [_, _, _, _], _ => rfl
abbrev s_places_for : Stmt := topS 43
theorem sc_places_for : FnScope N_places_for ["pages", "script", "result"] (defScope s_places_for) := ⟨rfl, rfl, rfl, by decide +kernel, rfl, by decide +kernel, by decide +kernel⟩
theorem bi_places_for : BindsAll "places_for" s_places_for ["pages", "script", "result"] := fun _ _ _ _ _ _ us hl => match us, hl with | [_, _, _], _ => rfl
theorem bk_places_for : BindsAllK "places_for" s_places_for ["pages", "script", "result"] := fun _ _ _ _ _ _ us hl => match us, hl with | [_, _, _], _ => rfl
abbrev s__law_third_right : Stmt := topS 48
theorem sc__law_third_right : FnScope N__law_third_right ["page"] (defScope s__law_third_right) := ⟨rfl, rfl, rfl, by decide +kernel, rfl, by decide +kernel, by decide +kernel⟩
theorem bi__law_third_right : BindsAll "_law_third_right" s__law_third_right ["page"] := fun _ _ _ _ _ _ us hl => match us, hl with | [_], _ => rfl
abbrev s_law : Stmt := topS 49
theorem sc_law : FnScope N_law_k22 ["my_script"] (defScope s_law) := ⟨rfl, rfl, rfl, by decide +kernel, rfl, by decide +kernel, by decide +kernel⟩
theorem bi_law : BindsAll "law" s_law ["my_script"] := fun _ _ _ _ _ _ us hl => match us, hl with | [_], _ => rfl
section
variable {P : Program} {w : World} {K : PySem.W.Frag} {mg : Str → Option Value} {base : Heap}
theorem kn__law_draw (D : DefAt K mg "_law_draw" s__law_draw) (z_len : mg "len" = none) : Known P w K mg base 1 "_law_draw" ["tape", "many"] F__law_draw :=
  known D sc__law_draw bi__law_draw keeps__law_draw fun f cdv A outer s H E hr =>
  (ss_cons (s_set 2 sc__law_draw.nd r_int)
  (ss_cons (s_if (t_cmp op_lt l_lt (r_ix ix_seq l_ix (r_var 0) r_int) (r_var 1) (nomark _)) (ss_cons (s_set 3 sc__law_draw.nd r_int)
  (ss_cons (s_if (t_cmp op_gt l_gt (r_callB call_len_seq n_len (by rfl) z_len (by decide +kernel) (a_cons (r_ix ix_seq l_ix (r_var 0) r_int) a_nil)) r_int (nomark _)) (ss_one (s_set 3 sc__law_draw.nd (r_ix ix_seq l_ix (r_ix ix_seq l_ix (r_var 0) r_int) (r_op op_mod l_mod (r_ix ix_seq l_ix (r_var 0) r_int) (r_callB call_len_seq n_len (by rfl) z_len (by decide +kernel) (a_cons (r_ix ix_seq l_ix (r_var 0) r_int) a_nil)))))) ss_nil)
  (ss_cons (s_if (t_w (w_or (t_cmp op_ge l_ge (r_ix ix_seq l_ix (r_var 0) r_int) (r_callB call_len_seq n_len (by rfl) z_len (by decide +kernel) (a_cons (r_ix ix_seq l_ix (r_var 0) r_int) a_nil)) (nomark _)) (w_one (t_cmp op_lt l_lt (r_var 3) (r_op op_pow l_pow r_int r_int) (nomark _))))) (ss_cons (s_set 3 sc__law_draw.nd (r_op op_mod l_mod (r_op o_add l_add (r_var 3) (r_op op_mul l_mul r_int (r_ix ix_seq l_ix (r_var 0) r_int))) (r_var 2)))
  (ss_cons (s_set 3 sc__law_draw.nd (r_op op_mod l_mod (r_op o_add l_add (r_op o_add l_add (r_op op_mul l_mul (r_var 3) (r_var 3)) (r_op op_mul l_mul r_int (r_var 3))) r_int) (r_var 2)))
  (ss_one (s_set 3 sc__law_draw.nd (r_op op_mod l_mod (r_op o_add l_add (r_op op_mul l_mul (r_var 3) (r_var 3)) r_int) (r_var 2)))))) ss_nil)
  (ss_cons (s_put set_list p_lst (r_op o_add l_add (r_ix ix_seq l_ix (r_var 0) r_int) r_int) (r_var 0) r_int)
  (ss_one (s_put set_list p_lst (r_var 3) (r_var 0) r_int)))))) ss_nil)
  (ss_cons (s_set 4 sc__law_draw.nd (r_op op_mod l_mod (r_ix ix_seq l_ix (r_var 0) r_int) (r_var 1)))
  (ss_cons (s_put set_list p_lst (r_op op_fdivW l_div (r_ix ix_seq l_ix (r_var 0) r_int) (r_var 1)) (r_var 0) r_int)
  (ss_one (s_ret (r_var 4)))))))
theorem kn_common (D : DefAt K mg "common" s_common) (z_min : mg "min" = none) (z_len : mg "len" = none) : Known P w K mg base 1 "common" ["one", "other"] F_common :=
  known D sc_common bi_common keeps_common fun f cdv A outer s H E hr =>
  (ss_cons (s_set 2 sc_common.nd r_int)
  (ss_cons (s_while 1000 (t_w (w_and (t_cmp op_lt l_lt (r_var 2) (r_callB (call_min2 rfl) n_min (by rfl) z_min (by decide +kernel) (a_cons (r_callB call_len_seq n_len (by rfl) z_len (by decide +kernel) (a_cons (r_var 0) a_nil)) (a_cons (r_callB call_len_seq n_len (by rfl) z_len (by decide +kernel) (a_cons (r_var 1) a_nil)) a_nil))) (nomark _)) (w_one (t_cmp (op_eqD (hu64 hr)) l_eq (r_ix ix_seq l_ix (r_var 0) (r_var 2)) (r_ix ix_seq l_ix (r_var 1) (r_var 2)) (nomark _))))) (ss_one (s_aug 2 sc_common.nd iop_add l_iadd r_int)))
  (ss_one (s_ret (r_var 2)))))
theorem kn_kept_pages (D : DefAt K mg "kept_pages" s_kept_pages) (G_common : Known P w K mg base 1 "common" ["one", "other"] F_common) (z_min : mg "min" = none) (z_len : mg "len" = none) : Known P w K mg base 2 "kept_pages" ["history", "target"] F_kept_pages :=
  known D sc_kept_pages bi_kept_pages keeps_kept_pages fun f cdv A outer s H E hr =>
  (ss_one (s_ret (r_callB (call_min2 rfl) n_min (by rfl) z_min (by decide +kernel) (a_cons (r_callK G_common (hr.mono (by decide)) (by rfl) (a_cons (r_ix ix_seq l_ix (r_var 0) r_int) (a_cons (r_ix ix_seq l_ix (r_var 1) r_int) a_nil))) (a_cons (r_op op_sub l_sub (r_callB call_len_seq n_len (by rfl) z_len (by decide +kernel) (a_cons (r_ix ix_seq l_ix (r_var 1) r_int) a_nil)) r_int) a_nil)))))
theorem knB_distance (D : DefAt K mg "distance" s_distance) (G_kept_pages : Known P w K mg base 2 "kept_pages" ["history", "target"] F_kept_pages) (z_abs : mg "abs" = none) (z_min : mg "min" = none) (z_len : mg "len" = none) : KnownB P w K mg base 3 "distance" ["history", "target"] F_distance :=
  knownB D sc_distance bi_distance bk_distance keeps_distance fun f cdv A outer s H E hr =>
  (ss_cons (s_asg (r_tup (a_cons (r_var 0) (a_cons (r_var 1) a_nil))) (g_tup rfl (gs_cons (g_tup rfl (gs_cons (g_name 2 sc_distance.nd) (gs_cons (g_name 3 sc_distance.nd) gs_nil))) (gs_cons (g_tup rfl (gs_cons (g_name 4 sc_distance.nd) (gs_cons (g_name 5 sc_distance.nd) gs_nil))) gs_nil))))
  (ss_cons (s_if (t_cmp (op_eqD (hu64 hr)) l_eq (r_var 2) (r_var 4) (nomark _)) (ss_one (s_ret (r_callB call_abs n_abs (by rfl) z_abs (by decide +kernel) (a_cons (r_op op_sub l_sub (r_var 3) (r_var 5)) a_nil)))) ss_nil)
  (ss_cons (s_set 6 sc_distance.nd (r_callK G_kept_pages (hr.mono (by decide)) (by rfl) (a_cons (r_var 0) (a_cons (r_var 1) a_nil))))
  (ss_cons (s_if (t_cmp (op_eqD (hu64 hr)) l_eq (r_var 6) r_int (nomark _)) (ss_one (s_ret r_non)) ss_nil)
  (ss_one (s_ret (r_op op_sub l_sub (r_op op_sub l_sub (r_op o_add l_add (r_op op_sub l_sub (r_op op_sub l_sub (r_op o_add l_add (r_callB call_abs n_abs (by rfl) z_abs (by decide +kernel) (a_cons (r_op op_sub l_sub (r_callB (call_min2 rfl) n_min (by rfl) z_min (by decide +kernel) (a_cons (r_var 3) (a_cons (r_op op_sub l_sub (r_var 6) r_int) a_nil))) (r_var 3)) a_nil)) (r_callB call_len_seq n_len (by rfl) z_len (by decide +kernel) (a_cons (r_var 4) a_nil))) r_int) (r_callB (call_min2 rfl) n_min (by rfl) z_min (by decide +kernel) (a_cons (r_var 3) (a_cons (r_op op_sub l_sub (r_var 6) r_int) a_nil)))) (r_callB call_len_seq n_len (by rfl) z_len (by decide +kernel) (a_cons (r_var 4) a_nil))) r_int) (r_var 5))))))))
theorem kn_most_forward (D : DefAt K mg "most_forward" s_most_forward) (G_kept_pages : Known P w K mg base 2 "kept_pages" ["history", "target"] F_kept_pages) (z_max : mg "max" = none) : Known P w K mg base 3 "most_forward" ["history", "target"] F_most_forward :=
  known D sc_most_forward bi_most_forward keeps_most_forward fun f cdv A outer s H E hr =>
  (ss_cons (s_asg (r_tup (a_cons (r_var 0) (a_cons (r_var 1) a_nil))) (g_tup rfl (gs_cons (g_tup rfl (gs_cons (g_name 2 sc_most_forward.nd) (gs_cons (g_name 3 sc_most_forward.nd) gs_nil))) (gs_cons (g_tup rfl (gs_cons (g_name 4 sc_most_forward.nd) (gs_cons (g_name 5 sc_most_forward.nd) gs_nil))) gs_nil))))
  (ss_cons (s_if (t_cmp (op_eqD (hu64 hr)) l_eq (r_var 2) (r_var 4) (nomark _)) (ss_one (s_ret (r_callB (call_max2 rfl) n_max (by rfl) z_max (by decide +kernel) (a_cons r_int (a_cons (r_op op_sub l_sub (r_var 5) (r_var 3)) a_nil))))) ss_nil)
  (ss_one (s_ret (r_callB (call_max2 rfl) n_max (by rfl) z_max (by decide +kernel) (a_cons r_int (a_cons (r_op op_sub l_sub (r_op op_sub l_sub (r_callK G_kept_pages (hr.mono (by decide)) (by rfl) (a_cons (r_var 0) (a_cons (r_var 1) a_nil))) r_int) (r_var 3)) a_nil)))))))
theorem knB_count_plans (D : DefAt K mg "count_plans" s_count_plans) (G_distance : Known P w K mg base 3 "distance" ["history", "target"] F_distance) (G_most_forward : Known P w K mg base 3 "most_forward" ["history", "target"] F_most_forward) (z_len : mg "len" = none) : KnownB P w K mg base 4 "count_plans" ["history", "target"] F_count_plans :=
  knownB D sc_count_plans bi_count_plans bk_count_plans keeps_count_plans fun f cdv A outer s H E hr =>
  (ss_cons (s_asg (r_tup (a_cons (r_var 0) (a_cons (r_var 1) a_nil))) (g_tup rfl (gs_cons (g_tup rfl (gs_cons (g_name 2 sc_count_plans.nd) (gs_cons (g_name 3 sc_count_plans.nd) gs_nil))) (gs_cons (g_tup rfl (gs_cons (g_name 4 sc_count_plans.nd) (gs_cons (g_name 5 sc_count_plans.nd) gs_nil))) gs_nil))))
  (ss_cons (s_if (t_isN (r_callK G_distance (hr.mono (by decide)) (by rfl) (a_cons (r_var 0) (a_cons (r_var 1) a_nil)))) (ss_one (s_ret r_int)) ss_nil)
  (ss_cons (s_if (t_w (w_and (t_cmp (op_eqD (hu64 hr)) l_eq (r_var 2) (r_var 4) (nomark _)) (w_one (t_not (t_chain op_lt l_lt (op_eqD (hu64 hr)) l_eq (r_var 3) (r_var 5) (r_op op_sub l_sub (r_callB call_len_seq n_len (by rfl) z_len (by decide +kernel) (a_cons (r_var 4) a_nil)) r_int)))))) (ss_one (s_ret r_int)) ss_nil)
  (ss_one (s_ret (r_op o_add l_add (r_callK G_most_forward (hr.mono (by decide)) (by rfl) (a_cons (r_var 0) (a_cons (r_var 1) a_nil))) r_int))))))
theorem knB_plan_at (D : DefAt K mg "plan_at" s_plan_at) (G_count_plans : Known P w K mg base 4 "count_plans" ["history", "target"] F_count_plans) (G_most_forward : Known P w K mg base 3 "most_forward" ["history", "target"] F_most_forward) (G_kept_pages : Known P w K mg base 2 "kept_pages" ["history", "target"] F_kept_pages) (z_max : mg "max" = none) (z_tuple : mg "tuple" = none) (z_len : mg "len" = none) : KnownB P w K mg base 5 "plan_at" ["history", "target", "number"] F_plan_at :=
  knownB D sc_plan_at bi_plan_at bk_plan_at keeps_plan_at fun f cdv A outer s H E hr =>
  (ss_cons (s_if (t_cmp op_ge l_ge (r_var 2) (r_callK G_count_plans (hr.mono (by decide)) (by rfl) (a_cons (r_var 0) (a_cons (r_var 1) a_nil))) (nomark _)) (ss_one (s_ret r_non)) ss_nil)
  (ss_cons (s_asg (r_tup (a_cons (r_var 0) (a_cons (r_var 1) a_nil))) (g_tup rfl (gs_cons (g_tup rfl (gs_cons (g_name 3 sc_plan_at.nd) (gs_cons (g_name 4 sc_plan_at.nd) gs_nil))) (gs_cons (g_tup rfl (gs_cons (g_name 5 sc_plan_at.nd) (gs_cons (g_name 6 sc_plan_at.nd) gs_nil))) gs_nil))))
  (ss_cons (s_set 7 sc_plan_at.nd (r_op op_sub l_sub (r_callK G_most_forward (hr.mono (by decide)) (by rfl) (a_cons (r_var 0) (a_cons (r_var 1) a_nil))) (r_var 2)))
  (ss_cons (s_if (t_w (w_and (t_cmp (op_eqD (hu64 hr)) l_eq (r_var 3) (r_var 5) (nomark _)) (w_one (t_cmp (op_eqD (hu64 hr)) l_eq (r_var 2) r_int (nomark _))))) (ss_one (s_ret (r_op o_add l_add (r_op op_repA l_rep (r_tup (a_cons (r_tup (a_cons r_str a_nil)) a_nil)) (r_var 7)) (r_op op_repA l_rep (r_tup (a_cons (r_tup (a_cons r_str a_nil)) a_nil)) (r_callB (call_max2 rfl) n_max (by rfl) z_max (by decide +kernel) (a_cons r_int (a_cons (r_op op_sub l_sub (r_var 4) (r_var 6)) a_nil))))))) ss_nil)
  (ss_cons (s_set 8 sc_plan_at.nd (r_if (t_cmp (op_neD (hu64 hr)) l_ne (r_var 3) (r_var 5) (nomark _)) (r_callB (call_max2 rfl) n_max (by rfl) z_max (by decide +kernel) (a_cons r_int (a_cons (r_op o_add l_add (r_op op_sub l_sub (r_var 4) (r_callK G_kept_pages (hr.mono (by decide)) (by rfl) (a_cons (r_var 0) (a_cons (r_var 1) a_nil)))) r_int) a_nil))) r_int))
  (ss_cons (s_set 9 sc_plan_at.nd (r_callTy call_tuple_of n_tuple (by rfl) z_tuple (by decide +kernel) (a_cons (r_lc (own := [("page", 10)]) sc_plan_at.nd (i_tup (r_sl o_sl l_sl (r_var 5) (o_some (r_op o_add l_add (r_op o_add l_add (r_op op_sub l_sub (r_var 4) (r_var 8)) (r_var 7)) r_int)) o_none)) (by kernel_rfl) (fun _ _ _ _ _ => (gw_name 10 sc_plan_at.nd)) (fun _ _ _ _ _ => ts_nil) (fun _ _ _ _ _ => (r_tup (a_cons r_str (a_cons (r_var 10) a_nil))))) a_nil)))
  (ss_one (s_ret (r_op o_add l_add (r_op o_add l_add (r_op o_add l_add (r_op op_repA l_rep (r_tup (a_cons (r_tup (a_cons r_str a_nil)) a_nil)) (r_var 8)) (r_op op_repA l_rep (r_tup (a_cons (r_tup (a_cons r_str a_nil)) a_nil)) (r_var 7))) (r_var 9)) (r_op op_repA l_rep (r_tup (a_cons (r_tup (a_cons r_str a_nil)) a_nil)) (r_op op_sub l_sub (r_op op_sub l_sub (r_callB call_len_seq n_len (by rfl) z_len (by decide +kernel) (a_cons (r_var 5) a_nil)) r_int) (r_var 6))))))))))))
theorem kn_after (D : DefAt K mg "after" s_after) (z_max : mg "max" = none) (z_min : mg "min" = none) (z_len : mg "len" = none) : Known P w K mg base 1 "after" ["history", "action"] F_after :=
  known D sc_after bi_after keeps_after fun f cdv A outer s H E hr =>
  (ss_cons (s_asg (r_var 0) (g_tup rfl (gs_cons (g_name 2 sc_after.nd) (gs_cons (g_name 3 sc_after.nd) gs_nil))))
  (ss_cons (s_if (t_cmp (op_eqD (hu64 hr)) l_eq (r_ix ix_seq l_ix (r_var 1) r_int) r_str (nomark _)) (ss_one (s_ret (r_tup (a_cons (r_op o_add l_add (r_sl o_sl l_sl (r_var 2) o_none (o_some (r_op o_add l_add (r_var 3) r_int))) (r_tup (a_cons (r_ix ix_seq l_ix (r_var 1) r_int) a_nil))) (a_cons (r_op o_add l_add (r_var 3) r_int) a_nil))))) ss_nil)
  (ss_cons (s_if (t_cmp (op_eqD (hu64 hr)) l_eq (r_ix ix_seq l_ix (r_var 1) r_int) r_str (nomark _)) (ss_one (s_ret (r_tup (a_cons (r_var 2) (a_cons (r_callB (call_max2 rfl) n_max (by rfl) z_max (by decide +kernel) (a_cons r_int (a_cons (r_op op_sub l_sub (r_var 3) r_int) a_nil))) a_nil))))) ss_nil)
  (ss_one (s_ret (r_tup (a_cons (r_var 2) (a_cons (r_callB (call_min2 rfl) n_min (by rfl) z_min (by decide +kernel) (a_cons (r_op op_sub l_sub (r_callB call_len_seq n_len (by rfl) z_len (by decide +kernel) (a_cons (r_var 2) a_nil)) r_int) (a_cons (r_op o_add l_add (r_var 3) r_int) a_nil))) a_nil))))))))
theorem knB_apply (D : DefAt K mg "apply" s_apply) (G_after : Known P w K mg base 1 "after" ["history", "action"] F_after) : KnownB P w K mg base 2 "apply" ["history", "script"] F_apply :=
  knownB D sc_apply bi_apply bk_apply keeps_apply fun f cdv A outer s H E hr =>
  (ss_cons (s_for (i_tup (r_var 1)) (g_name 2 sc_apply.nd) (ss_one (s_set 0 sc_apply.nd (r_callK G_after (hr.mono (by decide)) (by rfl) (a_cons (r_var 0) (a_cons (r_var 2) a_nil))))))
  (ss_one (s_ret (r_var 0))))
theorem knB_sight (D : DefAt K mg "sight" s_sight) (z_len : mg "len" = none) : KnownB P w K mg base 1 "sight" ["history"] F_sight :=
  knownB D sc_sight bi_sight bk_sight keeps_sight fun f cdv A outer s H E hr =>
  (ss_cons (s_asg (r_var 0) (g_tup rfl (gs_cons (g_name 1 sc_sight.nd) (gs_cons (g_name 2 sc_sight.nd) gs_nil))))
  (ss_one (s_ret (r_tup (a_cons (r_ix ix_seq l_ix (r_var 1) (r_var 2)) (a_cons (r_cmp op_gt l_gt (r_var 2) r_int (nomark _)) (a_cons (r_cmp op_lt l_lt (r_var 2) (r_op op_sub l_sub (r_callB call_len_seq n_len (by rfl) z_len (by decide +kernel) (a_cons (r_var 1) a_nil)) r_int) (nomark _)) a_nil)))))))
theorem knB_trail (D : DefAt K mg "trail" s_trail) (G_sight : Known P w K mg base 1 "sight" ["history"] F_sight) (G_after : Known P w K mg base 1 "after" ["history", "action"] F_after) : KnownB P w K mg base 2 "trail" ["history", "script"] F_trail :=
  knownB D sc_trail bi_trail bk_trail keeps_trail fun f cdv A outer s H E hr =>
  (ss_cons (s_set 2 sc_trail.nd (r_lst (a_cons (r_callK G_sight (hr.mono (by decide)) (by rfl) (a_cons (r_var 0) a_nil)) a_nil)))
  (ss_cons (s_for (i_tup (r_var 1)) (g_name 3 sc_trail.nd) (ss_cons (s_set 0 sc_trail.nd (r_callK G_after (hr.mono (by decide)) (by rfl) (a_cons (r_var 0) (a_cons (r_var 3) a_nil))))
  (ss_one (s_expr (r_meth PySem.F.slot_list_append PySem.F.type_list_append mt_append m_append (r_var 2) (a_cons (r_callK G_sight (hr.mono (by decide)) (by rfl) (a_cons (r_var 0) a_nil)) a_nil))))))
  (ss_one (s_ret (r_var 2)))))
theorem knB_apply_with_menu (D : DefAt K mg "apply_with_menu" s_apply_with_menu) (G_after : Known P w K mg base 1 "after" ["history", "action"] F_after) (z_len : mg "len" = none) : KnownB P w K mg base 2 "apply_with_menu" ["history", "script"] F_apply_with_menu :=
  knownB D sc_apply_with_menu bi_apply_with_menu bk_apply_with_menu keeps_apply_with_menu fun f cdv A outer s H E hr =>
  (ss_cons (s_for (i_tup (r_var 1)) (g_name 2 sc_apply_with_menu.nd) (ss_one (s_if (t_cmp (op_neD (hu64 hr)) l_ne (r_ix ix_seq l_ix (r_var 2) r_int) r_str (nomark _)) (ss_one (s_set 0 sc_apply_with_menu.nd (r_callK G_after (hr.mono (by decide)) (by rfl) (a_cons (r_var 0) (a_cons (r_var 2) a_nil))))) (ss_one (s_if (t_cmp op_lt l_lt (r_ix ix_seq l_ix (r_var 2) r_int) (r_callB call_len_seq n_len (by rfl) z_len (by decide +kernel) (a_cons (r_ix ix_seq l_ix (r_var 0) r_int) a_nil)) (nomark _)) (ss_one (s_set 0 sc_apply_with_menu.nd (r_tup (a_cons (r_ix ix_seq l_ix (r_var 0) r_int) (a_cons (r_ix ix_seq l_ix (r_var 2) r_int) a_nil))))) ss_nil)))))
  (ss_one (s_ret (r_var 0))))
theorem kn_jump (D : DefAt K mg "jump" s_jump)  : Known P w K mg base 1 "jump" ["start", "end"] F_jump :=
  known D sc_jump bi_jump keeps_jump fun f cdv A outer s H E hr =>
  (ss_one (s_ret (r_if (t_cmp (op_neD (hu64 hr)) l_ne (r_var 0) (r_var 1) (nomark _)) (r_tup (a_cons (r_tup (a_cons r_str (a_cons (r_var 1) a_nil))) a_nil)) (r_tup a_nil))))
theorem kn_plan_with_menu (D : DefAt K mg "plan_with_menu" s_plan_with_menu) (G_jump : Known P w K mg base 1 "jump" ["start", "end"] F_jump) (G_kept_pages : Known P w K mg base 2 "kept_pages" ["history", "target"] F_kept_pages) (z_len : mg "len" = none) (z_min : mg "min" = none) (z_tuple : mg "tuple" = none) : Known P w K mg base 3 "plan_with_menu" ["history", "target"] F_plan_with_menu :=
  known D sc_plan_with_menu bi_plan_with_menu keeps_plan_with_menu fun f cdv A outer s H E hr =>
  (ss_cons (s_asg (r_tup (a_cons (r_var 0) (a_cons (r_var 1) a_nil))) (g_tup rfl (gs_cons (g_tup rfl (gs_cons (g_name 2 sc_plan_with_menu.nd) (gs_cons (g_name 3 sc_plan_with_menu.nd) gs_nil))) (gs_cons (g_tup rfl (gs_cons (g_name 4 sc_plan_with_menu.nd) (gs_cons (g_name 5 sc_plan_with_menu.nd) gs_nil))) gs_nil))))
  (ss_cons (s_if (t_cmp (op_eqD (hu64 hr)) l_eq (r_var 2) (r_var 4) (nomark _)) (ss_one (s_ret (r_callK G_jump (hr.mono (by decide)) (by rfl) (a_cons (r_var 3) (a_cons (r_var 5) a_nil))))) ss_nil)
  (ss_cons (s_par2 6 7 rfl sc_plan_with_menu.nd (a_cons (r_callK G_kept_pages (hr.mono (by decide)) (by rfl) (a_cons (r_var 0) (a_cons (r_var 1) a_nil))) (a_cons (r_op op_sub l_sub (r_callB call_len_seq n_len (by rfl) z_len (by decide +kernel) (a_cons (r_var 4) a_nil)) r_int) a_nil)))
  (ss_cons (s_if (t_cmp (op_eqD (hu64 hr)) l_eq (r_var 6) r_int (nomark _)) (ss_one (s_ret r_non)) ss_nil)
  (ss_cons (s_set 8 sc_plan_with_menu.nd (r_lst a_nil))
  (ss_cons (s_for (i_lst (r_lst (a_cons (r_op op_sub l_sub (r_var 6) r_int) (a_cons (r_callB (call_min2 rfl) n_min (by rfl) z_min (by decide +kernel) (a_cons (r_var 3) (a_cons (r_op op_sub l_sub (r_var 6) r_int) a_nil))) a_nil)))) (g_name 9 sc_plan_with_menu.nd) (ss_cons (s_set 10 sc_plan_with_menu.nd (r_callTy call_tuple_of n_tuple (by rfl) z_tuple (by decide +kernel) (a_cons (r_lc (own := [("page", 11)]) sc_plan_with_menu.nd (i_tup (r_sl o_sl l_sl (r_var 4) (o_some (r_op o_add l_add (r_var 9) r_int)) o_none)) (by kernel_rfl) (fun _ _ _ _ _ => (gw_name 11 sc_plan_with_menu.nd)) (fun _ _ _ _ _ => ts_nil) (fun _ _ _ _ _ => (r_tup (a_cons r_str (a_cons (r_var 11) a_nil))))) a_nil)))
  (ss_one (s_expr (r_meth PySem.F.slot_list_append PySem.F.type_list_append mt_append m_append (r_var 8) (a_cons (r_op o_add l_add (r_op o_add l_add (r_callK G_jump (hr.mono (by decide)) (by rfl) (a_cons (r_var 3) (a_cons (r_var 9) a_nil))) (r_var 10)) (r_callK G_jump (hr.mono (by decide)) (by rfl) (a_cons (r_var 7) (a_cons (r_var 5) a_nil)))) a_nil))))))
  (ss_one (s_ret (r_if (t_cmp op_le l_le (r_callB call_len_seq n_len (by rfl) z_len (by decide +kernel) (a_cons (r_ix ix_seq l_ix (r_var 8) r_int) a_nil)) (r_callB call_len_seq n_len (by rfl) z_len (by decide +kernel) (a_cons (r_ix ix_seq l_ix (r_var 8) r_int) a_nil)) (nomark _)) (r_ix ix_seq l_ix (r_var 8) r_int) (r_ix ix_seq l_ix (r_var 8) r_int))))))))))
theorem knB_distance_with_menu (D : DefAt K mg "distance_with_menu" s_distance_with_menu) (G_plan_with_menu : Known P w K mg base 3 "plan_with_menu" ["history", "target"] F_plan_with_menu) (z_len : mg "len" = none) : KnownB P w K mg base 4 "distance_with_menu" ["history", "target"] F_distance_with_menu :=
  knownB D sc_distance_with_menu bi_distance_with_menu bk_distance_with_menu keeps_distance_with_menu fun f cdv A outer s H E hr =>
  (ss_cons (s_set 2 sc_distance_with_menu.nd (r_callK G_plan_with_menu (hr.mono (by decide)) (by rfl) (a_cons (r_var 0) (a_cons (r_var 1) a_nil))))
  (ss_one (s_ret (r_if (t_notN (r_var 2)) (r_callB call_len_seq n_len (by rfl) z_len (by decide +kernel) (a_cons (r_var 2) a_nil)) r_non))))
theorem kn__law_first_right (D : DefAt K mg "_law_first_right" s__law_first_right) (G_plan_at : Known P w K mg base 5 "plan_at" ["history", "target", "number"] F_plan_at) (G_distance : Known P w K mg base 3 "distance" ["history", "target"] F_distance) (W_apply : KnownB P w K mg base 2 "apply" ["history", "script"] F_apply) (W_trail : KnownB P w K mg base 2 "trail" ["history", "script"] F_trail) (W_sight : KnownB P w K mg base 1 "sight" ["history"] F_sight) (W_distance : KnownB P w K mg base 3 "distance" ["history", "target"] F_distance) (W_count_plans : KnownB P w K mg base 4 "count_plans" ["history", "target"] F_count_plans) (W_plan_at : KnownB P w K mg base 5 "plan_at" ["history", "target", "number"] F_plan_at) (W_apply_with_menu : KnownB P w K mg base 2 "apply_with_menu" ["history", "script"] F_apply_with_menu) (W_distance_with_menu : KnownB P w K mg base 4 "distance_with_menu" ["history", "target"] F_distance_with_menu) : Known P w K mg base 6 "_law_first_right" ["page"] F__law_first_right :=
  known D sc__law_first_right bi__law_first_right keeps__law_first_right fun f cdv A outer s H E hr =>
  (ss_cons (s_set 1 sc__law_first_right.nd (r_tup (a_cons (r_tup (a_cons r_str (a_cons r_str (a_cons (r_var 0) a_nil)))) (a_cons r_int a_nil))))
  (ss_cons (s_if (t_cmp (op_neD (hu64 hr)) l_ne (r_callW W_apply (hr.mono (by decide)) (by rfl) (k_cons (r_var 1) (k_cons (r_tup (a_cons (r_tup (a_cons r_str (a_cons r_str a_nil))) (a_cons (r_tup (a_cons r_str (a_cons r_str a_nil))) (a_cons (r_tup (a_cons r_str a_nil)) a_nil)))) k_nil))) (r_tup (a_cons (r_tup (a_cons r_str (a_cons r_str (a_cons r_str (a_cons r_str a_nil))))) (a_cons r_int a_nil))) (nomark _)) (ss_one (s_ret r_bl)) ss_nil)
  (ss_cons (s_set 2 sc__law_first_right.nd (r_lst (a_cons (r_tup (a_cons r_str (a_cons r_bl (a_cons r_bl a_nil)))) (a_cons (r_tup (a_cons r_str (a_cons r_bl (a_cons r_bl a_nil)))) (a_cons (r_tup (a_cons r_str (a_cons r_bl (a_cons r_bl a_nil)))) a_nil)))))
  (ss_cons (s_if (t_w (w_or (t_cmp (op_neD (hu64 hr)) l_ne (r_callW W_trail (hr.mono (by decide)) (by rfl) (k_cons (r_var 1) (k_cons (r_tup (a_cons (r_tup (a_cons r_str a_nil)) (a_cons (r_tup (a_cons r_str a_nil)) a_nil))) k_nil))) (r_var 2) (nomark _)) (w_one (t_cmp (op_neD (hu64 hr)) l_ne (r_callW W_sight (hr.mono (by decide)) (by rfl) (k_cons (r_var 1) k_nil)) (r_ix ix_seq l_ix (r_var 2) r_int) (nomark _))))) (ss_one (s_ret r_bl)) ss_nil)
  (ss_cons (s_par2 3 4 rfl sc__law_first_right.nd (a_cons (r_tup (a_cons (r_tup (a_cons r_str (a_cons r_str (a_cons (r_var 0) a_nil)))) (a_cons r_int a_nil))) (a_cons (r_tup (a_cons (r_tup (a_cons r_str (a_cons r_str (a_cons r_str a_nil)))) (a_cons r_int a_nil))) a_nil)))
  (ss_cons (s_if (t_w (w_or (t_cmp (op_neD (hu64 hr)) l_ne (r_callW W_distance (hr.mono (by decide)) (by rfl) (k_cons (r_var 3) (k_cons (r_var 4) k_nil))) r_int (nomark _)) (w_one (t_cmp (op_neD (hu64 hr)) l_ne (r_callW W_count_plans (hr.mono (by decide)) (by rfl) (k_cons (r_var 3) (k_cons (r_var 4) k_nil))) r_int (nomark _))))) (ss_one (s_ret r_bl)) ss_nil)
  (ss_cons (s_if (t_cmp (op_neD (hu64 hr)) l_ne (r_callW W_plan_at (hr.mono (by decide)) (by rfl) (k_cons (r_var 3) (k_cons (r_var 4) (k_cons r_int k_nil)))) (r_tup (a_cons (r_tup (a_cons r_str a_nil)) (a_cons (r_tup (a_cons r_str (a_cons r_str a_nil))) a_nil))) (nomark _)) (ss_one (s_ret r_bl)) ss_nil)
  (ss_cons (s_if (t_w (w_or (t_cmp (op_neD (hu64 hr)) l_ne (r_callK G_plan_at (hr.mono (by decide)) (by rfl) (a_cons (r_var 3) (a_cons (r_var 4) (a_cons r_int a_nil)))) (r_tup (a_cons (r_tup (a_cons r_str (a_cons r_str a_nil))) (a_cons (r_tup (a_cons r_str (a_cons r_str a_nil))) a_nil))) (nomark _)) (w_one (t_notN (r_callK G_plan_at (hr.mono (by decide)) (by rfl) (a_cons (r_var 3) (a_cons (r_var 4) (a_cons r_int a_nil)))))))) (ss_one (s_ret r_bl)) ss_nil)
  (ss_cons (s_if (t_w (w_or (t_cmp (op_neD (hu64 hr)) l_ne (r_callK G_distance (hr.mono (by decide)) (by rfl) (a_cons (r_tup (a_cons (r_tup (a_cons r_str (a_cons r_str (a_cons (r_var 0) a_nil)))) (a_cons r_int a_nil))) (a_cons (r_tup (a_cons (r_tup (a_cons r_str (a_cons r_str a_nil))) (a_cons r_int a_nil))) a_nil))) r_int (nomark _)) (w_one (t_notN (r_callK G_distance (hr.mono (by decide)) (by rfl) (a_cons (r_tup (a_cons (r_tup (a_cons r_str (a_cons r_str a_nil))) (a_cons r_int a_nil))) (a_cons (r_tup (a_cons (r_tup (a_cons r_str a_nil)) (a_cons r_int a_nil))) a_nil))))))) (ss_one (s_ret r_bl)) ss_nil)
  (ss_cons (s_set 5 sc__law_first_right.nd (r_tup (a_cons (r_tup (a_cons r_str (a_cons r_str (a_cons (r_var 0) (a_cons r_str (a_cons r_str a_nil)))))) (a_cons r_int a_nil))))
  (ss_cons (s_if (t_cmp (op_neD (hu64 hr)) l_ne (r_callW W_apply_with_menu (hr.mono (by decide)) (by rfl) (k_cons (r_var 5) (k_cons (r_tup (a_cons (r_tup (a_cons r_str (a_cons r_int a_nil))) (a_cons (r_tup (a_cons r_str a_nil)) a_nil))) k_nil))) (r_tup (a_cons (r_tup (a_cons r_str (a_cons r_str (a_cons (r_var 0) (a_cons r_str (a_cons r_str a_nil)))))) (a_cons r_int a_nil))) (nomark _)) (ss_one (s_ret r_bl)) ss_nil)
  (ss_one (s_ret (r_cmp (op_eqD (hu64 hr)) l_eq (r_callW W_distance_with_menu (hr.mono (by decide)) (by rfl) (k_cons (r_var 5) (k_cons (r_tup (a_cons (r_tup (a_cons r_str (a_cons r_str a_nil))) (a_cons r_int a_nil))) k_nil))) r_int (nomark _)))))))))))))))
theorem kn_steps (D : DefAt K mg "steps" s_steps) (G_after : Known P w K mg base 1 "after" ["history", "action"] F_after) (G_sight : Known P w K mg base 1 "sight" ["history"] F_sight) : Known P w K mg base 2 "steps" ["history", "sighting"] F_steps :=
  known D sc_steps bi_steps keeps_steps fun f cdv A outer s H E hr =>
  (ss_cons (s_set 2 sc_steps.nd (r_lst a_nil))
  (ss_cons (s_for (i_lst (r_lst (a_cons (r_tup (a_cons r_str a_nil)) (a_cons (r_tup (a_cons r_str a_nil)) (a_cons (r_tup (a_cons r_str (a_cons (r_ix ix_seq l_ix (r_var 1) r_int) a_nil))) a_nil))))) (g_name 3 sc_steps.nd) (ss_cons (s_set 4 sc_steps.nd (r_callK G_after (hr.mono (by decide)) (by rfl) (a_cons (r_var 0) (a_cons (r_var 3) a_nil))))
  (ss_one (s_if (t_w (w_and (t_cmp (op_neD (hu64 hr)) l_ne (r_var 4) (r_var 0) (nomark _)) (w_one (t_cmp (op_eqD (hu64 hr)) l_eq (r_callK G_sight (hr.mono (by decide)) (by rfl) (a_cons (r_var 4) a_nil)) (r_var 1) (nomark _))))) (ss_one (s_expr (r_meth PySem.F.slot_list_append PySem.F.type_list_append mt_append m_append (r_var 2) (a_cons (r_tup (a_cons (r_var 3) (a_cons (r_var 4) a_nil))) a_nil)))) ss_nil))))
  (ss_one (s_ret (r_var 2)))))
theorem kn_count_from (D : DefAt K mg "count_from" s_count_from) (G_steps : Known P w K mg base 2 "steps" ["history", "sighting"] F_steps) (z_len : mg "len" = none) (z_sum : mg "sum" = none) : ∀ d : Nat, Known P w K mg base (d + 3) "count_from" ["history", "sightings", "known"] (F_count_from d)
  | 0 => known0 D sc_count_from bi_count_from (fun ws M => F0_count_from ws M)
  | d + 1 => by
    have R := kn_count_from D G_steps z_len z_sum d
    exact known D sc_count_from bi_count_from (keeps_count_from d) fun f cdv A outer s H E hr =>
  (ss_cons (s_if (t_cmp (op_eqD (hu64 hr)) l_eq (r_var 1) (r_tup a_nil) (nomark _)) (ss_one (s_ret r_int)) ss_nil)
  (ss_cons (s_if (t_cmp (op_nnotin (hu64 hr)) l_notInN (r_tup (a_cons (r_var 0) (a_cons (r_callB call_len_seq n_len (by rfl) z_len (by decide +kernel) (a_cons (r_var 1) a_nil)) a_nil))) (r_var 2) (by rfl)) (ss_cons (s_set 3 sc_count_from.nd (r_callK G_steps (hr.mono (by omega)) (by rfl) (a_cons (r_var 0) (a_cons (r_ix ix_seq l_ix (r_var 1) r_int) a_nil))))
  (ss_one (s_put (o_nput (hu64 hr)) p_nput (r_callB (cr_sumW rfl) n_sumW (by rfl) z_sum (by decide +kernel) (a_cons (r_lc (own := [("action", 4), ("other", 5)]) sc_count_from.nd (i_lst (r_var 3)) (by kernel_rfl) (fun _ _ _ _ _ => (gw_tup rfl (gsw_cons (gw_name 4 sc_count_from.nd) (gsw_cons (gw_name 5 sc_count_from.nd) gsw_nil)))) (fun _ _ _ _ _ => ts_nil) (fun _ _ _ _ _ => (r_callK R (hr.mono (by omega)) (by rfl) (a_cons (r_var 5) (a_cons (r_sl o_sl l_sl (r_var 1) (o_some r_int) o_none) (a_cons (r_var 2) a_nil)))))) a_nil)) (r_var 2) (r_tup (a_cons (r_var 0) (a_cons (r_callB call_len_seq n_len (by rfl) z_len (by decide +kernel) (a_cons (r_var 1) a_nil)) a_nil)))))) ss_nil)
  (ss_one (s_ret (r_getN (hu64 hr) (r_var 2) (r_tup (a_cons (r_var 0) (a_cons (r_callB call_len_seq n_len (by rfl) z_len (by decide +kernel) (a_cons (r_var 1) a_nil)) a_nil))) (fun _ _ => rfl))))))
theorem knB_sure_actions (D : DefAt K mg "sure_actions" s_sure_actions) (G_count_from : Known P w K mg base 15 "count_from" ["history", "sightings", "known"] (F_count_from 12)) (G_steps : Known P w K mg base 2 "steps" ["history", "sighting"] F_steps) (z_enumerate : mg "enumerate" = none) (z_len : mg "len" = none) : KnownB P w K mg base 16 "sure_actions" ["history", "sightings"] F_sure_actions :=
  knownB D sc_sure_actions bi_sure_actions bk_sure_actions keeps_sure_actions fun f cdv A outer s H E hr =>
  (ss_cons (s_set 2 sc_sure_actions.nd r_dictN)
  (ss_cons (s_if (t_cmp (op_eqD (hu64 hr)) l_eq (r_callK G_count_from (hr.mono (by decide)) (by rfl) (a_cons (r_var 0) (a_cons (r_var 1) (a_cons (r_var 2) a_nil)))) r_int (nomark _)) (ss_one (s_ret r_non)) ss_nil)
  (ss_cons (s_par2 3 4 rfl sc_sure_actions.nd (a_cons (r_lst (a_cons (r_var 0) a_nil)) (a_cons (r_lst a_nil) a_nil)))
  (ss_cons (s_for (i_enumT (by rfl) z_enumerate (a_cons (r_var 1) a_nil)) (g_tup rfl (gs_cons (g_name 5 sc_sure_actions.nd) (gs_cons (g_name 6 sc_sure_actions.nd) gs_nil))) (ss_cons (s_asg (r_tup (a_cons (r_lst a_nil) (a_cons (r_lst a_nil) a_nil))) (g_tup rfl (gs_cons (g_name 7 sc_sure_actions.nd) (gs_cons (g_name 8 sc_sure_actions.nd) gs_nil))))
  (ss_cons (s_for (i_lst (r_var 3)) (g_name 9 sc_sure_actions.nd) (ss_one (s_for (i_lst (r_callK G_steps (hr.mono (by decide)) (by rfl) (a_cons (r_var 9) (a_cons (r_var 6) a_nil)))) (g_tup rfl (gs_cons (g_name 10 sc_sure_actions.nd) (gs_cons (g_name 11 sc_sure_actions.nd) gs_nil))) (ss_one (s_if (t_cmp op_gt l_gt (r_callK G_count_from (hr.mono (by decide)) (by rfl) (a_cons (r_var 11) (a_cons (r_sl o_sl l_sl (r_var 1) (o_some (r_op o_add l_add (r_var 5) r_int)) o_none) (a_cons (r_var 2) a_nil)))) r_int (nomark _)) (ss_cons (s_expr (r_meth PySem.F.slot_list_append PySem.F.type_list_append mt_append m_append (r_var 7) (a_cons (r_var 10) a_nil)))
  (ss_one (s_expr (r_meth PySem.F.slot_list_append PySem.F.type_list_append mt_append m_append (r_var 8) (a_cons (r_var 11) a_nil))))) ss_nil)))))
  (ss_cons (s_expr (r_meth PySem.F.slot_list_append PySem.F.type_list_append mt_append m_append (r_var 4) (a_cons (r_if (t_cmp (op_eqD (hu64 hr)) l_eq (r_meth PySem.F.slot_list_count PySem.F.type_list_count (mt_countW (hu65 hr)) m_count (r_var 7) (a_cons (r_ix ix_seq l_ix (r_var 7) r_int) a_nil)) (r_callB call_len_seq n_len (by rfl) z_len (by decide +kernel) (a_cons (r_var 7) a_nil)) (nomark _)) (r_ix ix_seq l_ix (r_var 7) r_int) r_non) a_nil)))
  (ss_one (s_setLc 3 (own := [("place", 12), ("own", 9)]) sc_sure_actions.nd (i_enumL (by rfl) z_enumerate (a_cons (r_var 8) a_nil)) (by kernel_rfl) (fun _ _ _ _ _ => (gw_tup rfl (gsw_cons (gw_name 12 sc_sure_actions.nd) (gsw_cons (gw_name 9 sc_sure_actions.nd) gsw_nil)))) (fun _ _ _ _ _ => (ts_one (t_cmp (op_notInD (hu65 hr)) l_notInD (r_var 9) (r_sl o_sl l_sl (r_var 8) o_none (o_some (r_var 12))) (by rfl)))) (fun _ _ _ _ _ => (r_var 9))))))))
  (ss_one (s_ret (r_var 4)))))))
theorem knB_fewest_to_sighting (D : DefAt K mg "fewest_to_sighting" s_fewest_to_sighting) (z_enumerate : mg "enumerate" = none) (z_len : mg "len" = none) (z_abs : mg "abs" = none) (z_min : mg "min" = none) : KnownB P w K mg base 1 "fewest_to_sighting" ["history", "sighting"] F_fewest_to_sighting :=
  knownB D sc_fewest_to_sighting bi_fewest_to_sighting bk_fewest_to_sighting keeps_fewest_to_sighting fun f cdv A outer s H E hr =>
  (ss_cons (s_asg (r_tup (a_cons (r_var 0) (a_cons (r_var 1) a_nil))) (g_tup rfl (gs_cons (g_tup rfl (gs_cons (g_name 2 sc_fewest_to_sighting.nd) (gs_cons (g_name 3 sc_fewest_to_sighting.nd) gs_nil))) (gs_cons (g_tup rfl (gs_cons (g_name 4 sc_fewest_to_sighting.nd) (gs_cons (g_name 5 sc_fewest_to_sighting.nd) (gs_cons (g_name 6 sc_fewest_to_sighting.nd) gs_nil)))) gs_nil))))
  (ss_cons (s_set 7 sc_fewest_to_sighting.nd (r_if (t_val (r_var 5)) (r_lst (a_cons (r_if (t_val (r_var 6)) r_int r_int) a_nil)) (r_lst a_nil)))
  (ss_cons (s_for (i_enumT (by rfl) z_enumerate (a_cons (r_var 2) a_nil)) (g_tup rfl (gs_cons (g_name 8 sc_fewest_to_sighting.nd) (gs_cons (g_name 9 sc_fewest_to_sighting.nd) gs_nil))) (ss_one (s_if (t_w (w_and (t_cmp (op_eqD (hu64 hr)) l_eq (r_var 9) (r_var 4) (nomark _)) (w_one (t_cmp (op_eqD (hu64 hr)) l_eq (r_var 5) (r_cmp op_gt l_gt (r_var 8) r_int (nomark _)) (nomark _))))) (ss_cons (s_if (t_cmp (op_eqD (hu64 hr)) l_eq (r_var 6) (r_cmp op_lt l_lt (r_var 8) (r_op op_sub l_sub (r_callB call_len_seq n_len (by rfl) z_len (by decide +kernel) (a_cons (r_var 2) a_nil)) r_int) (nomark _)) (nomark _)) (ss_one (s_expr (r_meth PySem.F.slot_list_append PySem.F.type_list_append mt_append m_append (r_var 7) (a_cons (r_callB call_abs n_abs (by rfl) z_abs (by decide +kernel) (a_cons (r_op op_sub l_sub (r_var 3) (r_var 8)) a_nil)) a_nil)))) ss_nil)
  (ss_one (s_if (t_val (r_var 6)) (ss_one (s_expr (r_meth PySem.F.slot_list_append PySem.F.type_list_append mt_append m_append (r_var 7) (a_cons (r_op o_add l_add (r_callB call_abs n_abs (by rfl) z_abs (by decide +kernel) (a_cons (r_op op_sub l_sub (r_var 3) (r_var 8)) a_nil)) r_int) a_nil)))) ss_nil))) ss_nil)))
  (ss_one (s_ret (r_if (t_cmp (op_neD (hu64 hr)) l_ne (r_var 7) (r_lst a_nil) (nomark _)) (r_callB (cr_min rfl) n_minL (by rfl) z_min (by decide +kernel) (a_cons (r_var 7) a_nil)) r_non))))))
theorem kn_count_actions (D : DefAt K mg "count_actions" s_count_actions) (z_len : mg "len" = none) : Known P w K mg base 1 "count_actions" ["script", "word"] F_count_actions :=
  known D sc_count_actions bi_count_actions keeps_count_actions fun f cdv A outer s H E hr =>
  (ss_one (s_ret (r_callB call_len_seq n_len (by rfl) z_len (by decide +kernel) (a_cons (r_lc (own := [("action", 2)]) sc_count_actions.nd (i_tup (r_var 0)) (by kernel_rfl) (fun _ _ _ _ _ => (gw_name 2 sc_count_actions.nd)) (fun _ _ _ _ _ => (ts_one (t_cmp (op_eqD (hu64 hr)) l_eq (r_ix ix_seq l_ix (r_var 2) r_int) (r_var 1) (nomark _)))) (fun _ _ _ _ _ => (r_var 2))) a_nil))))
theorem kn_differs (D : DefAt K mg "differs" s_differs) (G_apply : Known P w K mg base 2 "apply" ["history", "script"] F_apply) (z_tuple : mg "tuple" = none) (z_range : mg "range" = none) : Known P w K mg base 3 "differs" ["first", "second", "behind", "ahead"] F_differs :=
  known D sc_differs bi_differs keeps_differs fun f cdv A outer s H E hr =>
  (ss_cons (s_set 4 sc_differs.nd (r_tup (a_cons (r_tupRg (by rfl) z_tuple (by rfl) z_range (r_op o_add l_add (r_op o_add l_add (r_var 2) r_int) (r_var 3))) (a_cons (r_var 2) a_nil))))
  (ss_one (s_ret (r_cmp (op_neD (hu64 hr)) l_ne (r_callK G_apply (hr.mono (by decide)) (by rfl) (a_cons (r_var 4) (a_cons (r_var 0) a_nil))) (r_callK G_apply (hr.mono (by decide)) (by rfl) (a_cons (r_var 4) (a_cons (r_var 1) a_nil))) (nomark _)))))
theorem knB_difference (D : DefAt K mg "difference" s_difference) (G_count_actions : Known P w K mg base 1 "count_actions" ["script", "word"] F_count_actions) (G_differs : Known P w K mg base 3 "differs" ["first", "second", "behind", "ahead"] F_differs) (z_max : mg "max" = none) (z_range : mg "range" = none) (z_min : mg "min" = none) : KnownB P w K mg base 4 "difference" ["first", "second"] F_difference :=
  knownB D sc_difference bi_difference bk_difference keeps_difference fun f cdv A outer s H E hr =>
  (ss_cons (s_set 2 sc_difference.nd (r_callB (call_max2 rfl) n_max (by rfl) z_max (by decide +kernel) (a_cons (r_callK G_count_actions (hr.mono (by decide)) (by rfl) (a_cons (r_var 0) (a_cons r_str a_nil))) (a_cons (r_callK G_count_actions (hr.mono (by decide)) (by rfl) (a_cons (r_var 1) (a_cons r_str a_nil))) a_nil))))
  (ss_cons (s_set 3 sc_difference.nd (r_callB (call_max2 rfl) n_max (by rfl) z_max (by decide +kernel) (a_cons (r_callK G_count_actions (hr.mono (by decide)) (by rfl) (a_cons (r_var 0) (a_cons r_str a_nil))) (a_cons (r_callK G_count_actions (hr.mono (by decide)) (by rfl) (a_cons (r_var 1) (a_cons r_str a_nil))) a_nil))))
  (ss_cons (s_for (i_range1 (by rfl) z_range (a_cons (r_op o_add l_add (r_op o_add l_add (r_var 2) (r_var 3)) r_int) a_nil)) (g_name 4 sc_difference.nd) (ss_one (s_for (i_range2 (by rfl) z_range (a_cons (r_callB (call_max2 rfl) n_max (by rfl) z_max (by decide +kernel) (a_cons r_int (a_cons (r_op op_sub l_sub (r_var 4) (r_var 3)) a_nil))) (a_cons (r_op o_add l_add (r_callB (call_min2 rfl) n_min (by rfl) z_min (by decide +kernel) (a_cons (r_var 4) (a_cons (r_var 2) a_nil))) r_int) a_nil))) (g_name 5 sc_difference.nd) (ss_one (s_if (t_val (r_callK G_differs (hr.mono (by decide)) (by rfl) (a_cons (r_var 0) (a_cons (r_var 1) (a_cons (r_var 5) (a_cons (r_op op_sub l_sub (r_var 4) (r_var 5)) a_nil)))))) (ss_one (s_ret (r_tup (a_cons (r_var 5) (a_cons (r_op op_sub l_sub (r_var 4) (r_var 5)) a_nil))))) ss_nil)))))
  (ss_one (s_ret r_non)))))
theorem knB_equal (D : DefAt K mg "equal" s_equal) (G_difference : Known P w K mg base 4 "difference" ["first", "second"] F_difference) : KnownB P w K mg base 5 "equal" ["first", "second"] F_equal :=
  knownB D sc_equal bi_equal bk_equal keeps_equal fun f cdv A outer s H E hr =>
  (ss_one (s_ret (r_isN (r_callK G_difference (hr.mono (by decide)) (by rfl) (a_cons (r_var 0) (a_cons (r_var 1) a_nil))))))
theorem knB_redundant_steps (D : DefAt K mg "redundant_steps" s_redundant_steps) (G_equal : Known P w K mg base 5 "equal" ["first", "second"] F_equal) (z_range : mg "range" = none) (z_len : mg "len" = none) : KnownB P w K mg base 6 "redundant_steps" ["script"] F_redundant_steps :=
  knownB D sc_redundant_steps bi_redundant_steps bk_redundant_steps keeps_redundant_steps fun f cdv A outer s H E hr =>
  (ss_one (s_ret (r_lc (own := [("index", 1)]) sc_redundant_steps.nd (i_range1 (by rfl) z_range (a_cons (r_callB call_len_seq n_len (by rfl) z_len (by decide +kernel) (a_cons (r_var 0) a_nil)) a_nil)) (by kernel_rfl) (fun _ _ _ _ _ => (gw_name 1 sc_redundant_steps.nd)) (fun _ _ _ _ _ => (ts_one (t_val (r_callK G_equal (hr.mono (by decide)) (by rfl) (a_cons (r_op o_add l_add (r_sl o_sl l_sl (r_var 0) o_none (o_some (r_var 1))) (r_sl o_sl l_sl (r_var 0) (o_some (r_op o_add l_add (r_var 1) r_int)) o_none)) (a_cons (r_var 0) a_nil)))))) (fun _ _ _ _ _ => (r_var 1)))))
theorem knB_count_explanations (D : DefAt K mg "count_explanations" s_count_explanations) (G_count_from : Known P w K mg base 15 "count_from" ["history", "sightings", "known"] (F_count_from 12)) : KnownB P w K mg base 16 "count_explanations" ["history", "sightings"] F_count_explanations :=
  knownB D sc_count_explanations bi_count_explanations bk_count_explanations keeps_count_explanations fun f cdv A outer s H E hr =>
  (ss_one (s_ret (r_callK G_count_from (hr.mono (by decide)) (by rfl) (a_cons (r_var 0) (a_cons (r_var 1) (a_cons r_dictN a_nil))))))
theorem knB_explanation_at (D : DefAt K mg "explanation_at" s_explanation_at) (G_count_from : Known P w K mg base 15 "count_from" ["history", "sightings", "known"] (F_count_from 12)) (G_steps : Known P w K mg base 2 "steps" ["history", "sighting"] F_steps) : KnownB P w K mg base 16 "explanation_at" ["history", "sightings", "number"] F_explanation_at :=
  knownB D sc_explanation_at bi_explanation_at bk_explanation_at keeps_explanation_at fun f cdv A outer s H E hr =>
  (ss_cons (s_par2 3 4 rfl sc_explanation_at.nd (a_cons r_dictN (a_cons (r_tup a_nil) a_nil)))
  (ss_cons (s_if (t_cmp op_ge l_ge (r_var 2) (r_callK G_count_from (hr.mono (by decide)) (by rfl) (a_cons (r_var 0) (a_cons (r_var 1) (a_cons (r_var 3) a_nil)))) (nomark _)) (ss_one (s_ret r_non)) ss_nil)
  (ss_cons (s_while 1000 (t_cmp (op_neD (hu64 hr)) l_ne (r_var 1) (r_tup a_nil) (nomark _)) (ss_one (s_for (i_lst (r_callK G_steps (hr.mono (by decide)) (by rfl) (a_cons (r_var 0) (a_cons (r_ix ix_seq l_ix (r_var 1) r_int) a_nil)))) (g_tup rfl (gs_cons (g_name 5 sc_explanation_at.nd) (gs_cons (g_name 6 sc_explanation_at.nd) gs_nil))) (ss_cons (s_set 7 sc_explanation_at.nd (r_callK G_count_from (hr.mono (by decide)) (by rfl) (a_cons (r_var 6) (a_cons (r_sl o_sl l_sl (r_var 1) (o_some r_int) o_none) (a_cons (r_var 3) a_nil)))))
  (ss_cons (s_if (t_cmp op_lt l_lt (r_var 2) (r_var 7) (nomark _)) (ss_cons (s_par3 4 0 1 rfl sc_explanation_at.nd (a_cons (r_op o_add l_add (r_var 4) (r_tup (a_cons (r_var 5) a_nil))) (a_cons (r_var 6) (a_cons (r_sl o_sl l_sl (r_var 1) (o_some r_int) o_none) a_nil))))
  (ss_one s_break)) ss_nil)
  (ss_one (s_aug 2 sc_explanation_at.nd iop_sub l_sub (r_var 7))))))))
  (ss_one (s_ret (r_var 4))))))
theorem kn__law_second_right (D : DefAt K mg "_law_second_right" s__law_second_right) (G_sure_actions : Known P w K mg base 16 "sure_actions" ["history", "sightings"] F_sure_actions) (G_fewest_to_sighting : Known P w K mg base 1 "fewest_to_sighting" ["history", "sighting"] F_fewest_to_sighting) (W_difference : KnownB P w K mg base 4 "difference" ["first", "second"] F_difference) (W_equal : KnownB P w K mg base 5 "equal" ["first", "second"] F_equal) (W_redundant_steps : KnownB P w K mg base 6 "redundant_steps" ["script"] F_redundant_steps) (W_count_explanations : KnownB P w K mg base 16 "count_explanations" ["history", "sightings"] F_count_explanations) (W_sure_actions : KnownB P w K mg base 16 "sure_actions" ["history", "sightings"] F_sure_actions) (W_explanation_at : KnownB P w K mg base 16 "explanation_at" ["history", "sightings", "number"] F_explanation_at) (W_fewest_to_sighting : KnownB P w K mg base 1 "fewest_to_sighting" ["history", "sighting"] F_fewest_to_sighting) : Known P w K mg base 17 "_law_second_right" ["page"] F__law_second_right :=
  known D sc__law_second_right bi__law_second_right keeps__law_second_right fun f cdv A outer s H E hr =>
  (ss_cons (s_if (t_cmp (op_neD (hu64 hr)) l_ne (r_callW W_difference (hr.mono (by decide)) (by rfl) (k_cons (r_tup (a_cons (r_tup (a_cons r_str a_nil)) (a_cons (r_tup (a_cons r_str a_nil)) a_nil))) (k_cons (r_tup a_nil) k_nil))) (r_tup (a_cons r_int (a_cons r_int a_nil))) (nomark _)) (ss_one (s_ret r_bl)) ss_nil)
  (ss_cons (s_if (t_cmp op_notBl l_notB (r_callW W_equal (hr.mono (by decide)) (by rfl) (k_cons (r_tup (a_cons (r_tup (a_cons r_str (a_cons (r_var 0) a_nil))) (a_cons (r_tup (a_cons r_str a_nil)) (a_cons (r_tup (a_cons r_str (a_cons r_str a_nil))) a_nil)))) (k_cons (r_tup (a_cons (r_tup (a_cons r_str (a_cons r_str a_nil))) a_nil)) k_nil))) r_bl (nomark _)) (ss_one (s_ret r_bl)) ss_nil)
  (ss_cons (s_if (t_cmp (op_neD (hu64 hr)) l_ne (r_callW W_redundant_steps (hr.mono (by decide)) (by rfl) (k_cons (r_tup (a_cons (r_tup (a_cons r_str (a_cons (r_var 0) a_nil))) (a_cons (r_tup (a_cons r_str a_nil)) a_nil))) k_nil)) (r_lst (a_cons r_int a_nil)) (nomark _)) (ss_one (s_ret r_bl)) ss_nil)
  (ss_cons (s_par3 1 2 3 rfl sc__law_second_right.nd (a_cons (r_tup (a_cons (r_tup (a_cons r_str (a_cons r_str a_nil))) (a_cons r_int a_nil))) (a_cons (r_tup (a_cons (r_tup (a_cons r_str (a_cons r_str (a_cons (r_var 0) a_nil)))) (a_cons r_int a_nil))) (a_cons (r_tup (a_cons (r_tup (a_cons r_str (a_cons r_bl (a_cons r_bl a_nil)))) a_nil)) a_nil))))
  (ss_cons (s_if (t_w (w_or (t_cmp (op_neD (hu64 hr)) l_ne (r_callW W_count_explanations (hr.mono (by decide)) (by rfl) (k_cons (r_var 1) (k_cons (r_var 3) k_nil))) r_int (nomark _)) (w_one (t_cmp (op_neD (hu64 hr)) l_ne (r_callW W_sure_actions (hr.mono (by decide)) (by rfl) (k_cons (r_var 1) (k_cons (r_var 3) k_nil))) (r_lst (a_cons r_non a_nil)) (nomark _))))) (ss_one (s_ret r_bl)) ss_nil)
  (ss_cons (s_if (t_cmp (op_neD (hu64 hr)) l_ne (r_callW W_explanation_at (hr.mono (by decide)) (by rfl) (k_cons (r_var 1) (k_cons (r_var 3) (k_cons r_int k_nil)))) (r_tup (a_cons (r_tup (a_cons r_str a_nil)) a_nil)) (nomark _)) (ss_one (s_ret r_bl)) ss_nil)
  (ss_cons (s_if (t_cmp (op_neD (hu64 hr)) l_ne (r_callK G_sure_actions (hr.mono (by decide)) (by rfl) (a_cons (r_var 2) (a_cons (r_tup (a_cons (r_tup (a_cons r_str (a_cons r_bl (a_cons r_bl a_nil)))) a_nil)) a_nil))) (r_lst (a_cons (r_tup (a_cons r_str a_nil)) a_nil)) (nomark _)) (ss_one (s_ret r_bl)) ss_nil)
  (ss_cons (s_if (t_cmp (op_neD (hu64 hr)) l_ne (r_callW W_fewest_to_sighting (hr.mono (by decide)) (by rfl) (k_cons (r_var 2) (k_cons (r_tup (a_cons r_str (a_cons r_bl (a_cons r_bl a_nil)))) k_nil))) r_int (nomark _)) (ss_one (s_ret r_bl)) ss_nil)
  (ss_one (s_ret (r_and (r_cmp (op_eqD (hu64 hr)) l_eq (r_callK G_fewest_to_sighting (hr.mono (by decide)) (by rfl) (a_cons (r_var 2) (a_cons (r_tup (a_cons r_str (a_cons r_bl (a_cons r_bl a_nil)))) a_nil))) r_int (nomark _)) (r_one (r_isN (r_callK G_fewest_to_sighting (hr.mono (by decide)) (by rfl) (a_cons (r_var 2) (a_cons (r_tup (a_cons r_str (a_cons r_bl (a_cons r_bl a_nil)))) a_nil))))))))))))))))
theorem knB_common_beginning (D : DefAt K mg "common_beginning" s_common_beginning) (G_common : Known P w K mg base 1 "common" ["one", "other"] F_common) : KnownB P w K mg base 2 "common_beginning" ["one", "other"] F_common_beginning :=
  knownB D sc_common_beginning bi_common_beginning bk_common_beginning keeps_common_beginning fun f cdv A outer s H E hr =>
  (ss_one (s_ret (r_callK G_common (hr.mono (by decide)) (by rfl) (a_cons (r_ix ix_seq l_ix (r_var 0) r_int) (a_cons (r_ix ix_seq l_ix (r_var 1) r_int) a_nil)))))
theorem kn_best_start (D : DefAt K mg "best_start" s_best_start) (G_distance : Known P w K mg base 3 "distance" ["history", "target"] F_distance) (z_range : mg "range" = none) (z_len : mg "len" = none) : Known P w K mg base 4 "best_start" ["one", "other"] F_best_start :=
  known D sc_best_start bi_best_start keeps_best_start fun f cdv A outer s H E hr =>
  (ss_cons (s_set 2 sc_best_start.nd r_non)
  (ss_cons (s_for (i_lst (r_lst (a_cons (r_ix ix_seq l_ix (r_var 0) r_int) (a_cons (r_ix ix_seq l_ix (r_var 1) r_int) a_nil)))) (g_name 3 sc_best_start.nd) (ss_one (s_for (i_range2 (by rfl) z_range (a_cons r_int (a_cons (r_op o_add l_add (r_callB call_len_seq n_len (by rfl) z_len (by decide +kernel) (a_cons (r_var 3) a_nil)) r_int) a_nil))) (g_name 4 sc_best_start.nd) (ss_one (s_for (i_range1 (by rfl) z_range (a_cons (r_var 4) a_nil)) (g_name 5 sc_best_start.nd) (ss_cons (s_set 6 sc_best_start.nd (r_tup (a_cons (r_sl o_sl l_sl (r_var 3) o_none (o_some (r_var 4))) (a_cons (r_var 5) a_nil))))
  (ss_cons (s_par2 7 8 rfl sc_best_start.nd (a_cons (r_callK G_distance (hr.mono (by decide)) (by rfl) (a_cons (r_var 6) (a_cons (r_var 0) a_nil))) (a_cons (r_callK G_distance (hr.mono (by decide)) (by rfl) (a_cons (r_var 6) (a_cons (r_var 1) a_nil))) a_nil)))
  (ss_one (s_if (t_w (w_and (t_notN (r_var 7)) (w_and (t_notN (r_var 8)) (w_one (t_w (w_or (t_isN (r_var 2)) (w_one (t_cmp op_lt l_lt (r_op o_add l_add (r_var 7) (r_var 8)) (r_ix ix_seq l_ix (r_var 2) r_int) (nomark _))))))))) (ss_one (s_set 2 sc_best_start.nd (r_tup (a_cons (r_op o_add l_add (r_var 7) (r_var 8)) (a_cons (r_var 6) a_nil))))) ss_nil)))))))))
  (ss_one (s_ret (r_var 2)))))
theorem knB_fewest_since_copy (D : DefAt K mg "fewest_since_copy" s_fewest_since_copy) (G_best_start : Known P w K mg base 4 "best_start" ["one", "other"] F_best_start) : KnownB P w K mg base 5 "fewest_since_copy" ["one", "other"] F_fewest_since_copy :=
  knownB D sc_fewest_since_copy bi_fewest_since_copy bk_fewest_since_copy keeps_fewest_since_copy fun f cdv A outer s H E hr =>
  (ss_cons (s_set 2 sc_fewest_since_copy.nd (r_callK G_best_start (hr.mono (by decide)) (by rfl) (a_cons (r_var 0) (a_cons (r_var 1) a_nil))))
  (ss_one (s_ret (r_if (t_notN (r_var 2)) (r_ix ix_seq l_ix (r_var 2) r_int) r_non))))
theorem knB_copy_point (D : DefAt K mg "copy_point" s_copy_point) (G_best_start : Known P w K mg base 4 "best_start" ["one", "other"] F_best_start) : KnownB P w K mg base 5 "copy_point" ["one", "other"] F_copy_point :=
  knownB D sc_copy_point bi_copy_point bk_copy_point keeps_copy_point fun f cdv A outer s H E hr =>
  (ss_cons (s_set 2 sc_copy_point.nd (r_callK G_best_start (hr.mono (by decide)) (by rfl) (a_cons (r_var 0) (a_cons (r_var 1) a_nil))))
  (ss_one (s_ret (r_if (t_notN (r_var 2)) (r_ix ix_seq l_ix (r_var 2) r_int) r_non))))
theorem kn_run (D : DefAt K mg "run" s_run) (G_after : Known P w K mg base 1 "after" ["history", "action"] F_after) (z_max : mg "max" = none) (z_len : mg "len" = none) : Known P w K mg base 2 "run" ["history", "script", "cap"] F_run :=
  known D sc_run bi_run keeps_run fun f cdv A outer s H E hr =>
  (ss_cons (s_set 3 sc_run.nd r_int)
  (ss_cons (s_for (i_tup (r_var 1)) (g_name 4 sc_run.nd) (ss_cons (s_asg (r_callK G_after (hr.mono (by decide)) (by rfl) (a_cons (r_var 0) (a_cons (r_var 4) a_nil))) (g_tup rfl (gs_cons (g_name 5 sc_run.nd) (gs_cons (g_name 6 sc_run.nd) gs_nil))))
  (ss_cons (s_set 7 sc_run.nd (r_callB (call_max2 rfl) n_max (by rfl) z_max (by decide +kernel) (a_cons r_int (a_cons (r_op op_sub l_sub (r_callB call_len_seq n_len (by rfl) z_len (by decide +kernel) (a_cons (r_var 5) a_nil)) (r_var 2)) a_nil))))
  (ss_one (s_par2 0 3 rfl sc_run.nd (a_cons (r_tup (a_cons (r_sl o_sl l_sl (r_var 5) (o_some (r_var 7)) o_none) (a_cons (r_op op_sub l_sub (r_var 6) (r_var 7)) a_nil))) (a_cons (r_op o_add l_add (r_var 3) (r_var 7)) a_nil)))))))
  (ss_one (s_ret (r_tup (a_cons (r_var 0) (a_cons (r_var 3) a_nil)))))))
theorem knB_apply_capped (D : DefAt K mg "apply_capped" s_apply_capped) (G_run : Known P w K mg base 2 "run" ["history", "script", "cap"] F_run) : KnownB P w K mg base 3 "apply_capped" ["history", "script", "cap"] F_apply_capped :=
  knownB D sc_apply_capped bi_apply_capped bk_apply_capped keeps_apply_capped fun f cdv A outer s H E hr =>
  (ss_one (s_ret (r_ix ix_seq l_ix (r_callK G_run (hr.mono (by decide)) (by rfl) (a_cons (r_var 0) (a_cons (r_var 1) (a_cons (r_var 2) a_nil)))) r_int)))
theorem knB_dropped (D : DefAt K mg "dropped" s_dropped) (G_run : Known P w K mg base 2 "run" ["history", "script", "cap"] F_run) : KnownB P w K mg base 3 "dropped" ["history", "script", "cap"] F_dropped :=
  knownB D sc_dropped bi_dropped bk_dropped keeps_dropped fun f cdv A outer s H E hr =>
  (ss_one (s_ret (r_ix ix_seq l_ix (r_callK G_run (hr.mono (by decide)) (by rfl) (a_cons (r_var 0) (a_cons (r_var 1) (a_cons (r_var 2) a_nil)))) r_int)))
theorem knB_caps_for (D : DefAt K mg "caps_for" s_caps_for) (G_run : Known P w K mg base 2 "run" ["history", "script", "cap"] F_run) (z_max : mg "max" = none) (z_len : mg "len" = none) (z_range : mg "range" = none) (m_MAX_PAGES : GlobV mg "MAX_PAGES" (.int 12)) : KnownB P w K mg base 3 "caps_for" ["history", "script", "result"] F_caps_for :=
  knownB D sc_caps_for bi_caps_for bk_caps_for keeps_caps_for fun f cdv A outer s H E hr =>
  (ss_cons (s_set 3 sc_caps_for.nd (r_callB (call_max2 rfl) n_max (by rfl) z_max (by decide +kernel) (a_cons r_int (a_cons (r_callB call_len_seq n_len (by rfl) z_len (by decide +kernel) (a_cons (r_ix ix_seq l_ix (r_var 0) r_int) a_nil)) a_nil))))
  (ss_one (s_ret (r_lc (own := [("cap", 4)]) sc_caps_for.nd (i_range2 (by rfl) z_range (a_cons (r_var 3) (a_cons (r_op o_add l_add (r_globI (by rfl) m_MAX_PAGES) r_int) a_nil))) (by kernel_rfl) (fun _ _ _ _ _ => (gw_name 4 sc_caps_for.nd)) (fun _ _ _ _ _ => (ts_one (t_cmp (op_eqD (hu64 hr)) l_eq (r_ix ix_seq l_ix (r_callK G_run (hr.mono (by decide)) (by rfl) (a_cons (r_var 0) (a_cons (r_var 1) (a_cons (r_var 4) a_nil)))) r_int) (r_var 2) (nomark _)))) (fun _ _ _ _ _ => (r_var 4))))))
theorem knB_hidden_actions (D : DefAt K mg "hidden_actions" s_hidden_actions) (G_apply : Known P w K mg base 2 "apply" ["history", "script"] F_apply) (z_sorted : mg "sorted" = none) (z_enumerate : mg "enumerate" = none) : KnownB P w K mg base 3 "hidden_actions" ["history", "script", "position", "result"] F_hidden_actions :=
  knownB D sc_hidden_actions bi_hidden_actions bk_hidden_actions keeps_hidden_actions fun f cdv A outer s H E hr =>
  (ss_cons (s_set 4 sc_hidden_actions.nd (r_callB (cr_sortTX (hu65 hr)) n_sortX (by rfl) z_sorted (by decide +kernel) (a_cons (r_op o_add l_add (r_ix ix_seq l_ix (r_var 0) r_int) (r_ix ix_seq l_ix (r_var 3) r_int)) a_nil)))
  (ss_cons (s_setLc 5 (own := [("at", 8), ("page", 9)]) sc_hidden_actions.nd (i_enumL (by rfl) z_enumerate (a_cons (r_var 4) a_nil)) (by kernel_rfl) (fun _ _ _ _ _ => (gw_tup rfl (gsw_cons (gw_name 8 sc_hidden_actions.nd) (gsw_cons (gw_name 9 sc_hidden_actions.nd) gsw_nil)))) (fun _ _ _ _ _ => (ts_one (t_cmp (op_notInD (hu65 hr)) l_notInD (r_var 9) (r_sl o_sl l_sl (r_var 4) o_none (o_some (r_var 8))) (by rfl)))) (fun _ _ _ _ _ => (r_tup (a_cons r_str (a_cons (r_var 9) a_nil)))))
  (ss_cons (s_set 6 sc_hidden_actions.nd (r_lst a_nil))
  (ss_cons (s_for (i_lst (r_op o_add l_add (r_lst (a_cons (r_tup (a_cons r_str a_nil)) (a_cons (r_tup (a_cons r_str a_nil)) a_nil))) (r_var 5))) (g_name 7 sc_hidden_actions.nd) (ss_one (s_if (t_cmp (op_eqD (hu64 hr)) l_eq (r_callK G_apply (hr.mono (by decide)) (by rfl) (a_cons (r_var 0) (a_cons (r_op o_add l_add (r_op o_add l_add (r_sl o_sl l_sl (r_var 1) o_none (o_some (r_var 2))) (r_tup (a_cons (r_var 7) a_nil))) (r_sl o_sl l_sl (r_var 1) (o_some (r_var 2)) o_none)) a_nil))) (r_var 3) (nomark _)) (ss_one (s_expr (r_meth PySem.F.slot_list_append PySem.F.type_list_append mt_append m_append (r_var 6) (a_cons (r_var 7) a_nil)))) ss_nil)))
  (ss_one (s_ret (r_var 6)))))))
theorem knB_places_for (D : DefAt K mg "places_for" s_places_for) (G_apply : Known P w K mg base 2 "apply" ["history", "script"] F_apply) (z_range : mg "range" = none) (z_len : mg "len" = none) : KnownB P w K mg base 3 "places_for" ["pages", "script", "result"] F_places_for :=
  knownB D sc_places_for bi_places_for bk_places_for keeps_places_for fun f cdv A outer s H E hr =>
  (ss_one (s_ret (r_lc (own := [("place", 3)]) sc_places_for.nd (i_range1 (by rfl) z_range (a_cons (r_callB call_len_seq n_len (by rfl) z_len (by decide +kernel) (a_cons (r_var 0) a_nil)) a_nil)) (by kernel_rfl) (fun _ _ _ _ _ => (gw_name 3 sc_places_for.nd)) (fun _ _ _ _ _ => (ts_one (t_cmp (op_eqD (hu64 hr)) l_eq (r_callK G_apply (hr.mono (by decide)) (by rfl) (a_cons (r_tup (a_cons (r_var 0) (a_cons (r_var 3) a_nil))) (a_cons (r_var 1) a_nil))) (r_var 2) (nomark _)))) (fun _ _ _ _ _ => (r_var 3)))))
theorem kn__law_third_right (D : DefAt K mg "_law_third_right" s__law_third_right) (W_common_beginning : KnownB P w K mg base 2 "common_beginning" ["one", "other"] F_common_beginning) (W_fewest_since_copy : KnownB P w K mg base 5 "fewest_since_copy" ["one", "other"] F_fewest_since_copy) (W_copy_point : KnownB P w K mg base 5 "copy_point" ["one", "other"] F_copy_point) (W_apply_capped : KnownB P w K mg base 3 "apply_capped" ["history", "script", "cap"] F_apply_capped) (W_dropped : KnownB P w K mg base 3 "dropped" ["history", "script", "cap"] F_dropped) (W_caps_for : KnownB P w K mg base 3 "caps_for" ["history", "script", "result"] F_caps_for) (W_hidden_actions : KnownB P w K mg base 3 "hidden_actions" ["history", "script", "position", "result"] F_hidden_actions) (W_places_for : KnownB P w K mg base 3 "places_for" ["pages", "script", "result"] F_places_for) : Known P w K mg base 6 "_law_third_right" ["page"] F__law_third_right :=
  known D sc__law_third_right bi__law_third_right keeps__law_third_right fun f cdv A outer s H E hr =>
  (ss_cons (s_par2 1 2 rfl sc__law_third_right.nd (a_cons (r_tup (a_cons (r_tup (a_cons r_str (a_cons r_str (a_cons (r_var 0) a_nil)))) (a_cons r_int a_nil))) (a_cons (r_tup (a_cons (r_tup (a_cons r_str (a_cons r_str (a_cons r_str a_nil)))) (a_cons r_int a_nil))) a_nil)))
  (ss_cons (s_if (t_w (w_or (t_cmp (op_neD (hu64 hr)) l_ne (r_callW W_common_beginning (hr.mono (by decide)) (by rfl) (k_cons (r_var 1) (k_cons (r_var 2) k_nil))) r_int (nomark _)) (w_one (t_cmp (op_neD (hu64 hr)) l_ne (r_callW W_fewest_since_copy (hr.mono (by decide)) (by rfl) (k_cons (r_var 1) (k_cons (r_var 2) k_nil))) r_int (nomark _))))) (ss_one (s_ret r_bl)) ss_nil)
  (ss_cons (s_if (t_cmp (op_neD (hu64 hr)) l_ne (r_callW W_copy_point (hr.mono (by decide)) (by rfl) (k_cons (r_tup (a_cons (r_tup (a_cons r_str (a_cons r_str a_nil))) (a_cons r_int a_nil))) (k_cons (r_tup (a_cons (r_tup (a_cons r_str (a_cons r_str a_nil))) (a_cons r_int a_nil))) k_nil))) (r_tup (a_cons (r_tup (a_cons r_str (a_cons r_str a_nil))) (a_cons r_int a_nil))) (nomark _)) (ss_one (s_ret r_bl)) ss_nil)
  (ss_cons (s_set 3 sc__law_third_right.nd (r_tup (a_cons (r_tup (a_cons r_str (a_cons (r_var 0) a_nil))) (a_cons (r_tup (a_cons r_str (a_cons r_str a_nil))) a_nil))))
  (ss_cons (s_if (t_cmp (op_neD (hu64 hr)) l_ne (r_callW W_apply_capped (hr.mono (by decide)) (by rfl) (k_cons (r_tup (a_cons (r_tup (a_cons r_str (a_cons r_str a_nil))) (a_cons r_int a_nil))) (k_cons (r_var 3) (k_cons r_int k_nil)))) (r_tup (a_cons (r_tup (a_cons r_str (a_cons (r_var 0) (a_cons r_str a_nil)))) (a_cons r_int a_nil))) (nomark _)) (ss_one (s_ret r_bl)) ss_nil)
  (ss_cons (s_if (t_cmp (op_neD (hu64 hr)) l_ne (r_callW W_dropped (hr.mono (by decide)) (by rfl) (k_cons (r_tup (a_cons (r_tup (a_cons r_str (a_cons r_str a_nil))) (a_cons r_int a_nil))) (k_cons (r_var 3) (k_cons r_int k_nil)))) r_int (nomark _)) (ss_one (s_ret r_bl)) ss_nil)
  (ss_cons (s_set 4 sc__law_third_right.nd (r_tup (a_cons (r_tup (a_cons r_str (a_cons r_str a_nil))) (a_cons (r_tup (a_cons r_str (a_cons (r_var 0) a_nil))) (a_cons (r_tup (a_cons r_str a_nil)) (a_cons (r_tup (a_cons r_str a_nil)) a_nil))))))
  (ss_cons (s_if (t_cmp (op_neD (hu64 hr)) l_ne (r_callW W_caps_for (hr.mono (by decide)) (by rfl) (k_cons (r_tup (a_cons (r_tup (a_cons r_str a_nil)) (a_cons r_int a_nil))) (k_cons (r_var 4) (k_cons (r_tup (a_cons (r_tup (a_cons r_str (a_cons (r_var 0) a_nil))) (a_cons r_int a_nil))) k_nil)))) (r_lst (a_cons r_int a_nil)) (nomark _)) (ss_one (s_ret r_bl)) ss_nil)
  (ss_cons (s_set 5 sc__law_third_right.nd (r_callW W_hidden_actions (hr.mono (by decide)) (by rfl) (k_cons (r_tup (a_cons (r_tup (a_cons r_str (a_cons r_str a_nil))) (a_cons r_int a_nil))) (k_cons (r_tup (a_cons (r_tup (a_cons r_str (a_cons (r_var 0) a_nil))) a_nil)) (k_cons r_int (k_cons (r_tup (a_cons (r_tup (a_cons r_str (a_cons (r_var 0) a_nil))) (a_cons r_int a_nil))) k_nil))))))
  (ss_cons (s_if (t_cmp (op_neD (hu64 hr)) l_ne (r_var 5) (r_lst (a_cons (r_tup (a_cons r_str a_nil)) a_nil)) (nomark _)) (ss_one (s_ret r_bl)) ss_nil)
  (ss_one (s_ret (r_cmp (op_eqD (hu64 hr)) l_eq (r_callW W_places_for (hr.mono (by decide)) (by rfl) (k_cons (r_tup (a_cons r_str (a_cons r_str (a_cons (r_var 0) a_nil)))) (k_cons (r_tup (a_cons (r_tup (a_cons r_str a_nil)) (a_cons (r_tup (a_cons r_str (a_cons r_str a_nil))) a_nil))) (k_cons (r_tup (a_cons (r_tup (a_cons r_str (a_cons r_str a_nil))) (a_cons r_int a_nil))) k_nil)))) (r_lst (a_cons r_int (a_cons r_int a_nil))) (nomark _))))))))))))))
theorem kn_law {f : Addr} {fd : FuncData} (D : Fun K "law" "law" s_law f fd) (G__law_draw : Known P w K mg base 1 "_law_draw" ["tape", "many"] F__law_draw) (G__law_first_right : Known P w K mg base 6 "_law_first_right" ["page"] F__law_first_right) (G__law_second_right : Known P w K mg base 17 "_law_second_right" ["page"] F__law_second_right) (G__law_third_right : Known P w K mg base 6 "_law_third_right" ["page"] F__law_third_right) (z_list : mg "list" = none) : FnOk P w K mg base CX0 18 f fd ["my_script"] (spF ⟨K, w⟩ (["my_script"] : List Str).length lawF) :=
  fn_ok D sc_law keeps_law_k22 fun cdv A outer s H E hr =>
  (ss_cons (s_set 1 sc_law.nd (r_lst (a_cons (r_callTy call_list_of n_list (by rfl) z_list (by decide +kernel) (a_cons (r_var 0) a_nil)) (a_cons r_int (a_cons r_int a_nil)))))
  (ss_cons (s_set 2 sc_law.nd (r_ix ix_seq l_ix (r_lst (a_cons r_str (a_cons r_str (a_cons r_str a_nil)))) (r_callK G__law_draw (hr.mono (by decide)) (by rfl) (a_cons (r_var 1) (a_cons r_int a_nil)))))
  (ss_one (s_ret (r_and (r_callK G__law_first_right (hr.mono (by decide)) (by rfl) (a_cons (r_var 2) a_nil)) (r_and (r_callK G__law_second_right (hr.mono (by decide)) (by rfl) (a_cons (r_var 2) a_nil)) (r_one (r_callK G__law_third_right (hr.mono (by decide)) (by rfl) (a_cons (r_var 2) a_nil)))))))))
end
theorem all_k22 {l : PySem.W.OpenLaw} {w : World} {K : PySem.W.Frag} {h : Heap} {mg : Str → Option Value} {fa f : Addr} {oc : Value} {od an : Option Addr} {osl : Array (Option Value)} {kV doc pm cdv ct : Value} (X : K.In h) (G : h.Ns mainGlobals mg) (hfa : mg "law" = some (.ref fa))
    (a : PySem.W.nsIn K mainGlobals "law" = some (some (.ref f))) (lk : K.lookup f = some ⟨oc, od, .func (PySem.W.fnOf "law" "law" (defArgs s_law) (defBody s_law) (defScope s_law) .none kV doc pm an cdv ct), osl⟩) (c : PySem.W.codeIn K cdv "law" = true) (kp : PySem.W.keepIn K (.ref f) = true)
    (D__law_draw : DefAt K mg "_law_draw" s__law_draw) (D_common : DefAt K mg "common" s_common) (D_kept_pages : DefAt K mg "kept_pages" s_kept_pages) (D_distance : DefAt K mg "distance" s_distance) (D_most_forward : DefAt K mg "most_forward" s_most_forward) (D_count_plans : DefAt K mg "count_plans" s_count_plans) (D_plan_at : DefAt K mg "plan_at" s_plan_at) (D_after : DefAt K mg "after" s_after) (D_apply : DefAt K mg "apply" s_apply) (D_sight : DefAt K mg "sight" s_sight) (D_trail : DefAt K mg "trail" s_trail) (D_apply_with_menu : DefAt K mg "apply_with_menu" s_apply_with_menu) (D_jump : DefAt K mg "jump" s_jump) (D_plan_with_menu : DefAt K mg "plan_with_menu" s_plan_with_menu) (D_distance_with_menu : DefAt K mg "distance_with_menu" s_distance_with_menu) (D__law_first_right : DefAt K mg "_law_first_right" s__law_first_right) (D_steps : DefAt K mg "steps" s_steps) (D_count_from : DefAt K mg "count_from" s_count_from) (D_sure_actions : DefAt K mg "sure_actions" s_sure_actions) (D_fewest_to_sighting : DefAt K mg "fewest_to_sighting" s_fewest_to_sighting) (D_count_actions : DefAt K mg "count_actions" s_count_actions) (D_differs : DefAt K mg "differs" s_differs) (D_difference : DefAt K mg "difference" s_difference) (D_equal : DefAt K mg "equal" s_equal) (D_redundant_steps : DefAt K mg "redundant_steps" s_redundant_steps) (D_count_explanations : DefAt K mg "count_explanations" s_count_explanations) (D_explanation_at : DefAt K mg "explanation_at" s_explanation_at) (D__law_second_right : DefAt K mg "_law_second_right" s__law_second_right) (D_common_beginning : DefAt K mg "common_beginning" s_common_beginning) (D_best_start : DefAt K mg "best_start" s_best_start) (D_fewest_since_copy : DefAt K mg "fewest_since_copy" s_fewest_since_copy) (D_copy_point : DefAt K mg "copy_point" s_copy_point) (D_run : DefAt K mg "run" s_run) (D_apply_capped : DefAt K mg "apply_capped" s_apply_capped) (D_dropped : DefAt K mg "dropped" s_dropped) (D_caps_for : DefAt K mg "caps_for" s_caps_for) (D_hidden_actions : DefAt K mg "hidden_actions" s_hidden_actions) (D_places_for : DefAt K mg "places_for" s_places_for) (D__law_third_right : DefAt K mg "_law_third_right" s__law_third_right) (z_abs : mg "abs" = none) (z_enumerate : mg "enumerate" = none) (z_len : mg "len" = none) (z_list : mg "list" = none) (z_max : mg "max" = none) (z_min : mg "min" = none) (z_range : mg "range" = none) (z_sorted : mg "sorted" = none) (z_sum : mg "sum" = none) (z_tuple : mg "tuple" = none) (m_MAX_PAGES : GlobV mg "MAX_PAGES" (.int 12)) :
    ∃ fd : FuncData, (∀ (s : Shared) (v : Value), BindsTo s fd ⟨[v], []⟩ [("my_script", v)]) ∧ ∀ base : Heap, K.In base → base.Ns mainGlobals mg → FnOk l.prog w K mg base CX0 18 fa fd ["my_script"] (spLaw K) :=
  law_headX X G hfa a lk c kp bi_law fun base fd D => by
    have G__law_draw := kn__law_draw (P := l.prog) (w := w) (base := base) D__law_draw z_len
    have G_common := kn_common (P := l.prog) (w := w) (base := base) D_common z_min z_len
    have G_kept_pages := kn_kept_pages (P := l.prog) (w := w) (base := base) D_kept_pages G_common z_min z_len
    have W_distance := knB_distance (P := l.prog) (w := w) (base := base) D_distance G_kept_pages z_abs z_min z_len
    have G_distance := W_distance.known
    have G_most_forward := kn_most_forward (P := l.prog) (w := w) (base := base) D_most_forward G_kept_pages z_max
    have W_count_plans := knB_count_plans (P := l.prog) (w := w) (base := base) D_count_plans G_distance G_most_forward z_len
    have G_count_plans := W_count_plans.known
    have W_plan_at := knB_plan_at (P := l.prog) (w := w) (base := base) D_plan_at G_count_plans G_most_forward G_kept_pages z_max z_tuple z_len
    have G_plan_at := W_plan_at.known
    have G_after := kn_after (P := l.prog) (w := w) (base := base) D_after z_max z_min z_len
    have W_apply := knB_apply (P := l.prog) (w := w) (base := base) D_apply G_after
    have G_apply := W_apply.known
    have W_sight := knB_sight (P := l.prog) (w := w) (base := base) D_sight z_len
    have G_sight := W_sight.known
    have W_trail := knB_trail (P := l.prog) (w := w) (base := base) D_trail G_sight G_after
    have G_trail := W_trail.known
    have W_apply_with_menu := knB_apply_with_menu (P := l.prog) (w := w) (base := base) D_apply_with_menu G_after z_len
    have G_apply_with_menu := W_apply_with_menu.known
    have G_jump := kn_jump (P := l.prog) (w := w) (base := base) D_jump 
    have G_plan_with_menu := kn_plan_with_menu (P := l.prog) (w := w) (base := base) D_plan_with_menu G_jump G_kept_pages z_len z_min z_tuple
    have W_distance_with_menu := knB_distance_with_menu (P := l.prog) (w := w) (base := base) D_distance_with_menu G_plan_with_menu z_len
    have G_distance_with_menu := W_distance_with_menu.known
    have G__law_first_right := kn__law_first_right (P := l.prog) (w := w) (base := base) D__law_first_right G_plan_at G_distance W_apply W_trail W_sight W_distance W_count_plans W_plan_at W_apply_with_menu W_distance_with_menu
    have G_steps := kn_steps (P := l.prog) (w := w) (base := base) D_steps G_after G_sight
    have G_count_from := kn_count_from (P := l.prog) (w := w) (base := base) D_count_from G_steps z_len z_sum 12
    have W_sure_actions := knB_sure_actions (P := l.prog) (w := w) (base := base) D_sure_actions G_count_from G_steps z_enumerate z_len
    have G_sure_actions := W_sure_actions.known
    have W_fewest_to_sighting := knB_fewest_to_sighting (P := l.prog) (w := w) (base := base) D_fewest_to_sighting z_enumerate z_len z_abs z_min
    have G_fewest_to_sighting := W_fewest_to_sighting.known
    have G_count_actions := kn_count_actions (P := l.prog) (w := w) (base := base) D_count_actions z_len
    have G_differs := kn_differs (P := l.prog) (w := w) (base := base) D_differs G_apply z_tuple z_range
    have W_difference := knB_difference (P := l.prog) (w := w) (base := base) D_difference G_count_actions G_differs z_max z_range z_min
    have G_difference := W_difference.known
    have W_equal := knB_equal (P := l.prog) (w := w) (base := base) D_equal G_difference
    have G_equal := W_equal.known
    have W_redundant_steps := knB_redundant_steps (P := l.prog) (w := w) (base := base) D_redundant_steps G_equal z_range z_len
    have G_redundant_steps := W_redundant_steps.known
    have W_count_explanations := knB_count_explanations (P := l.prog) (w := w) (base := base) D_count_explanations G_count_from
    have G_count_explanations := W_count_explanations.known
    have W_explanation_at := knB_explanation_at (P := l.prog) (w := w) (base := base) D_explanation_at G_count_from G_steps
    have G_explanation_at := W_explanation_at.known
    have G__law_second_right := kn__law_second_right (P := l.prog) (w := w) (base := base) D__law_second_right G_sure_actions G_fewest_to_sighting W_difference W_equal W_redundant_steps W_count_explanations W_sure_actions W_explanation_at W_fewest_to_sighting
    have W_common_beginning := knB_common_beginning (P := l.prog) (w := w) (base := base) D_common_beginning G_common
    have G_common_beginning := W_common_beginning.known
    have G_best_start := kn_best_start (P := l.prog) (w := w) (base := base) D_best_start G_distance z_range z_len
    have W_fewest_since_copy := knB_fewest_since_copy (P := l.prog) (w := w) (base := base) D_fewest_since_copy G_best_start
    have G_fewest_since_copy := W_fewest_since_copy.known
    have W_copy_point := knB_copy_point (P := l.prog) (w := w) (base := base) D_copy_point G_best_start
    have G_copy_point := W_copy_point.known
    have G_run := kn_run (P := l.prog) (w := w) (base := base) D_run G_after z_max z_len
    have W_apply_capped := knB_apply_capped (P := l.prog) (w := w) (base := base) D_apply_capped G_run
    have G_apply_capped := W_apply_capped.known
    have W_dropped := knB_dropped (P := l.prog) (w := w) (base := base) D_dropped G_run
    have G_dropped := W_dropped.known
    have W_caps_for := knB_caps_for (P := l.prog) (w := w) (base := base) D_caps_for G_run z_max z_len z_range m_MAX_PAGES
    have G_caps_for := W_caps_for.known
    have W_hidden_actions := knB_hidden_actions (P := l.prog) (w := w) (base := base) D_hidden_actions G_apply z_sorted z_enumerate
    have G_hidden_actions := W_hidden_actions.known
    have W_places_for := knB_places_for (P := l.prog) (w := w) (base := base) D_places_for G_apply z_range z_len
    have G_places_for := W_places_for.known
    have G__law_third_right := kn__law_third_right (P := l.prog) (w := w) (base := base) D__law_third_right W_common_beginning W_fewest_since_copy W_copy_point W_apply_capped W_dropped W_caps_for W_hidden_actions W_places_for
    exact kn_law D G__law_draw G__law_first_right G__law_second_right G__law_third_right z_list
end BF
open PySem PySem.W PyProof.Rows
set_option maxHeartbeats 0 in
theorem PySem.Challenge.cw_backforward_k22_worked_examples_and_name_holds : PySem.Challenge.rw_backforward_k22_worked_examples_and_name.Holds := by
  w_on; o_law; k_head; (case hw => w_witness2)
  k_fill
  refine L2.walk_of (l := PySem.Challenge.rw_backforward_k22_worked_examples_and_name) (n := 63) (k := 18) (x := "my_script") (CX := fun _ => L2.CX0) (sp := fun w => BF.spLaw _) rfl (by decide) rfl ⟨rfl, by decide, by decide⟩ (fun w h Y => PySem.W.kIn_of Y) ?F (fun _ H a ns hl ho hS => ⟨a, ns, rfl, ho, hS, hl, fun _ => rfl⟩) (fun _ _ _ _ _ h => h)
  case F =>
    intro w mg fa h KX G hmg
    refine' BF.all_k22 KX G hmg ?a0 ?l0 ?c0 ?k0 (BF.defAt KX G ?a1 ?l1 ?c1 ?k1) (BF.defAt KX G ?a2 ?l2 ?c2 ?k2) (BF.defAt KX G ?a3 ?l3 ?c3 ?k3) (BF.defAt KX G ?a4 ?l4 ?c4 ?k4) (BF.defAt KX G ?a5 ?l5 ?c5 ?k5) (BF.defAt KX G ?a6 ?l6 ?c6 ?k6) (BF.defAt KX G ?a7 ?l7 ?c7 ?k7) (BF.defAt KX G ?a8 ?l8 ?c8 ?k8) (BF.defAt KX G ?a9 ?l9 ?c9 ?k9) (BF.defAt KX G ?a10 ?l10 ?c10 ?k10) (BF.defAt KX G ?a11 ?l11 ?c11 ?k11) (BF.defAt KX G ?a12 ?l12 ?c12 ?k12) (BF.defAt KX G ?a13 ?l13 ?c13 ?k13) (BF.defAt KX G ?a14 ?l14 ?c14 ?k14) (BF.defAt KX G ?a15 ?l15 ?c15 ?k15) (BF.defAt KX G ?a16 ?l16 ?c16 ?k16) (BF.defAt KX G ?a17 ?l17 ?c17 ?k17) (BF.defAt KX G ?a18 ?l18 ?c18 ?k18) (BF.defAt KX G ?a19 ?l19 ?c19 ?k19) (BF.defAt KX G ?a20 ?l20 ?c20 ?k20) (BF.defAt KX G ?a21 ?l21 ?c21 ?k21) (BF.defAt KX G ?a22 ?l22 ?c22 ?k22) (BF.defAt KX G ?a23 ?l23 ?c23 ?k23) (BF.defAt KX G ?a24 ?l24 ?c24 ?k24) (BF.defAt KX G ?a25 ?l25 ?c25 ?k25) (BF.defAt KX G ?a26 ?l26 ?c26 ?k26) (BF.defAt KX G ?a27 ?l27 ?c27 ?k27) (BF.defAt KX G ?a28 ?l28 ?c28 ?k28) (BF.defAt KX G ?a29 ?l29 ?c29 ?k29) (BF.defAt KX G ?a30 ?l30 ?c30 ?k30) (BF.defAt KX G ?a31 ?l31 ?c31 ?k31) (BF.defAt KX G ?a32 ?l32 ?c32 ?k32) (BF.defAt KX G ?a33 ?l33 ?c33 ?k33) (BF.defAt KX G ?a34 ?l34 ?c34 ?k34) (BF.defAt KX G ?a35 ?l35 ?c35 ?k35) (BF.defAt KX G ?a36 ?l36 ?c36 ?k36) (BF.defAt KX G ?a37 ?l37 ?c37 ?k37) (BF.defAt KX G ?a38 ?l38 ?c38 ?k38) (BF.defAt KX G ?a39 ?l39 ?c39 ?k39) (PySem.W.mg_none_of KX G ?z_abs) (PySem.W.mg_none_of KX G ?z_enumerate) (PySem.W.mg_none_of KX G ?z_len) (PySem.W.mg_none_of KX G ?z_list) (PySem.W.mg_none_of KX G ?z_max) (PySem.W.mg_none_of KX G ?z_min) (PySem.W.mg_none_of KX G ?z_range) (PySem.W.mg_none_of KX G ?z_sorted) (PySem.W.mg_none_of KX G ?z_sum) (PySem.W.mg_none_of KX G ?z_tuple) ⟨_, PySem.W.mg_of KX G ?m_MAX_PAGES, ⟨_, ?r_MAX_PAGES⟩⟩
    (case a0 => k_is); (case l0 => k_is); (case c0 => k_is); (case k0 => k_is); (case a1 => k_is); (case l1 => k_is); (case c1 => k_is); (case k1 => k_is); (case a2 => k_is); (case l2 => k_is); (case c2 => k_is); (case k2 => k_is); (case a3 => k_is); (case l3 => k_is); (case c3 => k_is); (case k3 => k_is); (case a4 => k_is); (case l4 => k_is); (case c4 => k_is); (case k4 => k_is); (case a5 => k_is); (case l5 => k_is); (case c5 => k_is); (case k5 => k_is); (case a6 => k_is); (case l6 => k_is); (case c6 => k_is); (case k6 => k_is); (case a7 => k_is); (case l7 => k_is); (case c7 => k_is); (case k7 => k_is); (case a8 => k_is); (case l8 => k_is); (case c8 => k_is); (case k8 => k_is); (case a9 => k_is); (case l9 => k_is); (case c9 => k_is); (case k9 => k_is); (case a10 => k_is); (case l10 => k_is); (case c10 => k_is); (case k10 => k_is); (case a11 => k_is); (case l11 => k_is); (case c11 => k_is); (case k11 => k_is); (case a12 => k_is); (case l12 => k_is); (case c12 => k_is); (case k12 => k_is); (case a13 => k_is); (case l13 => k_is); (case c13 => k_is); (case k13 => k_is); (case a14 => k_is); (case l14 => k_is); (case c14 => k_is); (case k14 => k_is); (case a15 => k_is); (case l15 => k_is); (case c15 => k_is); (case k15 => k_is); (case a16 => k_is); (case l16 => k_is); (case c16 => k_is); (case k16 => k_is); (case a17 => k_is); (case l17 => k_is); (case c17 => k_is); (case k17 => k_is); (case a18 => k_is); (case l18 => k_is); (case c18 => k_is); (case k18 => k_is); (case a19 => k_is); (case l19 => k_is); (case c19 => k_is); (case k19 => k_is); (case a20 => k_is); (case l20 => k_is); (case c20 => k_is); (case k20 => k_is); (case a21 => k_is); (case l21 => k_is); (case c21 => k_is); (case k21 => k_is); (case a22 => k_is); (case l22 => k_is); (case c22 => k_is); (case k22 => k_is); (case a23 => k_is); (case l23 => k_is); (case c23 => k_is); (case k23 => k_is); (case a24 => k_is); (case l24 => k_is); (case c24 => k_is); (case k24 => k_is); (case a25 => k_is); (case l25 => k_is); (case c25 => k_is); (case k25 => k_is); (case a26 => k_is); (case l26 => k_is); (case c26 => k_is); (case k26 => k_is); (case a27 => k_is); (case l27 => k_is); (case c27 => k_is); (case k27 => k_is); (case a28 => k_is); (case l28 => k_is); (case c28 => k_is); (case k28 => k_is); (case a29 => k_is); (case l29 => k_is); (case c29 => k_is); (case k29 => k_is); (case a30 => k_is); (case l30 => k_is); (case c30 => k_is); (case k30 => k_is); (case a31 => k_is); (case l31 => k_is); (case c31 => k_is); (case k31 => k_is); (case a32 => k_is); (case l32 => k_is); (case c32 => k_is); (case k32 => k_is); (case a33 => k_is); (case l33 => k_is); (case c33 => k_is); (case k33 => k_is); (case a34 => k_is); (case l34 => k_is); (case c34 => k_is); (case k34 => k_is); (case a35 => k_is); (case l35 => k_is); (case c35 => k_is); (case k35 => k_is); (case a36 => k_is); (case l36 => k_is); (case c36 => k_is); (case k36 => k_is); (case a37 => k_is); (case l37 => k_is); (case c37 => k_is); (case k37 => k_is); (case a38 => k_is); (case l38 => k_is); (case c38 => k_is); (case k38 => k_is); (case a39 => k_is); (case l39 => k_is); (case c39 => k_is); (case k39 => k_is); (case z_abs => k_is); (case z_enumerate => k_is); (case z_len => k_is); (case z_list => k_is); (case z_max => k_is); (case z_min => k_is); (case z_range => k_is); (case z_sorted => k_is); (case z_sum => k_is); (case z_tuple => k_is); (case m_MAX_PAGES => k_is); (case r_MAX_PAGES => exact rfl)
