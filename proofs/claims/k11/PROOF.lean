import PyProof.Rows.All
import Wide.All
import OpenK.AllK
import Wide.FinOn
import HandS.ForMost
import HandS.TupAny
import HandS.TupMul
import HandS.Zip
import HandS.Wide
import HandS.IsInst
import HandS.Flow
import HandS.Style
import HandS.Steps
import HandS.Conv
import KE.KTupSum
import HandS.Dict
import KE.KDictKeyed
import KE.KDictDisplayH
import HandS.Iter
import HandS.Flt
import HandS.More
import HandS.Deep
import KE.GoesEnum
import KE.SortData
import HandS.TupSets
import KE.DataFind
import PySem.Challenge.RW_backforward_k11_redundant_steps
set_option Elab.async false
set_option linter.all false
set_option autoImplicit false
/-! The plain reading: values, memory, and what each construct computes. -/
namespace BF
open PySem

inductive W where
  | non
  | bl (b : Bool)
  | int (i : Int)
  | str (x : Str)
  | tup (ws : List W)
  | ref (n : Nat)

instance : Inhabited W := ⟨.non⟩

mutual
def W.beq : W → W → Bool
  | .non, .non => true
  | .bl a, .bl b => a == b
  | .int a, .int b => decide (a = b)
  | .str a, .str b => decide (a = b)
  | .tup a, .tup b => W.beqs a b
  | .ref a, .ref b => decide (a = b)
  | .non, .bl _ | .non, .int _ | .non, .str _ | .non, .tup _ | .non, .ref _ => false
  | .bl _, .non | .bl _, .int _ | .bl _, .str _ | .bl _, .tup _ | .bl _, .ref _ => false
  | .int _, .non | .int _, .bl _ | .int _, .str _ | .int _, .tup _ | .int _, .ref _ => false
  | .str _, .non | .str _, .bl _ | .str _, .int _ | .str _, .tup _ | .str _, .ref _ => false
  | .tup _, .non | .tup _, .bl _ | .tup _, .int _ | .tup _, .str _ | .tup _, .ref _ => false
  | .ref _, .non | .ref _, .bl _ | .ref _, .int _ | .ref _, .str _ | .ref _, .tup _ => false
def W.beqs : List W → List W → Bool
  | [], [] => true
  | a :: as, b :: bs => W.beq a b && W.beqs as bs
  | [], _ :: _ => false
  | _ :: _, [] => false
end
mutual
theorem W.beq_self : ∀ a : W, W.beq a a = true
  | .non => rfl
  | .bl a => by simp [W.beq]
  | .int a => by simp [W.beq]
  | .str a => by simp [W.beq]
  | .tup a => by rw [W.beq]; exact W.beqs_self a
  | .ref a => by simp [W.beq]
theorem W.beqs_self : ∀ a : List W, W.beqs a a = true
  | [] => rfl
  | a :: as => by rw [W.beqs, W.beq_self a, W.beqs_self as]; rfl
end
mutual
theorem W.eq_of_beq : ∀ a b : W, W.beq a b = true → a = b
  | .non, b, h => by cases b <;> simp [W.beq] at h; rfl
  | .bl a, b, h => by cases b <;> simp [W.beq] at h; rw [h]
  | .int a, b, h => by cases b <;> simp [W.beq] at h; rw [h]
  | .str a, b, h => by cases b <;> simp [W.beq] at h; rw [h]
  | .tup a, b, h => by
    cases b with
    | tup b => rw [W.beq] at h; rw [W.eq_of_beqs a b h]
    | _ => simp [W.beq] at h
  | .ref a, b, h => by cases b <;> simp [W.beq] at h; rw [h]
theorem W.eq_of_beqs : ∀ a b : List W, W.beqs a b = true → a = b
  | [], b, h => by
    cases b with
    | nil => rfl
    | cons _ _ => simp [W.beqs] at h
  | a :: as, b, h => by
    cases b with
    | nil => simp [W.beqs] at h
    | cons b bs =>
      rw [W.beqs, Bool.and_eq_true] at h
      rw [W.eq_of_beq a b h.1, W.eq_of_beqs as bs h.2]
end
instance : DecidableEq W := fun a b =>
  if h : W.beq a b = true then .isTrue (W.eq_of_beq a b h) else .isFalse fun e => h (e ▸ W.beq_self a)

/-- a dict keyed by nested tuples; a dict that is walked (keys: numbers and texts; nested tuples) -/
inductive DM where
  | nest
  | lockF
  | lockN
  deriving DecidableEq
/-- what stands at an id: a list (made here), a list that is only read, a dict, one with int and text keys -/
inductive MO where
  | lst (ws : List W)
  | ro (ws : List W)
  | dT (m : DM) (kvs : List (W × W))
  | dK (kvs : List (W × W))
  deriving DecidableEq

abbrev Mem := List MO
abbrev Sl := List (Option W)
abbrev CE := Sl → Mem → Option (W × Mem)
abbrev CA := Sl → Mem → Option (List W × Mem)
abbrev CT := Sl → Mem → Option (Bool × Mem)
abbrev Fn := List W → Mem → Option (W × Mem)
inductive Out where
  | nx (σ : Sl) (M : Mem)
  | rt (w : W) (M : Mem)
  | bk (σ : Sl) (M : Mem)
  | ct (σ : Sl) (M : Mem)
abbrev CS := Sl → Mem → Option Out
abbrev CG := W → Sl → Option Sl
/-- what a loop walks: the items, and what must stay true of the memory meanwhile -/
abbrev CI := Sl → Mem → Option (List W × (Mem → Bool) × Mem)


/-! ### expressions -/
def eV (i : Nat) : CE := fun σ M => match σ.getD i none with
  | some w => some (w, M)
  | none => none
def eL (w : W) : CE := fun _ M => some (w, M)
def e1 (f : Mem → W → Option (W × Mem)) (a : CE) : CE := fun σ M => (a σ M).bind fun p => f p.2 p.1
def e2 (f : Mem → W → W → Option (W × Mem)) (a b : CE) : CE := fun σ M =>
  (a σ M).bind fun p => (b σ p.2).bind fun q => f q.2 p.1 q.1
def eArgs : List CE → CA
  | [] => fun _ M => some ([], M)
  | a :: as => fun σ M => (a σ M).bind fun p => (eArgs as σ p.2).bind fun q => some (p.1 :: q.1, q.2)
def eN (f : Fn) (as : List CE) : CE := fun σ M => (eArgs as σ M).bind fun p => f p.1 p.2
def eTup (as : List CE) : CE := fun σ M => (eArgs as σ M).bind fun p =>
  if p.1.length ≤ 16777216 then some (.tup p.1, p.2) else none
def eLst (as : List CE) : CE := fun σ M => (eArgs as σ M).bind fun p =>
  if p.1.length ≤ 16777216 then some (.ref p.2.length, p.2 ++ [.lst p.1]) else none
def eIf (t : CT) (a b : CE) : CE := fun σ M => (t σ M).bind fun p => if p.1 = true then a σ p.2 else b σ p.2
/-- a and b, a or b, not a: of truth values -/
def eAnd (a b : CE) : CE := fun σ M => (a σ M).bind fun p => match p.1 with
  | .bl true => b σ p.2
  | .bl false => some (.bl false, p.2)
  | _ => none
def eOr (a b : CE) : CE := fun σ M => (a σ M).bind fun p => match p.1 with
  | .bl true => some (.bl true, p.2)
  | .bl false => b σ p.2
  | _ => none
def eNot (a : CE) : CE := fun σ M => (a σ M).bind fun p => match p.1 with
  | .bl c => some (.bl (!c), p.2)
  | _ => none
/-- a op b op' c -/
def eChain (f g : Mem → W → W → Option (W × Mem)) (a b c : CE) : CE := fun σ M =>
  (a σ M).bind fun p => (b σ p.2).bind fun q => (f q.2 p.1 q.1).bind fun r => match r.1 with
    | .bl true => (c σ r.2).bind fun t => g t.2 q.1 t.1
    | .bl false => some (.bl false, r.2)
    | _ => none

/-! ### tests -/
def tB (e : CE) : CT := fun σ M => (e σ M).bind fun p => match p.1 with
  | .bl c => some (c, p.2)
  | _ => none
def tAnd (a b : CT) : CT := fun σ M => (a σ M).bind fun p => if p.1 = true then b σ p.2 else some (false, p.2)
def tOr (a b : CT) : CT := fun σ M => (a σ M).bind fun p => if p.1 = true then some (true, p.2) else b σ p.2
def tNot (a : CT) : CT := fun σ M => (a σ M).bind fun p => some (!p.1, p.2)
def tTrue : CT := fun _ M => some (true, M)

/-! ### targets -/
def gV (i : Nat) : CG := fun w σ => some (σ.set i (some w))
def gAll : List CG → List W → Sl → Option Sl
  | [], [], σ => some σ
  | g :: gs, w :: ws, σ => (g w σ).bind fun σ1 => gAll gs ws σ1
  | _, _, _ => none
def gT (gs : List CG) : CG := fun w σ => match w with
  | .tup ws => gAll gs ws σ
  | _ => none

/-! ### statements -/
def sSet (g : CG) (e : CE) : CS := fun σ M => (e σ M).bind fun p => (g p.1 σ).bind fun σ1 => some (.nx σ1 p.2)
/-- a, b = x, y of plain names -/
def sPar (is : List Nat) (as : List CE) : CS := fun σ M => (eArgs as σ M).bind fun p =>
  if p.1.length = is.length then some (.nx ((is.zip p.1).foldl (fun σ q => σ.set q.1 (some q.2)) σ) p.2) else none
def sAug (i : Nat) (f : Mem → W → W → Option (W × Mem)) (e : CE) : CS := fun σ M => match σ.getD i none with
  | some w => (e σ M).bind fun p => (f p.2 w p.1).bind fun q => some (.nx (σ.set i (some q.1)) q.2)
  | none => none
/-- o[k] = e -/
def sPut (f : Mem → W → W → W → Option Mem) (o k e : CE) : CS := fun σ M =>
  (e σ M).bind fun p => (o σ p.2).bind fun q => (k σ q.2).bind fun r => (f r.2 q.1 r.1 p.1).bind fun M' => some (.nx σ M')
def sExpr (e : CE) : CS := fun σ M => (e σ M).bind fun p => some (.nx σ p.2)
def sRet (e : CE) : CS := fun σ M => (e σ M).bind fun p => some (.rt p.1 p.2)
def sNil : CS := fun σ M => some (.nx σ M)
def sBreak : CS := fun σ M => some (.bk σ M)
def sSeq (a b : CS) : CS := fun σ M => (a σ M).bind fun o => match o with
  | .nx σ' M' => b σ' M'
  | .rt w M' => some (.rt w M')
  | .bk σ' M' => some (.bk σ' M')
  | .ct σ' M' => some (.ct σ' M')
def sIf (t : CT) (a b : CS) : CS := fun σ M => (t σ M).bind fun p => if p.1 = true then a σ p.2 else b σ p.2
def forL (gd : Mem → Bool) (g : CG) (body : CS) : List W → CS
  | [], σ, M => if gd M = true then some (.nx σ M) else none
  | w :: ws, σ, M => if gd M = true then (g w σ).bind fun σ1 => (body σ1 M).bind fun o => match o with
      | .nx σ' M' => forL gd g body ws σ' M'
      | .ct σ' M' => forL gd g body ws σ' M'
      | .bk σ' M' => some (.nx σ' M')
      | .rt w M' => some (.rt w M')
    else none
def sFor (it : CI) (g : CG) (body : CS) : CS := fun σ M => (it σ M).bind fun p => forL p.2.1 g body p.1 σ p.2.2
def whileL (t : CT) (body : CS) : Nat → CS
  | 0, _, _ => none
  | n + 1, σ, M => (t σ M).bind fun p => if p.1 = true then (body σ p.2).bind fun o => match o with
      | .nx σ' M' => whileL t body n σ' M'
      | .ct σ' M' => whileL t body n σ' M'
      | .bk σ' M' => some (.nx σ' M')
      | .rt w M' => some (.rt w M')
    else some (.nx σ p.2)
def sWhile (n : Nat) (t : CT) (body : CS) : CS := whileL t body n

/-! ### what is walked -/
def gdT : Mem → Bool := fun _ => true
def iTup (e : CE) : CI := fun σ M => (e σ M).bind fun p => match p.1 with
  | .tup ws => some (ws, gdT, p.2)
  | _ => none
def iLst (e : CE) : CI := fun σ M => (e σ M).bind fun p => match p.1 with
  | .ref n => match p.2[n]? with
    | some (.lst ws) => some (ws, fun M' => decide (M'[n]? = some (.lst ws)), p.2)
    | some (.ro ws) => some (ws, fun M' => decide (M'[n]? = some (.ro ws)), p.2)
    | _ => none
  | _ => none
def rangeW (lo : Int) (n : Nat) : List W := (List.range n).map fun i => .int (lo + (i : Nat))
def small62 (i : Int) : Bool := Nat.ble i.natAbs 4611686018427387903
theorem small62_of {i : Int} (h : i.natAbs ≤ 4611686018427387903) : small62 i = true := Nat.ble_eq_true_of_le h
def iRange1 (e : CE) : CI := fun σ M => (e σ M).bind fun p => match p.1 with
  | .int j => if small62 j = true then some (rangeW 0 j.toNat, gdT, p.2) else none
  | _ => none
def iRange2 (a b : CE) : CI := fun σ M => (a σ M).bind fun p => (b σ p.2).bind fun q => match p.1, q.1 with
  | .int i, .int j => if small62 i = true ∧ small62 j = true then some (rangeW i (j - i).toNat, gdT, q.2) else none
  | _, _ => none
def enumW (ws : List W) : List W := ws.zipIdx.map fun p => .tup [.int (p.2 : Nat), p.1]
def iEnumT (e : CE) : CI := fun σ M => (e σ M).bind fun p => match p.1 with
  | .tup ws => some (enumW ws, gdT, p.2)
  | _ => none
def iEnumL (e : CE) : CI := fun σ M => (e σ M).bind fun p => match p.1 with
  | .ref n => match p.2[n]? with
    | some (.lst ws) => some (enumW ws, fun M' => decide (M'[n]? = some (.lst ws)), p.2)
    | _ => none
  | _ => none
def zipW (xs ys : List W) : List W := (xs.zip ys).map fun p => .tup [p.1, p.2]
def iZipT (a b : CE) : CI := fun σ M => (a σ M).bind fun p => (b σ p.2).bind fun q => match p.1, q.1 with
  | .tup xs, .tup ys => some (zipW xs ys, gdT, q.2)
  | _, _ => none

/-! ### a list comprehension -/
def wipe (σ : Sl) : List Nat → Sl
  | [] => σ
  | v :: vs => (wipe σ vs).set v none
def lcL (gd : Mem → Bool) (g : CG) (t : CT) (e : CE) (vs : List Nat) (σ : Sl) (D : Nat) : List W → Mem → Option Mem
  | [], M => if gd M = true then some M else none
  | w :: ws, M => if gd M = true then (g w (wipe σ vs)).bind fun σ1 => (t σ1 M).bind fun p => if p.1 = true then
        (e σ1 p.2).bind fun q => match q.2[D]? with
          | some (.lst acc) => if acc.length < 16777216 then lcL gd g t e vs σ D ws (q.2.set D (.lst (acc ++ [q.1]))) else none
          | _ => none
      else lcL gd g t e vs σ D ws p.2
    else none
def eLc (it : CI) (g : CG) (t : CT) (e : CE) (vs : List Nat) : CE := fun σ M => (it σ M).bind fun p =>
  (lcL p.2.1 g t e vs σ p.2.2.length p.1 (p.2.2 ++ [.lst []])).bind fun M' => some (.ref p.2.2.length, M')

/-! ### data -/
def mapO {α β : Type} (f : α → Option β) : List α → Option (List β)
  | [] => some []
  | a :: as => match f a, mapO f as with
    | some b, some bs => some (b :: bs)
    | _, _ => none
def toD (M : Mem) : Nat → W → Option PyData
  | 0, _ => none
  | _ + 1, .non => some .none
  | _ + 1, .bl b => some (.bool b)
  | _ + 1, .int i => some (.int i)
  | _ + 1, .str x => some (.str x)
  | k + 1, .tup ws => (mapO (toD M k) ws).map .tuple
  | k + 1, .ref n => match M[n]? with
    | some (.lst ws) => (mapO (toD M k) ws).map .list
    | some (.ro ws) => (mapO (toD M k) ws).map .list
    | _ => none
/-- x == y of data -/
def eqW (M : Mem) (x y : W) : Option Bool := match toD M 64 x, toD M 64 y with
  | some d, some e => some (PyData.eqv d e)
  | _, _ => none

/-! ### operations -/
def gAdd (M : Mem) (x y : W) : Option (W × Mem) := match x, y with
  | .int i, .int j => some (.int (i + j), M)
  | .str a, .str b => if a.length + b.length ≤ 16777216 then some (.str (a ++ b), M) else none
  | .tup a, .tup b => if a.length + b.length ≤ 16777216 then some (.tup (a ++ b), M) else none
  | .ref a, .ref b => match M[a]?, M[b]? with
    | some (.lst xs), some (.lst ys) => if xs.length + ys.length ≤ 16777216 then some (.ref M.length, M ++ [.lst (xs ++ ys)]) else none
    | _, _ => none
  | _, _ => none
def gSub (M : Mem) (x y : W) : Option (W × Mem) := match x, y with
  | .int i, .int j => some (.int (i - j), M)
  | _, _ => none
def small64 (i : Int) : Bool := Nat.ble i.natAbs 18446744073709551615
theorem small64_of {i : Int} (h : i.natAbs ≤ 18446744073709551615) : small64 i = true := Nat.ble_eq_true_of_le h
/-- products of ints, one of them small; a tuple k times -/
def gMul (M : Mem) (x y : W) : Option (W × Mem) := match x, y with
  | .int i, .int j => if small64 i = true ∨ small64 j = true then some (.int (i * j), M) else none
  | _, _ => none
def gRep (M : Mem) (x y : W) : Option (W × Mem) := match x, y with
  | .tup a, .int k => if a.length ≤ 1000 ∧ k ≤ 1000 then some (.tup (List.replicate k.toNat a).flatten, M) else none
  | _, _ => none
def gMod (M : Mem) (x y : W) : Option (W × Mem) := match x, y with
  | .int i, .int j => if 0 < j then some (.int (i % j), M) else none
  | _, _ => none
def gDiv (M : Mem) (x y : W) : Option (W × Mem) := match x, y with
  | .int i, .int j => if 0 < j ∧ small64 j = true then some (.int (i / j), M) else none
  | _, _ => none
def gPow (M : Mem) (x y : W) : Option (W × Mem) := match x, y with
  | .int i, .int j => if 0 ≤ j ∧ j ≤ 1000 ∧ small62 i = true then some (.int (i ^ j.toNat), M) else none
  | _, _ => none
def gNeg (M : Mem) (x : W) : Option (W × Mem) := match x with
  | .int i => some (.int (-i), M)
  | _ => none
def gLt (M : Mem) (x y : W) : Option (W × Mem) := match x, y with
  | .int i, .int j => some (.bl (decide (i < j)), M)
  | _, _ => none
def gLe (M : Mem) (x y : W) : Option (W × Mem) := match x, y with
  | .int i, .int j => some (.bl (decide (i ≤ j)), M)
  | _, _ => none
def gGt (M : Mem) (x y : W) : Option (W × Mem) := match x, y with
  | .int i, .int j => some (.bl (decide (j < i)), M)
  | _, _ => none
def gGe (M : Mem) (x y : W) : Option (W × Mem) := match x, y with
  | .int i, .int j => some (.bl (decide (j ≤ i)), M)
  | _, _ => none
def gEq (M : Mem) (x y : W) : Option (W × Mem) := (eqW M x y).map fun b => (.bl b, M)
def gNe (M : Mem) (x y : W) : Option (W × Mem) := (eqW M x y).map fun b => (.bl (!b), M)
def isN : W → Bool
  | .non => true
  | _ => false
def gIsN (M : Mem) (x : W) : Option (W × Mem) := some (.bl (isN x), M)
def gNotN (M : Mem) (x : W) : Option (W × Mem) := some (.bl (!isN x), M)
/-- the place that an index means -/
def ixW (n : Nat) (i : Int) : Option Nat := if 0 ≤ i then (if i < n then some i.toNat else none) else if -(n : Int) ≤ i then some (i + n).toNat else none
def gIx (M : Mem) (x y : W) : Option (W × Mem) := match x, y with
  | .tup a, .int i => ((ixW a.length i).bind fun j => a[j]?).map fun w => (w, M)
  | .ref n, .int i => match M[n]? with
    | some (.lst a) => ((ixW a.length i).bind fun j => a[j]?).map fun w => (w, M)
    | some (.ro a) => ((ixW a.length i).bind fun j => a[j]?).map fun w => (w, M)
    | _ => none
  | _, _ => none
/-- a slice's bound -/
def sIx (n d : Nat) : Option Int → Nat
  | none => d
  | some v => if v < 0 then (v + (n : Int)).toNat else min v.toNat n
def cutW {α : Type} (xs : List α) (lo hi : Option Int) : List α := (xs.drop (sIx xs.length 0 lo)).take (sIx xs.length xs.length hi - sIx xs.length 0 lo)
def partW : Option W → Option (Option Int)
  | none => some none
  | some (.int i) => some (some i)
  | _ => none
def gSl (M : Mem) (x : W) (lo hi : Option Int) : Option (W × Mem) := match x with
  | .tup a => some (.tup (cutW a lo hi), M)
  | .ref n => match M[n]? with
    | some (.lst a) => some (.ref M.length, M ++ [.lst (cutW a lo hi)])
    | _ => none
  | _ => none
def ePart (e : Option CE) : Sl → Mem → Option (Option Int × Mem) := fun σ M => match e with
  | none => some (none, M)
  | some c => (c σ M).bind fun p => match p.1 with
    | .int i => some (some i, p.2)
    | _ => none
def eSl (e : CE) (lo hi : Option CE) : CE := fun σ M => (e σ M).bind fun p => (ePart lo σ p.2).bind fun q => (ePart hi σ q.2).bind fun r => gSl r.2 p.1 q.1 r.1

/-! ### calls of built-ins -/
def pLen : Fn := fun ws M => match ws with
  | [.tup a] => some (.int a.length, M)
  | [.ref n] => match M[n]? with
    | some (.lst a) => some (.int a.length, M)
    | some (.ro a) => some (.int a.length, M)
    | _ => none
  | _ => none
def pMin : Fn := fun ws M => match ws with
  | [.int i, .int j] => some (.int (if j < i then j else i), M)
  | _ => none
def pMax : Fn := fun ws M => match ws with
  | [.int i, .int j] => some (.int (if j > i then j else i), M)
  | _ => none
def pAbs : Fn := fun ws M => match ws with
  | [.int i] => some (.int (if i < 0 then -i else i), M)
  | _ => none
def pList : Fn := fun ws M => match ws with
  | [.tup a] => some (.ref M.length, M ++ [.lst a])
  | [.ref n] => match M[n]? with
    | some (.lst a) => some (.ref M.length, M ++ [.lst a])
    | some (.ro a) => some (.ref M.length, M ++ [.lst a])
    | _ => none
  | _ => none
def pTuple : Fn := fun ws M => match ws with
  | [.tup a] => some (.tup a, M)
  | [.ref n] => match M[n]? with
    | some (.lst a) => some (.tup a, M)
    | some (.ro a) => some (.tup a, M)
    | _ => none
  | _ => none
/-- a value's built-in class -/
def tyW (M : Mem) (w : W) : Option String := match w with
  | .non => some "NoneType"
  | .bl _ => some "bool"
  | .int _ => some "int"
  | .str _ => some "str"
  | .tup _ => some "tuple"
  | .ref n => match M[n]? with
    | some (.lst _) => some "list"
    | some (.ro _) => some "list"
    | _ => none
def isTy (C T : String) : Bool := T == C || (T == "bool" && C == "int")
def gIsi (C : String) (M : Mem) (x : W) : Option (W × Mem) := (tyW M x).map fun T => (.bl (isTy C T), M)
def gIsi2 (C D : String) (M : Mem) (x : W) : Option (W × Mem) := (tyW M x).map fun T => (.bl (isTy C T || isTy D T), M)
/-! ### methods of lists -/
def mAppend : Fn := fun ws M => match ws with
  | [.ref n, w] => match M[n]? with
    | some (.lst a) => if a.length < 16777216 then some (.non, M.set n (.lst (a ++ [w]))) else none
    | _ => none
  | _ => none
def mPop : Fn := fun ws M => match ws with
  | [.ref n] => match M[n]? with
    | some (.lst a) => a[a.length - 1]?.map fun w => (w, M.set n (.lst a.dropLast))
    | _ => none
  | _ => none
def mPopAt : Fn := fun ws M => match ws with
  | [.ref n, .int i] => match M[n]? with
    | some (.lst a) => if small62 i = true then (ixW a.length i).bind fun j => a[j]?.map fun w => (w, M.set n (.lst (a.eraseIdx j))) else none
    | _ => none
  | _ => none
def isLst (M : Mem) (w : W) : Bool := match w with
  | .ref n => match M[n]? with
    | some (.lst _) => true
    | _ => false
  | _ => false
/-- o.m(..), o a list -/
def eML (f : Fn) (o : CE) (as : List CE) : CE := fun σ M => (o σ M).bind fun p => if isLst p.2 p.1 = true then (eArgs as σ p.2).bind fun q => f (p.1 :: q.1) q.2 else none
/-- xs[i] = w -/
def putL (M : Mem) (o k w : W) : Option Mem := match o, k with
  | .ref n, .int i => match M[n]? with
    | some (.lst a) => (ixW a.length i).map fun j => M.set n (.lst (a.set j w))
    | _ => none
  | _, _ => none

/-! ### lists of ints -/
def asInts : List W → Option (List Int)
  | [] => some []
  | .int i :: ws => (asInts ws).map (i :: ·)
  | _ :: _ => none
theorem asInts_map (ns : List Int) : asInts (ns.map W.int) = some ns := by
  induction ns with
  | nil => rfl
  | cons n ns ih => rw [List.map_cons, asInts, ih]; rfl
theorem asInts_some : ∀ {ws : List W} {ns : List Int}, asInts ws = some ns → ws = ns.map W.int
  | [], _, h => by cases h; rfl
  | .int i :: ws, ns, h => by
    rw [asInts] at h
    obtain ⟨ms, h1, rfl⟩ := Option.map_eq_some_iff.mp h
    rw [asInts_some h1]; rfl
  | .non :: _, _, h => by cases h
  | .bl _ :: _, _, h => by cases h
  | .str _ :: _, _, h => by cases h
  | .tup _ :: _, _, h => by cases h
  | .ref _ :: _, _, h => by cases h

theorem rangeW_get {lo : Int} {n i : Nat} {w : W} (h : (rangeW lo n)[i]? = some w) : i < n ∧ w = .int (lo + (i : Nat)) := by
  unfold rangeW at h
  rw [List.getElem?_map] at h
  by_cases hi : i < n
  · rw [List.getElem?_range hi] at h
    cases h
    exact ⟨hi, rfl⟩
  · rw [List.getElem?_eq_none (by simpa using hi)] at h
    cases h
theorem rangeW_length {lo : Int} {n : Nat} : (rangeW lo n).length = n := by simp [rangeW]

/-! ### ids that stand -/
mutual
def W.closed (k : Nat) : W → Bool
  | .ref n => decide (n < k)
  | .tup ws => W.closeds k ws
  | .non | .bl _ | .int _ | .str _ => true
def W.closeds (k : Nat) : List W → Bool
  | [] => true
  | w :: ws => W.closed k w && W.closeds k ws
end
def MO.closed (k : Nat) : MO → Bool
  | .lst ws | .ro ws => W.closeds k ws
  | .dT _ kvs | .dK kvs => kvs.all fun p => p.1.closed k && p.2.closed k
def Closed (M : Mem) : Prop := ∀ mo ∈ M, mo.closed M.length = true
/-- a def's body keeps the promise F: n slots; what it laid besides is forgotten -/
def KeepsP (n : Nat) (body : CS) (F : Fn) : Prop := ∀ ws M w M', Closed M → (∀ x ∈ ws, x.closed M.length = true) → F ws M = some (w, M') →
  ∃ g, (body (ws.map some ++ List.replicate (n - ws.length) none) M = some (.rt w (M' ++ g)) ∨
      w = .non ∧ ∃ σ', body (ws.map some ++ List.replicate (n - ws.length) none) M = some (.nx σ' (M' ++ g))) ∧
    M.length ≤ M'.length ∧ Closed M' ∧ w.closed M'.length = true
/-! ### other ids for the same things -/
mutual
def W.ren (r : Nat → Nat) : W → W
  | .ref n => .ref (r n)
  | .tup ws => .tup (W.rens r ws)
  | .non => .non
  | .bl b => .bl b
  | .int i => .int i
  | .str x => .str x
def W.rens (r : Nat → Nat) : List W → List W
  | [] => []
  | w :: ws => W.ren r w :: W.rens r ws
end
def MO.ren (r : Nat → Nat) : MO → MO
  | .lst ws => .lst (W.rens r ws)
  | .ro ws => .ro (W.rens r ws)
  | .dT m kvs => .dT m (kvs.map fun p => (p.1.ren r, p.2.ren r))
  | .dK kvs => .dK (kvs.map fun p => (p.1.ren r, p.2.ren r))
/-- .. up to the new things' ids -/
def Keeps (n : Nat) (body : CS) (F : Fn) : Prop := ∀ ws M w M', Closed M → (∀ x ∈ ws, x.closed M.length = true) → F ws M = some (w, M') →
  ∃ (r : Nat → Nat) (M2 : Mem), (body (ws.map some ++ List.replicate (n - ws.length) none) M = some (.rt (w.ren r) M2) ∨
      w = .non ∧ ∃ σ', body (ws.map some ++ List.replicate (n - ws.length) none) M = some (.nx σ' M2)) ∧
    (∀ i < M.length, r i = i) ∧ (∀ (i : Nat) (mo : MO), M'[i]? = some mo → M2[r i]? = some (mo.ren r)) ∧ (∀ i j, i < M'.length → j < M'.length → r i = r j → i = j) ∧
    M.length ≤ M'.length ∧ Closed M' ∧ w.closed M'.length = true
mutual
theorem W.ren_id {r : Nat → Nat} (h : ∀ i, r i = i) : ∀ w : W, w.ren r = w
  | .ref n => by rw [W.ren, h]
  | .tup ws => by rw [W.ren, W.rens_id h ws]
  | .non => rfl
  | .bl _ => rfl
  | .int _ => rfl
  | .str _ => rfl
theorem W.rens_id {r : Nat → Nat} (h : ∀ i, r i = i) : ∀ ws : List W, W.rens r ws = ws
  | [] => rfl
  | w :: ws => by rw [W.rens, W.ren_id h w, W.rens_id h ws]
end
theorem MO.ren_id (mo : MO) : mo.ren id = mo := by
  have h : ∀ i : Nat, (id i : Nat) = i := fun _ => rfl
  cases mo with
  | lst ws => rw [MO.ren, W.rens_id h]
  | ro ws => rw [MO.ren, W.rens_id h]
  | dT m kvs => rw [MO.ren]; simp [W.ren_id h]
  | dK kvs => rw [MO.ren]; simp [W.ren_id h]
theorem KeepsP.keeps {n : Nat} {body : CS} {F : Fn} (h : KeepsP n body F) : Keeps n body F := by
  intro ws M w M' hc hw e
  obtain ⟨g, h1, h2, h3, h4⟩ := h ws M w M' hc hw e
  refine ⟨id, M' ++ g, by rw [W.ren_id (r := id) fun _ => rfl]; exact h1, fun _ _ => rfl, fun i mo hi => ?_, fun _ _ _ _ e => e, h2, h3, h4⟩
  rw [MO.ren_id]
  show (M' ++ g)[i]? = _
  rw [List.getElem?_append_left (List.getElem?_eq_some_iff.mp hi).1]; exact hi
mutual
theorem W.ren_eq {r : Nat → Nat} {k : Nat} (h : ∀ i < k, r i = i) : ∀ w : W, w.closed k = true → w.ren r = w
  | .ref n, c => by rw [W.closed] at c; rw [W.ren, h n (of_decide_eq_true c)]
  | .tup ws, c => by rw [W.closed] at c; rw [W.ren, W.rens_eq h ws c]
  | .non, _ => rfl
  | .bl _, _ => rfl
  | .int _, _ => rfl
  | .str _, _ => rfl
theorem W.rens_eq {r : Nat → Nat} {k : Nat} (h : ∀ i < k, r i = i) : ∀ ws : List W, W.closeds k ws = true → W.rens r ws = ws
  | [], _ => rfl
  | w :: ws, c => by
    rw [W.closeds, Bool.and_eq_true] at c
    rw [W.rens, W.ren_eq h w c.1, W.rens_eq h ws c.2]
end
theorem MO.ren_eq {r : Nat → Nat} {k : Nat} (h : ∀ i < k, r i = i) {mo : MO} (c : mo.closed k = true) : mo.ren r = mo := by
  cases mo with
  | lst ws => rw [MO.ren, W.rens_eq h ws c]
  | ro ws => rw [MO.ren, W.rens_eq h ws c]
  | dT m kvs =>
    rw [MO.ren]
    congr 1
    rw [MO.closed, List.all_eq_true] at c
    refine (List.map_congr_left fun p hp => ?_).trans (List.map_id _)
    have := c p hp
    rw [Bool.and_eq_true] at this
    rw [W.ren_eq h _ this.1, W.ren_eq h _ this.2]; rfl
  | dK kvs =>
    rw [MO.ren]
    congr 1
    rw [MO.closed, List.all_eq_true] at c
    refine (List.map_congr_left fun p hp => ?_).trans (List.map_id _)
    have := c p hp
    rw [Bool.and_eq_true] at this
    rw [W.ren_eq h _ this.1, W.ren_eq h _ this.2]; rfl
end BF

set_option Elab.async false
set_option linter.all false
set_option autoImplicit false
set_option maxRecDepth 100000
/-! The plain reading is kept by the program: one rule a construct, lifted from the hand layer's. -/
namespace BF
open PySem PySem.Spec
open PyProof.Rows L2

/-- the known objects, and the world -/
structure KW where
  fr : PySem.W.Frag
  wd : World
instance : Coe KW PySem.W.Frag := ⟨KW.fr⟩
abbrev _root_.L2.Cx.KW (X : L2.Cx) : KW := ⟨X.K, X.w⟩
/-! ### reading values off the abstract heap -/
mutual
inductive Rd (K : KW) (H : Hp) (loc : List Addr) : V → W → Prop
  | non : Rd K H loc .non .non
  | bl (b : Bool) : Rd K H loc (.bl b) (.bl b)
  | int (i : Int) : Rd K H loc (.int i) (.int i)
  | str (x : Str) : PyData.strOk x = true → x.length ≤ 16777216 → Rd K H loc (.str x) (.str x)
  | tup {a : Addr} {xs : List V} {ws : List W} : SqT K H a xs → Rds K H loc xs ws → Rd K H loc (.ref a) (.tup ws)
  | ref {a : Addr} {n : Nat} : loc[n]? = some a → Rd K H loc (.ref a) (.ref n)
inductive Rds (K : KW) (H : Hp) (loc : List Addr) : List V → List W → Prop
  | nil : Rds K H loc [] []
  | cons {v : V} {vs : List V} {w : W} {ws : List W} : Rd K H loc v w → Rds K H loc vs ws → Rds K H loc (v :: vs) (w :: ws)
end

/-- what stays: tuples, and what is locked -/
structure Ext (K : KW) (H H' : Hp) : Prop where
  tup : ∀ a xs, SqT K H a xs → SqT K H' a xs
  frz : ∀ a o u, H a = some (.frz o u) → H' a = some (.frz o u)
theorem Ext.refl {K : KW} {H : Hp} : Ext K H H := ⟨fun _ _ h => h, fun _ _ _ h => h⟩
theorem Ext.trans {K : KW} {H H1 H2 : Hp} (a : Ext K H H1) (b : Ext K H1 H2) : Ext K H H2 := ⟨fun _ _ h => b.tup _ _ (a.tup _ _ h), fun _ _ _ h => b.frz _ _ _ (a.frz _ _ _ h)⟩
theorem Ext.new {K : KW} {H : Hp} {p : Addr} {o : HO} (hp : H p = none) : Ext K H (upd H p o) := ⟨fun a xs h => by
  rcases h with (h | ⟨u, h⟩) | h
  · exact .inl (.inl (by rw [upd_ne (ne_of_none h hp)]; exact h))
  · exact .inl (.inr ⟨u, by rw [upd_ne (ne_of_none h hp)]; exact h⟩)
  · exact .inr h, fun a o u h => by rw [upd_ne (ne_of_none h hp)]; exact h⟩
/-- what is changed is no tuple, and not locked -/
theorem Ext.upd {K : KW} {H : Hp} {p : Addr} {o u : HO} (hp : H p = some u) (m : Mut (some u)) : Ext K H (upd H p o) := ⟨fun a xs h => by
  rcases h with (h | ⟨v, h⟩) | h
  · refine .inl (.inl ?_)
    rw [upd_ne fun e => ?_]
    · exact h
    · subst e; rw [hp] at h; cases h; exact m
  · refine .inl (.inr ⟨v, ?_⟩)
    rw [upd_ne fun e => ?_]
    · exact h
    · subst e; rw [hp] at h; cases h; exact m
  · exact .inr h, fun a o u h => by
  rw [upd_ne fun e => ?_]
  · exact h
  · subst e; rw [hp] at h; cases h; exact m⟩

section
variable {K : KW} {H H' : Hp} {loc loc' : List Addr}
theorem pre_get {α : Type} {l l' : List α} (h : l <+: l') {n : Nat} {a : α} (e : l[n]? = some a) : l'[n]? = some a := by
  obtain ⟨r, rfl⟩ := h
  rw [List.getElem?_append_left (List.getElem?_eq_some_iff.mp e).1]; exact e
mutual
theorem Rd.mono (e : Ext K H H') (l : loc <+: loc') : ∀ {v : V} {w : W}, Rd K H loc v w → Rd K H' loc' v w
  | _, _, .non => .non
  | _, _, .bl b => .bl b
  | _, _, .int i => .int i
  | _, _, .str x h h2 => .str x h h2
  | _, _, .tup h r => .tup (e.tup _ _ h) (Rds.mono e l r)
  | _, _, .ref h => .ref (pre_get l h)
theorem Rds.mono (e : Ext K H H') (l : loc <+: loc') : ∀ {vs : List V} {ws : List W}, Rds K H loc vs ws → Rds K H' loc' vs ws
  | _, _, .nil => .nil
  | _, _, .cons r rs => .cons (Rd.mono e l r) (Rds.mono e l rs)
end
theorem Rds.length : ∀ {vs : List V} {ws : List W}, Rds K H loc vs ws → vs.length = ws.length
  | _, _, .nil => rfl
  | _, _, .cons _ r => by rw [List.length_cons, List.length_cons, r.length]
theorem Rds.get : ∀ {vs : List V} {ws : List W} {i : Nat} {w : W}, Rds K H loc vs ws → ws[i]? = some w → ∃ v, vs[i]? = some v ∧ Rd K H loc v w
  | _, _, _, _, .nil, e => by simp at e
  | _, _, 0, _, .cons r _, e => ⟨_, rfl, by simp at e; subst e; exact r⟩
  | _, _, i + 1, _, .cons _ r, e => by
    obtain ⟨v, h1, h2⟩ := r.get (i := i) (by simpa using e)
    exact ⟨v, by simpa using h1, h2⟩
theorem Rds.get' : ∀ {vs : List V} {ws : List W} {i : Nat} {v : V}, Rds K H loc vs ws → vs[i]? = some v → ∃ w, ws[i]? = some w ∧ Rd K H loc v w
  | _, _, _, _, .nil, e => by simp at e
  | _, _, 0, _, .cons r _, e => ⟨_, rfl, by simp at e; subst e; exact r⟩
  | _, _, i + 1, _, .cons _ r, e => by
    obtain ⟨v, h1, h2⟩ := r.get' (i := i) (by simpa using e)
    exact ⟨v, by simpa using h1, h2⟩
theorem Rds.append : ∀ {vs us : List V} {ws zs : List W}, Rds K H loc vs ws → Rds K H loc us zs → Rds K H loc (vs ++ us) (ws ++ zs)
  | _, _, _, _, .nil, s => s
  | _, _, _, _, .cons r rs, s => .cons r (rs.append s)
theorem Rds.take : ∀ {vs : List V} {ws : List W} (n : Nat), Rds K H loc vs ws → Rds K H loc (vs.take n) (ws.take n)
  | _, _, 0, _ => .nil
  | _, _, _ + 1, .nil => .nil
  | _, _, n + 1, .cons r rs => .cons r (rs.take n)
theorem Rds.drop : ∀ {vs : List V} {ws : List W} (n : Nat), Rds K H loc vs ws → Rds K H loc (vs.drop n) (ws.drop n)
  | _, _, 0, r => r
  | _, _, _ + 1, .nil => .nil
  | _, _, n + 1, .cons _ rs => rs.drop n
theorem Rds.set {v : V} {w : W} (r : Rd K H loc v w) : ∀ {vs : List V} {ws : List W} (i : Nat), Rds K H loc vs ws → Rds K H loc (vs.set i v) (ws.set i w)
  | _, _, _, .nil => .nil
  | _, _, 0, .cons _ rs => .cons r rs
  | _, _, i + 1, .cons q rs => .cons q (Rds.set r i rs)
theorem Rds.erase : ∀ {vs : List V} {ws : List W} (i : Nat), Rds K H loc vs ws → Rds K H loc (vs.eraseIdx i) (ws.eraseIdx i)
  | _, _, _, .nil => .nil
  | _, _, 0, .cons _ rs => rs
  | _, _, i + 1, .cons q rs => .cons q (Rds.erase i rs)
theorem Rds.dropLast {vs : List V} {ws : List W} (h : Rds K H loc vs ws) : Rds K H loc vs.dropLast ws.dropLast := by
  rw [List.dropLast_eq_take, List.dropLast_eq_take, h.length]; exact h.take _
theorem Rds.rep {vs : List V} {ws : List W} (h : Rds K H loc vs ws) : ∀ k : Nat, Rds K H loc (List.replicate k vs).flatten (List.replicate k ws).flatten
  | 0 => .nil
  | k + 1 => by rw [List.replicate_succ, List.replicate_succ, List.flatten_cons, List.flatten_cons]; exact h.append (Rds.rep h k)
theorem Rds.rev : ∀ {vs : List V} {ws : List W}, Rds K H loc vs ws → Rds K H loc vs.reverse ws.reverse
  | _, _, .nil => .nil
  | _, _, .cons r rs => by rw [List.reverse_cons, List.reverse_cons]; exact rs.rev.append (.cons r .nil)

/-! ### the memory -/
/-- a list that nobody writes -/
def RO (K : KW) (H : Hp) (a : Addr) (xs : List V) : Prop := (∃ o, H a = some (.frz o (.lst xs))) ∨
  ∃ (o : Obj) (its : Array Value) (n : Nat), K.fr.lookup a = some o ∧ o.cls = .type "list" ∧ o.dict = none ∧ o.data = .seq its n ∧ its.size ≤ sizeLine ∧ Vals xs its.toList
theorem RO.sq {a : Addr} {xs : List V} (h : RO K H a xs) : SqL K H a xs := by
  rcases h with ⟨o, h⟩ | h
  · exact .inl (.inr ⟨o, h⟩)
  · exact .inr h
/-- a key that is a number or a text -/
def keyW : Key → W
  | .inl i => .int i
  | .inr x => .str x
def KeyOk : Key → Prop
  | .inl _ => True
  | .inr x => PyData.strOk x = true ∧ x.length ≤ 16777216
mutual
/-- a value as a key of a dict keyed by nested tuples -/
def keyN : W → Option NestedKey
  | .non => some .none
  | .bl b => some (.num (if b = true then 1 else 0))
  | .int i => some (.num i)
  | .str x => some (.text x)
  | .tup ws => (keyNs ws).map .tup
  | .ref _ => none
def keyNs : List W → Option (List NestedKey)
  | [] => some []
  | w :: ws => match keyN w, keyNs ws with
    | some k, some ks => some (k :: ks)
    | _, _ => none
end
/-- the dict at a, keyed by nested tuples: keys, where their tuples stand, values -/
abbrev NE := List (NestedKey × Addr × V)
def entryN (w : World) (x : NestedKey × Addr × Value) : DictEntry := ⟨x.1.hash w, .ref x.2.1, x.2.2⟩
abbrev NP : NE → List (NestedKey × Addr × Value) → Prop := Paired fun p q => p.1 = q.1 ∧ p.2.1 = q.2.1 ∧ RelV p.2.2 q.2.2
def nestO (w : World) (a : Addr) (es : NE) : HO := .ext fun h => es.length ≤ sizeLine ∧ (a == sysModules) = false ∧ ∃ xs : List (NestedKey × Addr × Value), NP es xs ∧
  ∃ o en ep, h.get? a = some o ∧ o.ExactDict ∧ o.data = .dict en ep ∧ en.toList = xs.map (entryN w) ∧ (xs.map (·.1)).Nodup
structure NestOk (K : KW) (H : Hp) (loc : List Addr) (es : NE) (ws : List (W × W)) : Prop where
  keys : es.map (fun e => some e.1) = ws.map (fun p => keyN p.1)
  dep : ∀ e ∈ es, e.1.depth ≤ 8
  ks : Rds K H loc (es.map fun e => V.ref e.2.1) (ws.map (·.1))
  vs : Rds K H loc (es.map fun e => e.2.2) (ws.map (·.2))
theorem NestOk.mono {es : NE} {ws : List (W × W)} (e : Ext K H H') (l : loc <+: loc') (h : NestOk K H loc es ws) : NestOk K H' loc' es ws := ⟨h.keys, h.dep, h.ks.mono e l, h.vs.mono e l⟩
structure FlatOk (K : KW) (H : Hp) (loc : List Addr) (kvs : List (Key × V)) (ws : List (W × W)) : Prop where
  keys : kvs.map (fun p => keyW p.1) = ws.map (·.1)
  ok : ∀ p ∈ kvs, KeyOk p.1
  vs : Rds K H loc (kvs.map (·.2)) (ws.map (·.2))
theorem FlatOk.mono {kvs : List (Key × V)} {ws : List (W × W)} (e : Ext K H H') (l : loc <+: loc') (h : FlatOk K H loc kvs ws) : FlatOk K H' loc' kvs ws := ⟨h.keys, h.ok, h.vs.mono e l⟩
def MOk (K : KW) (H : Hp) (loc : List Addr) (a : Addr) : MO → Prop
  | .lst ws => ∃ xs, H a = some (.lst xs) ∧ Rds K H loc xs ws
  | .ro ws => ∃ xs, RO K H a xs ∧ Rds K H loc xs ws
  | .dK ws => ∃ kvs : List (Key × V), H a = some (.dK kvs) ∧ kvs.map (fun p => keyW p.1) = ws.map (·.1) ∧ (∀ p ∈ kvs, KeyOk p.1) ∧ Rds K H loc (kvs.map (·.2)) (ws.map (·.2))
  | .dT .nest ws => ∃ es, H a = some (nestO K.wd a es) ∧ NestOk K H loc es ws
  | .dT .lockF ws => ∃ o kvs, H a = some (.frz o (.dK kvs)) ∧ FlatOk K H loc kvs ws
  | .dT .lockN ws => ∃ o es, H a = some (.frz o (nestO K.wd a es)) ∧ NestOk K H loc es ws
/-- written while it stands so -/
def isMut : MO → Bool
  | .ro _ => false
  | .dT .lockF _ => false
  | .dT .lockN _ => false
  | _ => true
/-- one id alone for it -/
def isOwn : MO → Bool
  | .ro _ => false
  | _ => true
theorem own_of {mo : MO} (h : isMut mo = true) : isOwn mo = true := by
  cases mo with
  | ro _ => cases h
  | _ => rfl
structure Store (K : KW) (H : Hp) (loc : List Addr) (M : Mem) : Prop where
  len : loc.length = M.length
  ok : ∀ (i : Nat) (a : Addr) (mo : MO), loc[i]? = some a → M[i]? = some mo → MOk K H loc a mo
  apart : ∀ (i j : Nat) (a : Addr) (m n : MO), loc[i]? = some a → loc[j]? = some a → M[i]? = some m → M[j]? = some n → isOwn m = true → isOwn n = true → i = j
theorem Store.at {M : Mem} (s : Store K H loc M) {i : Nat} {mo : MO} (h : M[i]? = some mo) : ∃ a, loc[i]? = some a ∧ MOk K H loc a mo := by
  have hi : i < loc.length := by rw [s.len]; exact (List.getElem?_eq_some_iff.mp h).1
  exact ⟨loc[i], List.getElem?_eq_getElem hi, s.ok i _ mo (List.getElem?_eq_getElem hi) h⟩
theorem RO.same {a : Addr} {xs : List V} (h : RO K H a xs) (hH : ∀ o, H a = some (.frz o (.lst xs)) → H' a = some (.frz o (.lst xs))) : RO K H' a xs := by
  rcases h with ⟨o, h⟩ | h
  · exact .inl ⟨o, hH o h⟩
  · exact .inr h
theorem MOk.mono {a : Addr} {mo : MO} (e : Ext K H H') (l : loc <+: loc') (hH : ∀ o, H a = some o → H' a = some o) (h : MOk K H loc a mo) : MOk K H' loc' a mo := by
  cases mo with
  | lst ws => obtain ⟨xs, h1, h2⟩ := h; exact ⟨xs, hH _ h1, h2.mono e l⟩
  | ro ws => obtain ⟨xs, h1, h2⟩ := h; exact ⟨xs, h1.same fun o q => hH _ q, h2.mono e l⟩
  | dK ws => obtain ⟨kvs, h1, h2, h3, h4⟩ := h; exact ⟨kvs, hH _ h1, h2, h3, h4.mono e l⟩
  | dT m ws =>
    cases m with
    | nest => obtain ⟨es, h1, h2⟩ := h; exact ⟨es, hH _ h1, h2.mono e l⟩
    | lockF => obtain ⟨o, es, h1, h2⟩ := h; exact ⟨o, es, hH _ h1, h2.mono e l⟩
    | lockN => obtain ⟨o, es, h1, h2⟩ := h; exact ⟨o, es, hH _ h1, h2.mono e l⟩
/-- a mutable thing is tracked as such -/
theorem MOk.there {a : Addr} {mo : MO} (m : isMut mo = true) (h : MOk K H loc a mo) : ∃ o, H a = some o ∧ Mut (some o) := by
  cases mo with
  | lst ws => obtain ⟨xs, h1, h2⟩ := h; exact ⟨_, h1, trivial⟩
  | ro ws => cases m
  | dK ws => obtain ⟨kvs, h1, _⟩ := h; exact ⟨_, h1, trivial⟩
  | dT q ws =>
    cases q with
    | nest => obtain ⟨es, h1, h2⟩ := h; exact ⟨_, h1, trivial⟩
    | lockF => cases m
    | lockN => cases m
theorem MOk.thereO {a : Addr} {mo : MO} (m : isOwn mo = true) (h : MOk K H loc a mo) : ∃ o, H a = some o := by
  cases mo with
  | lst ws => obtain ⟨xs, h1, h2⟩ := h; exact ⟨_, h1⟩
  | ro ws => cases m
  | dK ws => obtain ⟨kvs, h1, _⟩ := h; exact ⟨_, h1⟩
  | dT q ws =>
    cases q with
    | nest => obtain ⟨es, h1, h2⟩ := h; exact ⟨_, h1⟩
    | lockF => obtain ⟨o, es, h1, h2⟩ := h; exact ⟨_, h1⟩
    | lockN => obtain ⟨o, es, h1, h2⟩ := h; exact ⟨_, h1⟩
theorem ro_of {mo : MO} (h : isOwn mo = false) : isMut mo = false := by
  cases mo with
  | ro _ => rfl
  | _ => cases h
/-- what nobody writes stands while mutable things change -/
theorem MOk.calm {a : Addr} {mo : MO} {u v : HO} (z : isMut mo = false) (hu : H a = some u) (mu : Mut (some u)) (h : MOk K H loc a mo) : MOk K (upd H a v) loc a mo := by
  cases mo with
  | lst _ => cases z
  | ro ws =>
    obtain ⟨xs, r1, r2⟩ := h
    rcases r1 with ⟨o, r1⟩ | r1
    · rw [hu] at r1; cases r1; exact mu.elim
    · exact ⟨xs, .inr r1, r2.mono (.upd hu mu) (List.prefix_refl _)⟩
  | dK _ => cases z
  | dT q ws =>
    cases q with
    | nest => cases z
    | lockF => obtain ⟨o, es, r1, _⟩ := h; rw [hu] at r1; cases r1; exact mu.elim
    | lockN => obtain ⟨o, es, r1, _⟩ := h; rw [hu] at r1; cases r1; exact mu.elim
theorem Store.ext {M : Mem} (s : Store K H loc M) (e : Ext K H H') (hH : ∀ a o, H a = some o → H' a = some o) : Store K H' loc M :=
  ⟨s.len, fun i a mo h1 h2 => (s.ok i a mo h1 h2).mono e (List.prefix_refl _) (hH a), s.apart⟩
/-- a tuple is laid -/
theorem Store.newT {M : Mem} {p : Addr} {o : HO} (s : Store K H loc M) (hp : H p = none) : Store K (upd H p o) loc M :=
  s.ext (.new hp) fun a u h => by rw [upd_ne (ne_of_none h hp)]; exact h
/-- a list is laid -/
theorem Store.new {M : Mem} {p : Addr} {o : HO} {mo : MO} (s : Store K H loc M) (hp : H p = none) (hm : MOk K (upd H p o) (loc ++ [p]) p mo) : Store K (upd H p o) (loc ++ [p]) (M ++ [mo]) := by
  have hlt : ∀ {i : Nat} {a : Addr} {m : MO}, (loc ++ [p])[i]? = some a → (M ++ [mo])[i]? = some m → (loc[i]? = some a ∧ M[i]? = some m) ∨ (i = M.length ∧ a = p ∧ m = mo) := fun {i a m} h1 h2 => by
    by_cases hi : i < M.length
    · rw [List.getElem?_append_left (by rw [s.len]; exact hi)] at h1
      rw [List.getElem?_append_left hi] at h2
      exact .inl ⟨h1, h2⟩
    · rw [List.getElem?_append_right (by rw [s.len]; omega)] at h1
      rw [List.getElem?_append_right (by omega)] at h2
      have e := (List.getElem?_eq_some_iff.mp h2).1
      simp only [List.length_cons, List.length_nil] at e
      have e0 : i = M.length := by omega
      subst e0
      rw [s.len] at h1
      simp at h1 h2
      exact .inr ⟨rfl, h1.symm, h2.symm⟩
  refine ⟨by simp [s.len], fun i a m h1 h2 => ?_, fun i j a m n h1 h2 h3 h4 m1 m2 => ?_⟩
  · rcases hlt h1 h2 with ⟨h1, h2⟩ | ⟨_, rfl, rfl⟩
    · exact (s.ok i a m h1 h2).mono (.new hp) (List.prefix_append _ _) fun o h => by rw [upd_ne (ne_of_none h hp)]; exact h
    · exact hm
  · rcases hlt h1 h3 with ⟨g1, g3⟩ | ⟨e1, e2, _⟩
    · rcases hlt h2 h4 with ⟨g2, g4⟩ | ⟨_, e2, _⟩
      · exact s.apart i j a m n g1 g2 g3 g4 m1 m2
      · obtain ⟨o, q⟩ := (s.ok i a m g1 g3).thereO m1
        rw [e2, hp] at q; cases q
    · rcases hlt h2 h4 with ⟨g2, g4⟩ | ⟨e3, _, _⟩
      · obtain ⟨o, q⟩ := (s.ok j a n g2 g4).thereO m2
        rw [e2, hp] at q; cases q
      · rw [e1, e3]
/-- a mutable thing is changed -/
theorem Store.put0 {M : Mem} {i : Nat} {a : Addr} {m mo : MO} {o : HO} (s : Store K H loc M) (h1 : loc[i]? = some a) (h2 : M[i]? = some m) (m1 : isMut m = true) (hm : MOk K (upd H a o) loc a mo) : Store K (upd H a o) loc (M.set i mo) := by
  obtain ⟨u, hu, mu⟩ := (s.ok i a m h1 h2).there m1
  have hi : i < M.length := (List.getElem?_eq_some_iff.mp h2).1
  refine ⟨by simp [s.len], fun j b n q1 q2 => ?_, fun j k b m' n' q1 q2 q3 q4 z1 z2 => ?_⟩
  · by_cases e : i = j
    · subst e
      rw [List.getElem?_set_self hi] at q2
      cases q2
      rw [h1] at q1; cases q1
      exact hm
    · rw [List.getElem?_set_ne e] at q2
      have hb := s.ok j b n q1 q2
      have en : b ≠ a ∨ (isOwn n = false ∧ b = a) := by
        by_cases eb : b = a
        · subst eb
          refine .inr ⟨?_, rfl⟩
          cases z : isOwn n with
          | false => rfl
          | true => exact absurd (s.apart i j b m n h1 q1 h2 q2 (own_of m1) z) e
        · exact .inl eb
      rcases en with en | ⟨z, rfl⟩
      · exact hb.mono (.upd hu mu) (List.prefix_refl _) fun o h => by rw [upd_ne en]; exact h
      · exact hb.calm (ro_of z) hu mu
  · have wt : ∀ {x : Nat} {b : Addr} {y : MO}, (M.set i mo)[x]? = some y → isOwn y = true → ∃ y', M[x]? = some y' ∧ isOwn y' = true := fun {x b y} q z => by
      by_cases e : i = x
      · subst e; exact ⟨m, h2, own_of m1⟩
      · rw [List.getElem?_set_ne e] at q; exact ⟨y, q, z⟩
    obtain ⟨y1, w1, w2⟩ := wt (b := b) q3 z1
    obtain ⟨y2, w3, w4⟩ := wt (b := b) q4 z2
    exact s.apart j k b y1 y2 q1 q2 w1 w3 w2 w4

theorem Store.put {M : Mem} {i : Nat} {a : Addr} {m mo : MO} {o : HO} (s : Store K H loc M) (h1 : loc[i]? = some a) (h2 : M[i]? = some m) (m1 : isMut m = true) (m2 : isMut mo = true) (hm : MOk K (upd H a o) loc a mo) : Store K (upd H a o) loc (M.set i mo) := s.put0 h1 h2 m1 hm

structure Rel (K : KW) (loc : List Addr) (σ : Sl) (M : Mem) (σV : L2.St) (H : Hp) : Prop where
  st : Store K H loc M
  len : σ.length = σV.length
  sl : ∀ (i : Nat) (w : W), σ[i]? = some (some w) → ∃ v, σV[i]? = some (some v) ∧ Rd K H loc v w
theorem Rel.move {σ : Sl} {M M' : Mem} {σV : L2.St} (r : Rel K loc σ M σV H) (s : Store K H' loc' M') (e : Ext K H H') (l : loc <+: loc') : Rel K loc' σ M' σV H' :=
  ⟨s, r.len, fun i w h => by
    obtain ⟨v, h1, h2⟩ := r.sl i w h
    exact ⟨v, h1, h2.mono e l⟩⟩
theorem Rel.set {σ : Sl} {M : Mem} {σV : L2.St} (r : Rel K loc σ M σV H) {v : V} {w : W} (h : Rd K H loc v w) (i : Nat) : Rel K loc (σ.set i (some w)) M (σV.set i (some v)) H :=
  ⟨r.st, by rw [List.length_set, List.length_set]; exact r.len, fun j u e => by
    by_cases hij : i = j
    · subst hij
      have hi : i < σ.length := by have := (List.getElem?_eq_some_iff.mp e).1; simpa using this
      rw [List.getElem?_set_self hi] at e
      cases e
      exact ⟨v, by rw [List.getElem?_set_self (by rw [← r.len]; exact hi)], h⟩
    · rw [List.getElem?_set_ne hij] at e
      rw [List.getElem?_set_ne hij]
      exact r.sl j u e⟩
theorem Rel.unset {σ : Sl} {M : Mem} {σV : L2.St} (r : Rel K loc σ M σV H) (i : Nat) : Rel K loc (σ.set i none) M (σV.set i none) H :=
  ⟨r.st, by rw [List.length_set, List.length_set]; exact r.len, fun j u e => by
    by_cases hij : i = j
    · subst hij
      by_cases hi : i < σ.length
      · rw [List.getElem?_set_self hi] at e; cases e
      · rw [List.getElem?_eq_none (by simpa using hi)] at e; cases e
    · rw [List.getElem?_set_ne hij] at e
      rw [List.getElem?_set_ne hij]
      exact r.sl j u e⟩
theorem Rel.wipe {σ : Sl} {M : Mem} {σV : L2.St} (r : Rel K loc σ M σV H) : ∀ vs : List Nat, Rel K loc (wipe σ vs) M (L2.wipe σV vs) H
  | [] => r
  | v :: vs => (Rel.wipe r vs).unset v
end

/-! ### the readings -/
/-- what is wanted behind an expression -/
def Aft (K : KW) (H : Hp) (loc : List Addr) (w : W) (M' : Mem) (Q : VK) : Prop :=
  ∀ v H' loc', Store K H' loc' M' → Rd K H' loc' v w → Ext K H H' → loc <+: loc' → Q v H'
def TC (K : KW) (c : CE) : TE := fun σV H Q => ∃ loc σ M w M', Rel K loc σ M σV H ∧ c σ M = some (w, M') ∧ Aft K H loc w M' Q
def TA' (K : KW) (c : CA) : TA := fun σV H Q => ∃ loc σ M ws M', Rel K loc σ M σV H ∧ c σ M = some (ws, M') ∧
  ∀ vs H' loc', Store K H' loc' M' → Rds K H' loc' vs ws → Ext K H H' → loc <+: loc' → Q vs H'
def TT' (K : KW) (c : CT) : TT := fun σV H Q => ∃ loc σ M b M', Rel K loc σ M σV H ∧ c σ M = some (b, M') ∧
  ∀ H' loc', Store K H' loc' M' → Ext K H H' → loc <+: loc' → Q b H'
def TG' (K : KW) (c : CG) : TG := fun v σV H Q => ∃ loc σ M w σ', Rel K loc σ M σV H ∧ Rd K H loc v w ∧ c w σ = some σ' ∧ ∀ σV', Rel K loc σ' M σV' H → Q σV' H
def TGs' (K : KW) (c : List CG) : TGs := fun vs σV H Q => ∃ loc σ M ws σ', Rel K loc σ M σV H ∧ Rds K H loc vs ws ∧ gAll c ws σ = some σ' ∧ ∀ σV', Rel K loc σ' M σV' H → Q σV' H
def AftS (K : KW) (H : Hp) (loc : List Addr) (D : Ends) : Out → Prop
  | .nx σ' M' => ∀ σV' H' loc', Rel K loc' σ' M' σV' H' → Ext K H H' → loc <+: loc' → D.nx σV' H'
  | .bk σ' M' => ∀ σV' H' loc', Rel K loc' σ' M' σV' H' → Ext K H H' → loc <+: loc' → D.bk σV' H'
  | .ct σ' M' => ∀ σV' H' loc', Rel K loc' σ' M' σV' H' → Ext K H H' → loc <+: loc' → D.ct σV' H'
  | .rt w M' => Aft K H loc w M' D.rt
def TS' (K : KW) (c : CS) : TS := fun D σV H => ∃ loc σ M o, Rel K loc σ M σV H ∧ c σ M = some o ∧ AftS K H loc D o

abbrev EV (X : Cx) (e : Expr) (c : CE) : Prop := PE X e (TC X.KW c)
abbrev EA (X : Cx) (es : List Expr) (c : List CE) : Prop := PA X es (TA' X.KW (eArgs c))
abbrev ET (X : Cx) (e : Expr) (c : CT) : Prop := PT X e (TT' X.KW c)
abbrev EW (X : Cx) (e : Expr) (c : CT) : Prop := PW X e (TT' X.KW c)
abbrev EG (X : Cx) (e : Expr) (c : CG) : Prop := PG X e (TG' X.KW c)
abbrev EGs (X : Cx) (es : List Expr) (c : List CG) : Prop := PGs X es (TGs' X.KW c)
abbrev ES (X : Cx) (s : Stmt) (c : CS) : Prop := PS X s (TS' X.KW c)
abbrev ESs (X : Cx) (s : List Stmt) (c : CS) : Prop := PSs X s (TS' X.KW c)

theorem _root_.L2.PE.mono {X : Cx} {e : Expr} {t t' : TE} (h : PE X e t) (f : ∀ σ H Q, t' σ H Q → t σ H Q) : PE X e t' := ⟨fun p s σ H Q I q => h.run p s σ H Q I (f σ H Q q)⟩
theorem _root_.L2.PA.mono {X : Cx} {e : List Expr} {t t' : TA} (h : PA X e t) (f : ∀ σ H Q, t' σ H Q → t σ H Q) : PA X e t' := ⟨fun o p s σ H Q I q => h.run o p s σ H Q I (f σ H Q q)⟩
theorem _root_.L2.PT.mono {X : Cx} {e : Expr} {t t' : TT} (h : PT X e t) (f : ∀ σ H Q, t' σ H Q → t σ H Q) : PT X e t' := ⟨fun p s σ H Q I q => h.run p s σ H Q I (f σ H Q q)⟩
theorem _root_.L2.PW.mono {X : Cx} {e : Expr} {t t' : TT} (h : PW X e t) (f : ∀ σ H Q, t' σ H Q → t σ H Q) : PW X e t' := ⟨fun o p s σ H Q I q => h.run o p s σ H Q I (f σ H Q q)⟩
theorem _root_.L2.PG.mono {X : Cx} {e : Expr} {t t' : TG} (h : PG X e t) (f : ∀ v σ H Q, t' v σ H Q → t v σ H Q) : PG X e t' := ⟨fun p s σ H v u Q I r q => h.run p s σ H v u Q I r (f v σ H Q q)⟩
theorem _root_.L2.PGs.mono {X : Cx} {e : List Expr} {t t' : TGs} (h : PGs X e t) (f : ∀ v σ H Q, t' v σ H Q → t v σ H Q) : PGs X e t' := ⟨fun p s σ H v u Q I r q => h.run p s σ H v u Q I r (f v σ H Q q)⟩
theorem _root_.L2.PS.mono {X : Cx} {e : Stmt} {t t' : TS} (h : PS X e t) (f : ∀ D σ H, t' D σ H → t D σ H) : PS X e t' := ⟨fun p s σ H D I q => h.run p s σ H D I (f D σ H q)⟩
theorem _root_.L2.PSs.mono {X : Cx} {e : List Stmt} {t t' : TS} (h : PSs X e t) (f : ∀ D σ H, t' D σ H → t D σ H) : PSs X e t' := ⟨fun p s σ H D I q => h.run p s σ H D I (f D σ H q)⟩
end BF

set_option Elab.async false
set_option linter.all false
set_option autoImplicit false
set_option maxRecDepth 100000
/-! The rules: expressions, tests, targets, statements. -/
namespace BF
open PySem PySem.Spec
open PyProof.Rows L2

section
variable {X : Cx} {a b c e : Expr} {ca cb cc : CE} {pos : Pos}

/-! ### names, constants -/
theorem bind_some {α β : Type} {x : Option α} {f : α → Option β} {b : β} (h : x.bind f = some b) : ∃ a, x = some a ∧ f a = some b := Option.bind_eq_some_iff.mp h
theorem r_var (i : Nat) {x : Str} (hN : X.N[i]? = some x := by rfl)
    (hv : Vis X.env.scope x := by first | exact Or.inl rfl | exact Or.inr (Or.inl rfl) | exact Or.inr (Or.inr rfl))
    (hd : (x == ("__debug__" : Str)) = false := by decide) (hcd : (x == ("__classdict__" : Str)) = false := by decide) : EV X (.Name x pos) (eV i) :=
  (pe_var hN hv hd hcd).mono fun σV H Q ⟨loc, σ, M, w, M', rel, e, aft⟩ => by
    have h : σ.getD i none = some w ∧ M' = M := by
      unfold eV at e
      split at e
      · rename_i u hu; cases e; exact ⟨hu, rfl⟩
      · cases e
    obtain ⟨h, rfl⟩ := h
    have h' : σ[i]? = some (some w) := by
      rw [List.getD_eq_getElem?_getD] at h
      cases q : σ[i]? with
      | none => rw [q] at h; cases h
      | some z => rw [q] at h; exact congrArg some h
    obtain ⟨v, h1, h2⟩ := rel.sl i w h'
    exact ⟨v, h1, aft v H loc rel.st h2 .refl (List.prefix_refl _)⟩
theorem lit_aux {v : V} {w : W} (hr : ∀ H loc, Rd X.KW H loc v w) (h : PE X e (tC v)) : EV X e (eL w) :=
  h.mono fun σV H Q ⟨loc, σ, M, u, M', rel, e, aft⟩ => by
    cases e
    exact aft v H loc rel.st (hr H loc) .refl (List.prefix_refl _)
theorem r_int {i : Int} {j} : EV X (.Constant (.int i) j pos) (eL (.int i)) := lit_aux (fun _ _ => .int i) pe_int
theorem r_bl {i : Bool} {j} : EV X (.Constant (.bool i) j pos) (eL (.bl i)) := lit_aux (fun _ _ => .bl i) pe_bl
theorem r_non {j} : EV X (.Constant .none j pos) (eL .non) := lit_aux (fun _ _ => .non) pe_non
theorem r_str {x : Str} {j} (h : PyData.strOk x = true := by decide +kernel) (h2 : x.length ≤ 16777216 := by decide +kernel) : EV X (.Constant (.str x) j pos) (eL (.str x)) := lit_aux (fun _ _ => .str x h h2) pe_str

/-! ### two operands -/
def Lift1 (K : KW) (r : V → Hp → VK → Prop) (g : Mem → W → Option (W × Mem)) : Prop :=
  ∀ (H : Hp) (loc : List Addr) (M : Mem) (x : W) (v : V) (w : W) (M' : Mem) (Q : VK), Store K H loc M → Rd K H loc v x → g M x = some (w, M') → Aft K H loc w M' Q → r v H Q
def Lift2 (K : KW) (r : R2) (g : Mem → W → W → Option (W × Mem)) : Prop :=
  ∀ (H : Hp) (loc : List Addr) (M : Mem) (x y : W) (v u : V) (w : W) (M' : Mem) (Q : VK), Store K H loc M → Rd K H loc v x → Rd K H loc u y → g M x y = some (w, M') → Aft K H loc w M' Q → r v u H Q
theorem Aft.after {K : KW} {H H1 : Hp} {loc loc1 : List Addr} {w : W} {M' : Mem} {Q : VK} (h : Aft K H loc w M' Q) (e : Ext K H H1) (l : loc <+: loc1) : Aft K H1 loc1 w M' Q :=
  fun v H' loc' s r e' l' => h v H' loc' s r (e.trans e') (l.trans l')
theorem AftS.after {K : KW} {H H1 : Hp} {loc loc1 : List Addr} {o : Out} {D : Ends} (h : AftS K H loc D o) (e : Ext K H H1) (l : loc <+: loc1) : AftS K H1 loc1 D o := by
  cases o with
  | nx σ' M' => exact fun σV' H' loc' r e' l' => h σV' H' loc' r (e.trans e') (l.trans l')
  | bk σ' M' => exact fun σV' H' loc' r e' l' => h σV' H' loc' r (e.trans e') (l.trans l')
  | ct σ' M' => exact fun σV' H' loc' r e' l' => h σV' H' loc' r (e.trans e') (l.trans l')
  | rt w M' => exact Aft.after (K := K) h e l
/-- run a: then what follows -/
theorem run1 {K : KW} {σV : L2.St} {H : Hp} {loc : List Addr} {σ : Sl} {M : Mem} {p : W × Mem} {Q : VK} (rel : Rel K loc σ M σV H) (ha : ca σ M = some p)
    (h : ∀ v H1 loc1, Rel K loc1 σ p.2 σV H1 → Rd K H1 loc1 v p.1 → Ext K H H1 → loc <+: loc1 → Q v H1) : TC K ca σV H Q :=
  ⟨loc, σ, M, p.1, p.2, rel, ha, fun v H1 loc1 s r e l => h v H1 loc1 (rel.move s e l) r e l⟩
theorem op2 {r : R2} {g : Mem → W → W → Option (W × Mem)} (hl : Lift2 X.KW r g) (σV : L2.St) (H : Hp) (Q : VK) (h : TC X.KW (e2 g ca cb) σV H Q) : tOp r (TC X.KW ca) (TC X.KW cb) σV H Q := by
  obtain ⟨loc, σ, M, w, M', rel, e, aft⟩ := h
  obtain ⟨p, hp, e⟩ := bind_some e
  obtain ⟨q, hq, e⟩ := bind_some e
  refine run1 rel hp fun v H1 loc1 rel1 rd1 ex1 l1 => run1 rel1 hq fun u H2 loc2 rel2 rd2 ex2 l2 => ?_
  exact hl H2 loc2 q.2 p.1 q.1 v u w M' Q rel2.st (rd1.mono ex2 l2) rd2 e (aft.after (ex1.trans ex2) (l1.trans l2))
theorem r_op {op : Operator} {r : R2} {g : Mem → W → W → Option (W × Mem)} (ho : OpR X (binaryOp op) r) (hl : Lift2 X.KW r g) (ha : EV X a ca) (hb : EV X b cb) : EV X (.BinOp a op b pos) (e2 g ca cb) :=
  (pe_op ho ha hb).mono (op2 hl)
theorem r_un {op : UnaryOp} {r : V → Hp → VK → Prop} {g : Mem → W → Option (W × Mem)} (ho : UnR X (unaryOp op) r) (hl : Lift1 X.KW r g) (ha : EV X a ca) : EV X (.UnaryOp op a pos) (e1 g ca) :=
  (pe_un ho ha).mono fun σV H Q ⟨loc, σ, M, w, M', rel, e, aft⟩ => by
    obtain ⟨p, hp, e⟩ := bind_some e
    exact run1 rel hp fun v H1 loc1 rel1 rd1 ex1 l1 => hl H1 loc1 p.2 p.1 v w M' Q rel1.st rd1 e (aft.after ex1 l1)
theorem r_cmp {op : CmpOp} {r : R2} {g : Mem → W → W → Option (W × Mem)} (ho : OpR X (compareOp op) r) (hl : Lift2 X.KW r g) (ha : EV X a ca) (hb : EV X b cb) (hm : behindInMarks op b = false) : EV X (.Compare a [op] [b] pos) (e2 g ca cb) :=
  (pe_cmpR ho ha hb hm).mono (op2 hl)
theorem tb_aux {t : TE} {cv : CE} (hl : ∀ σV H Q, TC X.KW cv σV H Q → t σV H Q) (σV : L2.St) (H : Hp) (Q : Bool → Hp → Prop) (h : TT' X.KW (tB cv) σV H Q) :
    t σV H (fun x H' => ∃ k, x = V.bl k ∧ Q k H') := by
  obtain ⟨loc, σ, M, k, M', rel, e, aft⟩ := h
  obtain ⟨p, hp, e⟩ := bind_some e
  refine hl _ _ _ (run1 rel hp fun v H1 loc1 rel1 rd1 ex1 l1 => ?_)
  split at e
  · rename_i d hd
    cases e
    rw [hd] at rd1
    cases rd1
    exact ⟨_, rfl, aft H1 loc1 rel1.st ex1 l1⟩
  · cases e
theorem t_cmp {op : CmpOp} {r : R2} {g : Mem → W → W → Option (W × Mem)} (ho : OpR X (compareOp op) r) (hl : Lift2 X.KW r g) (ha : EV X a ca) (hb : EV X b cb) (hm : behindInMarks op b = false) : ET X (.Compare a [op] [b] pos) (tB (e2 g ca cb)) :=
  (pt_cmpR ho ha hb hm).mono (tb_aux (op2 hl))
/-- a test that is a plain value (a call, a name) -/
theorem t_val (ha : EV X a ca) (he : ∀ whole, isTrue a X.env whole = (do let v ← whole; standAt a.pos; holding [v] (truthy v)) := by intro _; rfl) : ET X a (tB ca) :=
  (pt_val ha he).mono (tb_aux fun _ _ _ h => h)
theorem isN_of {K : KW} {H : Hp} {loc : List Addr} {v : V} {w : W} (r : Rd K H loc v w) : decide (v = V.non) = isN w := by
  cases r <;> simp [isN]
theorem isN_aux (σV : L2.St) (H : Hp) (Q : VK) (h : TC X.KW (e1 gIsN ca) σV H Q) : tIsN (TC X.KW ca) σV H Q := by
  obtain ⟨loc, σ, M, w, M', rel, e, aft⟩ := h
  obtain ⟨p, hp, e⟩ := bind_some e
  refine run1 rel hp fun v H1 loc1 rel1 rd1 ex1 l1 => ?_
  cases e
  rw [isN_of rd1]
  exact aft _ H1 loc1 rel1.st (.bl _) ex1 l1
theorem notN_aux (σV : L2.St) (H : Hp) (Q : VK) (h : TC X.KW (e1 gNotN ca) σV H Q) : tNotN (TC X.KW ca) σV H Q := by
  obtain ⟨loc, σ, M, w, M', rel, e, aft⟩ := h
  obtain ⟨p, hp, e⟩ := bind_some e
  refine run1 rel hp fun v H1 loc1 rel1 rd1 ex1 l1 => ?_
  cases e
  rw [isN_of rd1]
  exact aft _ H1 loc1 rel1.st (.bl _) ex1 l1
theorem r_isN {j pos'} (ha : EV X a ca) : EV X (.Compare a [.Is] [.Constant .none j pos'] pos) (e1 gIsN ca) := (pe_cmp (pc_isN ha)).mono isN_aux
theorem r_notN {j pos'} (ha : EV X a ca) : EV X (.Compare a [.IsNot] [.Constant .none j pos'] pos) (e1 gNotN ca) := (pe_cmp (pc_notN ha)).mono notN_aux
theorem t_isN {j pos'} (ha : EV X a ca) : ET X (.Compare a [.Is] [.Constant .none j pos'] pos) (tB (e1 gIsN ca)) := (pt_cmp (pc_isN ha)).mono (tb_aux isN_aux)
theorem t_notN {j pos'} (ha : EV X a ca) : ET X (.Compare a [.IsNot] [.Constant .none j pos'] pos) (tB (e1 gNotN ca)) := (pt_cmp (pc_notN ha)).mono (tb_aux notN_aux)
theorem chain_aux {r r' : R2} {g g' : Mem → W → W → Option (W × Mem)} (hl : Lift2 X.KW r g) (hl' : Lift2 X.KW r' g') (σV : L2.St) (H : Hp) (Q : VK) (h : TC X.KW (eChain g g' ca cb cc) σV H Q) :
    tChain r r' (TC X.KW ca) (TC X.KW cb) (TC X.KW cc) σV H Q := by
  obtain ⟨loc, σ, M, w, M', rel, e, aft⟩ := h
  obtain ⟨p, hp, e⟩ := bind_some e
  obtain ⟨q, hq, e⟩ := bind_some e
  obtain ⟨z, hz, e⟩ := bind_some e
  refine run1 rel hp fun v H1 loc1 rel1 rd1 ex1 l1 => run1 rel1 hq fun u H2 loc2 rel2 rd2 ex2 l2 => ?_
  refine hl H2 loc2 q.2 p.1 q.1 v u z.1 z.2 _ rel2.st (rd1.mono ex2 l2) rd2 hz fun x H3 loc3 s3 rd3 ex3 l3 => ?_
  have rel3 := rel2.move s3 ex3 l3
  split at e
  · rename_i hz1
    rw [hz1] at rd3
    cases rd3
    refine ⟨_, rfl, ?_⟩
    rw [if_pos rfl]
    obtain ⟨t, ht, e⟩ := bind_some e
    refine run1 rel3 ht fun y H4 loc4 rel4 rd4 ex4 l4 => ?_
    exact hl' H4 loc4 t.2 q.1 t.1 u y w M' Q rel4.st (rd2.mono (ex3.trans ex4) (l3.trans l4)) rd4 e (aft.after (((ex1.trans ex2).trans ex3).trans ex4) (((l1.trans l2).trans l3).trans l4))
  · rename_i hz1
    rw [hz1] at rd3
    cases rd3
    refine ⟨_, rfl, ?_⟩
    rw [if_neg Bool.false_ne_true]
    cases e
    exact aft _ H3 loc3 s3 (.bl _) ((ex1.trans ex2).trans ex3) ((l1.trans l2).trans l3)
  · cases e
theorem r_chain {op op' : CmpOp} {r r' : R2} {g g' : Mem → W → W → Option (W × Mem)} (ho : OpR X (compareOp op) r) (hl : Lift2 X.KW r g) (ho' : OpR X (compareOp op') r') (hl' : Lift2 X.KW r' g') (ha : EV X a ca) (hb : EV X b cb) (hc : EV X c cc)
    (hm : lastMarks [op, op'] [b, c] = false := by with_unfolding_all rfl) : EV X (.Compare a [op, op'] [b, c] pos) (eChain g g' ca cb cc) := (pe_chain ho ho' ha hb hc hm).mono (chain_aux hl hl')
theorem t_chain {op op' : CmpOp} {r r' : R2} {g g' : Mem → W → W → Option (W × Mem)} (ho : OpR X (compareOp op) r) (hl : Lift2 X.KW r g) (ho' : OpR X (compareOp op') r') (hl' : Lift2 X.KW r' g') (ha : EV X a ca) (hb : EV X b cb) (hc : EV X c cc)
    (hm : lastMarks [op, op'] [b, c] = false := by with_unfolding_all rfl) : ET X (.Compare a [op, op'] [b, c] pos) (tB (eChain g g' ca cb cc)) := (pt_chain ho ho' ha hb hc hm).mono (tb_aux (chain_aux hl hl'))

/-! ### and, or, not, if -/
variable {tA tB' : CT} {rest : List Expr}
/-- run a test -/
theorem runT {K : KW} {σV : L2.St} {H : Hp} {loc : List Addr} {σ : Sl} {M : Mem} {p : Bool × Mem} {Q : Bool → Hp → Prop} (rel : Rel K loc σ M σV H) (ha : tA σ M = some p)
    (h : ∀ H1 loc1, Rel K loc1 σ p.2 σV H1 → Ext K H H1 → loc <+: loc1 → Q p.1 H1) : TT' K tA σV H Q :=
  ⟨loc, σ, M, p.1, p.2, rel, ha, fun H1 loc1 s e l => h H1 loc1 (rel.move s e l) e l⟩
theorem w_one {op} (ha : ET X a tA) : EW X (.BoolOp op [a] pos) tA := by
  cases op with
  | And => exact pw_and1 ha
  | Or => exact pw_or1 ha
theorem w_and (ha : ET X a tA) (hb : EW X (.BoolOp .And (b :: rest) pos) tB') : EW X (.BoolOp .And (a :: b :: rest) pos) (tAnd tA tB') :=
  (pw_and ha hb).mono fun σV H Q ⟨loc, σ, M, k, M', rel, e, aft⟩ => by
    obtain ⟨p, hp, e⟩ := bind_some e
    refine runT rel hp fun H1 loc1 rel1 ex1 l1 => ?_
    split at e
    · rename_i hc
      rw [if_pos hc]
      exact runT (p := (k, M')) rel1 e fun H2 loc2 rel2 ex2 l2 => aft H2 loc2 rel2.st (ex1.trans ex2) (l1.trans l2)
    · rename_i hc
      rw [if_neg hc]
      cases e
      exact aft H1 loc1 rel1.st ex1 l1
theorem w_or (ha : ET X a tA) (hb : EW X (.BoolOp .Or (b :: rest) pos) tB') : EW X (.BoolOp .Or (a :: b :: rest) pos) (tOr tA tB') :=
  (pw_or ha hb).mono fun σV H Q ⟨loc, σ, M, k, M', rel, e, aft⟩ => by
    obtain ⟨p, hp, e⟩ := bind_some e
    refine runT rel hp fun H1 loc1 rel1 ex1 l1 => ?_
    split at e
    · rename_i hc
      rw [if_pos hc]
      cases e
      exact aft H1 loc1 rel1.st ex1 l1
    · rename_i hc
      rw [if_neg hc]
      exact runT (p := (k, M')) rel1 e fun H2 loc2 rel2 ex2 l2 => aft H2 loc2 rel2.st (ex1.trans ex2) (l1.trans l2)
theorem t_w (h : EW X a tA) : ET X a tA := h.pt
theorem t_not (ha : ET X a tA) : ET X (.UnaryOp .Not a pos) (tNot tA) :=
  (pt_not ha).mono fun σV H Q ⟨loc, σ, M, k, M', rel, e, aft⟩ => by
    obtain ⟨p, hp, e⟩ := bind_some e
    cases e
    exact runT rel hp fun H1 loc1 rel1 ex1 l1 => aft H1 loc1 rel1.st ex1 l1
theorem r_one {op} (ha : EV X a ca) : EV X (.BoolOp op [a] pos) ca := pe_one ha
theorem r_and (ha : EV X a ca) (hb : EV X (.BoolOp .And (b :: rest) pos) cb) : EV X (.BoolOp .And (a :: b :: rest) pos) (eAnd ca cb) :=
  (pe_and ha hb).mono fun σV H Q ⟨loc, σ, M, w, M', rel, e, aft⟩ => by
    obtain ⟨p, hp, e⟩ := bind_some e
    refine run1 rel hp fun v H1 loc1 rel1 rd1 ex1 l1 => ?_
    split at e
    · rename_i hc
      rw [hc] at rd1
      cases rd1
      refine ⟨_, rfl, ?_⟩
      rw [if_pos rfl]
      exact run1 (p := (w, M')) rel1 e fun u H2 loc2 rel2 rd2 ex2 l2 => aft u H2 loc2 rel2.st rd2 (ex1.trans ex2) (l1.trans l2)
    · rename_i hc
      rw [hc] at rd1
      cases rd1
      refine ⟨_, rfl, ?_⟩
      rw [if_neg Bool.false_ne_true]
      cases e
      exact aft _ H1 loc1 rel1.st (.bl _) ex1 l1
    · cases e
theorem r_or (ha : EV X a ca) (hb : EV X (.BoolOp .Or (b :: rest) pos) cb) : EV X (.BoolOp .Or (a :: b :: rest) pos) (eOr ca cb) :=
  (pe_or ha hb).mono fun σV H Q ⟨loc, σ, M, w, M', rel, e, aft⟩ => by
    obtain ⟨p, hp, e⟩ := bind_some e
    refine run1 rel hp fun v H1 loc1 rel1 rd1 ex1 l1 => ?_
    split at e
    · rename_i hc
      rw [hc] at rd1
      cases rd1
      refine ⟨_, rfl, ?_⟩
      rw [if_pos rfl]
      cases e
      exact aft _ H1 loc1 rel1.st (.bl _) ex1 l1
    · rename_i hc
      rw [hc] at rd1
      cases rd1
      refine ⟨_, rfl, ?_⟩
      rw [if_neg Bool.false_ne_true]
      exact run1 (p := (w, M')) rel1 e fun u H2 loc2 rel2 rd2 ex2 l2 => aft u H2 loc2 rel2.st rd2 (ex1.trans ex2) (l1.trans l2)
    · cases e
theorem r_not (ha : EV X a ca) : EV X (.UnaryOp .Not a pos) (eNot ca) :=
  (pe_not ha).mono fun σV H Q ⟨loc, σ, M, w, M', rel, e, aft⟩ => by
    obtain ⟨p, hp, e⟩ := bind_some e
    refine run1 rel hp fun v H1 loc1 rel1 rd1 ex1 l1 => ?_
    split at e
    · rename_i hc
      rw [hc] at rd1
      cases rd1
      cases e
      exact ⟨_, rfl, aft _ H1 loc1 rel1.st (.bl _) ex1 l1⟩
    · cases e
theorem r_if (hc : ET X c tA) (ha : EV X a ca) (hb : EV X b cb) : EV X (.IfExp c a b pos) (eIf tA ca cb) :=
  (pe_ifExp hc ha hb).mono fun σV H Q ⟨loc, σ, M, w, M', rel, e, aft⟩ => by
    obtain ⟨p, hp, e⟩ := bind_some e
    refine runT rel hp fun H1 loc1 rel1 ex1 l1 => ?_
    split at e
    · rename_i hc
      rw [if_pos hc]
      exact run1 (p := (w, M')) rel1 e fun u H2 loc2 rel2 rd2 ex2 l2 => aft u H2 loc2 rel2.st rd2 (ex1.trans ex2) (l1.trans l2)
    · rename_i hc
      rw [if_neg hc]
      exact run1 (p := (w, M')) rel1 e fun u H2 loc2 rel2 rd2 ex2 l2 => aft u H2 loc2 rel2.st rd2 (ex1.trans ex2) (l1.trans l2)

/-! ### arguments, displays -/
variable {es : List Expr} {cs : List CE}
theorem runA {K : KW} {σV : L2.St} {H : Hp} {loc : List Addr} {σ : Sl} {M : Mem} {p : List W × Mem} {Q : List V → Hp → Prop} (rel : Rel K loc σ M σV H) (ha : eArgs cs σ M = some p)
    (h : ∀ vs H1 loc1, Rel K loc1 σ p.2 σV H1 → Rds K H1 loc1 vs p.1 → Ext K H H1 → loc <+: loc1 → Q vs H1) : TA' K (eArgs cs) σV H Q :=
  ⟨loc, σ, M, p.1, p.2, rel, ha, fun v H1 loc1 s r e l => h v H1 loc1 (rel.move s e l) r e l⟩
theorem a_nil : EA X [] [] := pa_nil.mono fun σV H Q ⟨loc, σ, M, ws, M', rel, e, aft⟩ => by
  cases e
  exact aft [] H loc rel.st .nil .refl (List.prefix_refl _)
theorem a_cons (ha : EV X a ca) (hb : EA X es cs) (hs : starEach (a :: es) X.env = (false, eval a X.env) :: starEach es X.env := by rfl) : EA X (a :: es) (ca :: cs) :=
  (pa_cons ha hb hs).mono fun σV H Q ⟨loc, σ, M, ws, M', rel, e, aft⟩ => by
    obtain ⟨p, hp, e⟩ := bind_some e
    obtain ⟨q, hq, e⟩ := bind_some e
    cases e
    exact run1 rel hp fun v H1 loc1 rel1 rd1 ex1 l1 => runA rel1 hq fun vs H2 loc2 rel2 rd2 ex2 l2 => aft _ H2 loc2 rel2.st (.cons (rd1.mono ex2 l2) rd2) (ex1.trans ex2) (l1.trans l2)
theorem lineOk {n : Nat} (h : n ≤ 16777216) : n ≤ sizeLine := h
theorem r_tup {x1} (h : EA X es cs) : EV X (.Tuple es x1 pos) (eTup cs) := (pe_tup h).mono fun σV H Q ⟨loc, σ, M, w, M', rel, e, aft⟩ => by
  obtain ⟨p, hp, e⟩ := bind_some e
  split at e
  · rename_i hz
    cases e
    refine runA rel hp fun vs H1 loc1 rel1 rd1 ex1 l1 => ⟨lineOk (by rw [rd1.length]; exact hz), fun q hq => ?_⟩
    exact aft _ _ loc1 (rel1.st.newT hq) (.tup (SqT.of upd_same) (rd1.mono (.new hq) (List.prefix_refl _))) (ex1.trans (.new hq)) l1
  · cases e
theorem last_get {α : Type} {l : List α} {a : α} {n : Nat} (h : n = l.length) : (l ++ [a])[n]? = some a := by subst h; simp
theorem new_lst {K : KW} {H : Hp} {loc : List Addr} {M : Mem} {xs : List V} {ws : List W} {q : Addr} (s : Store K H loc M) (r : Rds K H loc xs ws) (hq : H q = none) : Store K (upd H q (.lst xs)) (loc ++ [q]) (M ++ [.lst ws]) :=
  s.new hq ⟨xs, upd_same, r.mono (.new hq) (List.prefix_append _ _)⟩
theorem aft_lst {K : KW} {H : Hp} {loc : List Addr} {M : Mem} {xs : List V} {ws : List W} {q : Addr} {Q : VK} (s : Store K H loc M) (r : Rds K H loc xs ws) (hq : H q = none)
    (aft : Aft K H loc (.ref M.length) (M ++ [.lst ws]) Q) : Q (.ref q) (upd H q (.lst xs)) :=
  aft _ _ (loc ++ [q]) (new_lst s r hq) (.ref (last_get s.len.symm)) (.new hq) (List.prefix_append _ _)
theorem aft_tup {K : KW} {H : Hp} {loc : List Addr} {M : Mem} {xs : List V} {ws : List W} {q : Addr} {Q : VK} (s : Store K H loc M) (r : Rds K H loc xs ws) (hq : H q = none)
    (aft : Aft K H loc (.tup ws) M Q) : Q (.ref q) (upd H q (.tup xs)) :=
  aft _ _ loc (s.newT hq) (.tup (SqT.of upd_same) (r.mono (.new hq) (List.prefix_refl _))) (.new hq) (List.prefix_refl _)
theorem r_lst (h : EA X es cs) : EV X (.List es pos) (eLst cs) := (pe_lst h).mono fun σV H Q ⟨loc, σ, M, w, M', rel, e, aft⟩ => by
  obtain ⟨p, hp, e⟩ := bind_some e
  split at e
  · rename_i hz
    cases e
    refine runA rel hp fun vs H1 loc1 rel1 rd1 ex1 l1 => ⟨lineOk (by rw [rd1.length]; exact hz), fun q hq => ?_⟩
    exact aft_lst rel1.st rd1 hq (aft.after ex1 l1)
  · cases e

/-! ### calls -/
def LiftN (K : KW) (r : List V → Hp → VK → Prop) (f : Fn) : Prop :=
  ∀ (H : Hp) (loc : List Addr) (M : Mem) (ws : List W) (vs : List V) (w : W) (M' : Mem) (Q : VK), Store K H loc M → Rds K H loc vs ws → f ws M = some (w, M') → Aft K H loc w M' Q → r vs H Q
theorem cb_aux {r : List V → Hp → VK → Prop} {f : Fn} (hl : LiftN X.KW r f) (σV : L2.St) (H : Hp) (Q : VK) (h : TC X.KW (eN f cs) σV H Q) : tCB r (TA' X.KW (eArgs cs)) σV H Q := by
  obtain ⟨loc, σ, M, w, M', rel, e, aft⟩ := h
  obtain ⟨p, hp, e⟩ := bind_some e
  exact runA rel hp fun vs H1 loc1 rel1 rd1 ex1 l1 => hl H1 loc1 p.2 p.1 vs w M' Q rel1.st rd1 e (aft.after ex1 l1)
variable {x : Str} {p : Pos} {id T : String}
theorem r_callB {r : List V → Hp → VK → Prop} {f : Fn} (hc : CallR X (.builtin id) r) (hl : LiftN X.KW r f) (hg : Gl X x) (hm : X.mg x = none) (hv : bootBuiltins x = some (.builtin id)) (ha : EA X (e :: es) cs) (hn : x ≠ "__name__" := by decide) (hdb : (x == ("__debug__" : Str)) = false := by decide)
    (he : starEach (e :: es) X.env = (false, eval e X.env) :: starEach es X.env := by rfl) (hpl : (backTo pos (starEach es X.env)).any (·.1) = false := by rfl) : EV X (.Call (.Name x p) (e :: es) [] pos) (eN f cs) :=
  (pe_callB hc hg hm hv ha hn hdb he hpl).mono (cb_aux hl)
theorem r_callTy {r : List V → Hp → VK → Prop} {f : Fn} (hc : CallR X (.type T) r) (hl : LiftN X.KW r f) (hg : Gl X x) (hm : X.mg x = none) (hv : bootBuiltins x = some (.type T)) (ha : EA X (e :: es) cs) (hn : x ≠ "__name__" := by decide) (hdb : (x == ("__debug__" : Str)) = false := by decide)
    (he : starEach (e :: es) X.env = (false, eval e X.env) :: starEach es X.env := by rfl) (hpl : (backTo pos (starEach es X.env)).any (·.1) = false := by rfl) : EV X (.Call (.Name x p) (e :: es) [] pos) (eN f cs) :=
  (pe_callTy hc hg hm hv ha hn hdb he hpl).mono (cb_aux hl)
/-- the promise of a def of one's own: what F says -/
def spF (K : KW) (n : Nat) (F : Fn) : Sp := fun vs H Q _ => vs.length = n ∧ ∃ loc M ws w M', Store K H loc M ∧ Rds K H loc vs ws ∧ F ws M = some (w, M') ∧ Aft K H loc w M' Q
theorem eArgs_length : ∀ {cs : List CE} {σ : Sl} {M : Mem} {p : List W × Mem}, eArgs cs σ M = some p → p.1.length = cs.length
  | [], _, _, _, h => by cases h; rfl
  | c :: cs, σ, M, p, h => by
    obtain ⟨q, hq, h⟩ := bind_some h
    obtain ⟨t, ht, h⟩ := bind_some h
    cases h
    rw [List.length_cons, List.length_cons, eArgs_length ht]
theorem r_call {F : Fn} {k : Nat} {f : Addr} {fd : FuncData} {ps : List Str} (G : FnOk X.prog X.w X.KW X.mg X.base CX0 k f fd ps (spF X.KW ps.length F)) (hr : Room k X.A) (hg : Gl X x) (hm : X.mg x = some (.ref f)) (hk : PySem.W.keepIn X.KW (.ref f) = true) (hb : Binds X.KW fd ps [])
    (ha : EA X (e :: es) cs) (hn : cs.length = ps.length := by rfl) (hdb : (x == ("__debug__" : Str)) = false := by decide) (he : starEach (e :: es) X.env = (false, eval e X.env) :: starEach es X.env := by rfl) (hpl : (backTo pos (starEach es X.env)).any (·.1) = false := by rfl) :
    EV X (.Call (.Name x p) (e :: es) [] pos) (eN F cs) :=
  (pe_call G hr hg hm hk hb .nil pass0 ha hdb he hpl).mono fun σV H Q ⟨loc, σ, M, w, M', rel, e, aft⟩ => by
    obtain ⟨q, hq, e⟩ := bind_some e
    refine runA rel hq fun vs H1 loc1 rel1 rd1 ex1 l1 => ?_
    rw [List.append_nil]
    exact ⟨by rw [rd1.length, eArgs_length hq, hn], loc1, q.2, q.1, w, M', rel1.st, rd1, e, aft.after ex1 l1⟩
/-! ### methods of lists -/
variable {o : Expr} {co : CE} {name : Str} {apos cpos : Pos}
theorem isLst_ty {K : KW} {H : Hp} {loc : List Addr} {M : Mem} {v : V} {w : W} (s : Store K H loc M) (r : Rd K H loc v w) (h : isLst M w = true) : tyV K "list" v H := by
  cases r with
  | @ref a n hn =>
    simp only [isLst] at h
    split at h
    · rename_i zs e2
      obtain ⟨xs, h1, _⟩ := s.ok n a _ hn e2
      exact .inl ⟨rfl, xs, SqL.of h1⟩
    · cases h
  | _ => cases h
theorem r_meth {r : V → List V → Hp → VK → Prop} {f : Fn} (slot : Slot "list" name id) (hty : typeOf (.builtin id) = pure (.type "method_descriptor")) (hm : MtR X id r)
    (hl : LiftN X.KW (fun vs H Q => ∃ v us, vs = v :: us ∧ r v us H Q) f) (ho : EV X o co) (ha : EA X (e :: es) cs)
    (hbase : attributeBase o name X.env (eval o X.env) = eval o X.env := by rfl)
    (hfew : ((backTo cpos (starEach (e :: es) X.env)).all (fun x => !x.1) && (backToKw cpos (keywordEach [] X.env)).all (fun x => x.1.isSome)
      && decide ((e :: es).length + ([] : List Keyword).length + (if ([] : List Keyword).isEmpty then 0 else 1) < 30)) = true := by rfl)
    (hline : (apos.endLine == cpos.line) = true := by rfl) (hs : starEach (e :: es) X.env = (false, eval e X.env) :: starEach es X.env := by rfl) (hplain : (backTo cpos (starEach es X.env)).any (·.1) = false := by rfl) :
    EV X (.Call (.Attribute o name apos) (e :: es) [] cpos) (eML f co cs) :=
  (pe_bm PySem.F.plainAttrs_list slot hty hm ho ha hbase hfew hline hs hplain).mono fun σV H Q ⟨loc, σ, M, w, M', rel, e, aft⟩ => by
    obtain ⟨q, hq, e⟩ := bind_some e
    split at e
    · rename_i hi
      obtain ⟨t, ht, e⟩ := bind_some e
      refine run1 rel hq fun v H1 loc1 rel1 rd1 ex1 l1 => ⟨isLst_ty rel1.st rd1 hi, ?_⟩
      refine runA rel1 ht fun vs H2 loc2 rel2 rd2 ex2 l2 => ?_
      obtain ⟨v', us, e', h⟩ := hl H2 loc2 t.2 (q.1 :: t.1) (v :: vs) w M' Q rel2.st (.cons (rd1.mono ex2 l2) rd2) e (aft.after (ex1.trans ex2) (l1.trans l2))
      cases e'
      exact h
    · cases e
theorem r_meth0 {r : V → List V → Hp → VK → Prop} {f : Fn} (slot : Slot "list" name id) (hty : typeOf (.builtin id) = pure (.type "method_descriptor")) (hm : MtR X id r)
    (hl : LiftN X.KW (fun vs H Q => ∃ v us, vs = v :: us ∧ r v us H Q) f) (ho : EV X o co)
    (hbase : attributeBase o name X.env (eval o X.env) = eval o X.env := by rfl) (hline : (apos.endLine == cpos.line) = true := by rfl) :
    EV X (.Call (.Attribute o name apos) [] [] cpos) (eML f co []) :=
  (pe_bm0 PySem.F.plainAttrs_list slot hty hm ho hbase hline).mono fun σV H Q ⟨loc, σ, M, w, M', rel, e, aft⟩ => by
    obtain ⟨q, hq, e⟩ := bind_some e
    split at e
    · rename_i hi
      refine run1 rel hq fun v H1 loc1 rel1 rd1 ex1 l1 => ⟨isLst_ty rel1.st rd1 hi, ?_⟩
      obtain ⟨v', us, e', h⟩ := hl H1 loc1 q.2 [q.1] [v] w M' Q rel1.st (.cons rd1 .nil) e (aft.after ex1 l1)
      cases e'
      exact h
    · cases e

/-! ### items, slices -/
theorem r_ix {r : R2} {g : Mem → W → W → Option (W × Mem)} (hr : IxR X r) (hl : Lift2 X.KW r g) (ha : EV X a ca) (hb : EV X b cb) (hs : PlainIx b := by exact fun _ _ => rfl) : EV X (.Subscript a b pos) (e2 g ca cb) := (pe_ix hr ha hb hs).mono (op2 hl)
def TO' (K : KW) (c : Option CE) : TO := fun σV H Q => ∃ loc σ M o M', Rel K loc σ M σV H ∧ ePart c σ M = some (o, M') ∧ ∀ H' loc', Store K H' loc' M' → Ext K H H' → loc <+: loc' → Q o H'
abbrev EO (X : Cx) (e : Option Expr) (c : Option CE) : Prop := PO X e (TO' X.KW c)
theorem o_none : EO X none none := ⟨fun pins s σ H Q I h => po_none.run pins s σ H Q I (by
  obtain ⟨loc, σ', M, o, M', rel, e, aft⟩ := h
  cases e
  exact aft H loc rel.st .refl (List.prefix_refl _))⟩
theorem o_some (ha : EV X a ca) : EO X (some a) (some ca) := ⟨fun pins s σ H Q I h => (po_some ha).run pins s σ H Q I (by
  obtain ⟨loc, σ', M, o, M', rel, e, aft⟩ := h
  obtain ⟨p, hp, e⟩ := bind_some e
  refine run1 rel hp fun v H1 loc1 rel1 rd1 ex1 l1 => ?_
  split at e
  · rename_i i hi
    cases e
    rw [hi] at rd1
    cases rd1
    exact ⟨_, rfl, aft H1 loc1 rel1.st ex1 l1⟩
  · cases e)⟩
def LiftS (K : KW) (r : V → Option Int → Option Int → Hp → VK → Prop) (g : Mem → W → Option Int → Option Int → Option (W × Mem)) : Prop :=
  ∀ (H : Hp) (loc : List Addr) (M : Mem) (x : W) (v : V) (lo hi : Option Int) (w : W) (M' : Mem) (Q : VK), Store K H loc M → Rd K H loc v x → g M x lo hi = some (w, M') → Aft K H loc w M' Q → r v lo hi H Q
theorem r_sl {r : V → Option Int → Option Int → Hp → VK → Prop} {lo hi : Option Expr} {cl ch : Option CE} {p2 : Pos} (hr : SlR X r) (hl : LiftS X.KW r gSl) (ha : EV X a ca) (h1 : EO X lo cl) (h2 : EO X hi ch) : EV X (.Subscript a (.Slice lo hi none p2) pos) (eSl ca cl ch) :=
  (pe_slice hr ha h1 h2).mono fun σV H Q ⟨loc, σ, M, w, M', rel, e, aft⟩ => by
    obtain ⟨p, hp, e⟩ := bind_some e
    obtain ⟨q, hq, e⟩ := bind_some e
    obtain ⟨t, ht, e⟩ := bind_some e
    refine run1 rel hp fun v H1 loc1 rel1 rd1 ex1 l1 => ?_
    refine ⟨loc1, σ, p.2, q.1, q.2, rel1, hq, fun H2 loc2 s2 ex2 l2 => ?_⟩
    have rel2 := rel1.move s2 ex2 l2
    refine ⟨loc2, σ, q.2, t.1, t.2, rel2, ht, fun H3 loc3 s3 ex3 l3 => ?_⟩
    exact hl H3 loc3 t.2 p.1 v q.1 t.1 w M' Q s3 (rd1.mono (ex2.trans ex3) (l2.trans l3)) e (aft.after ((ex1.trans ex2).trans ex3) ((l1.trans l2).trans l3))
end
end BF

set_option Elab.async false
set_option linter.all false
set_option autoImplicit false
set_option maxRecDepth 100000
/-! The rules: targets, statements, loops, comprehensions, defs. -/
namespace BF
open PySem PySem.Spec
open PyProof.Rows L2

section
variable {X : Cx} {a b c e tg iter : Expr} {ca cb cc : CE} {pos : Pos} {g : CG} {gs : List CG} {es : List Expr} {cs : List CE}

/-! ### targets -/
theorem g_name (i : Nat) {x : Str} (hN : X.N.Nodup) (hi : X.N[i]? = some x := by rfl) (hx : Loc X.env.scope x := by first | exact Or.inl rfl | exact Or.inr rfl)
    (hf : X.fn x = true ∨ X.env.scope.names.lookup x = some .local := by first | exact .inl rfl | exact .inr rfl) : EG X (.Name x pos) (gV i) :=
  (pg_name hN hi hx hf).mono fun v σV H Q ⟨loc, σ, M, w, σ', rel, rd, e, q⟩ => by
    cases e
    exact q _ (rel.set rd i)
theorem gs_nil : EGs X [] [] := pgs_nil.mono fun vs σV H Q ⟨loc, σ, M, ws, σ', rel, rd, e, q⟩ => by
  cases rd with
  | nil => cases e; exact ⟨rfl, q σV rel⟩
  | cons _ _ => cases e
theorem gs_cons (h1 : EG X a g) (h2 : EGs X es gs) (hs : (assignEach (a :: es) X.env).map (·.2) = assign a X.env :: (assignEach es X.env).map (·.2) := by rfl) : EGs X (a :: es) (g :: gs) :=
  (pgs_cons h1 h2 hs).mono fun vs σV H Q ⟨loc, σ, M, ws, σ', rel, rd, e, q⟩ => by
    cases rd with
    | nil => cases e
    | @cons v vs w ws r rs =>
      obtain ⟨σ1, e1, e2⟩ := bind_some e
      exact ⟨v, vs, rfl, loc, σ, M, w, σ1, rel, r, e1, fun σV1 rel1 => ⟨loc, σ1, M, ws, σ', rel1, rs, e2, q⟩⟩
theorem gAll_length : ∀ {gs : List CG} {ws : List W} {σ σ' : Sl}, gAll gs ws σ = some σ' → ws.length = gs.length
  | [], [], _, _, _ => rfl
  | [], _ :: _, _, _, h => by cases h
  | _ :: _, [], _, _, h => by cases h
  | g :: gs, w :: ws, σ, σ', h => by
    obtain ⟨σ1, _, h⟩ := bind_some h
    rw [List.length_cons, List.length_cons, gAll_length h]
theorem g_tup {k : Nat} (hc : X.calm = true) (h : EGs X es gs) (hn : (assignEach es X.env).length = gs.length := by rfl) (hst : (assignEach es X.env).findIdx? (·.1) = none := by rfl) : EG X (.Tuple es k pos) (gT gs) :=
  (pg_tup hc h hn hst).mono fun v σV H Q ⟨loc, σ, M, w, σ', rel, rd, e, q⟩ => by
    cases rd with
    | @tup a xs ws sq rs => exact ⟨a, xs, rfl, sq, by rw [rs.length]; exact gAll_length e, loc, σ, M, ws, σ', rel, rs, e, q⟩
    | _ => cases e
/-- a comprehension's target: only the slots vs are touched -/
def TGw (K : KW) (vs : List Nat) (c : CG) : TG := fun v σV H Q => ∃ loc σ M w σ', Rel K loc σ M σV H ∧ Rd K H loc v w ∧ c w σ = some σ' ∧ ∀ σV', Rel K loc σ' M σV' H → L2.wipe σV' vs = L2.wipe σV vs → Q σV' H
def TGsw (K : KW) (vs : List Nat) (c : List CG) : TGs := fun us σV H Q => ∃ loc σ M ws σ', Rel K loc σ M σV H ∧ Rds K H loc us ws ∧ gAll c ws σ = some σ' ∧ ∀ σV', Rel K loc σ' M σV' H → L2.wipe σV' vs = L2.wipe σV vs → Q σV' H
abbrev EGw (X : Cx) (vs : List Nat) (e : Expr) (c : CG) : Prop := PG X e (TGw X.KW vs c)
abbrev EGsw (X : Cx) (vs : List Nat) (es : List Expr) (c : List CG) : Prop := PGs X es (TGsw X.KW vs c)
theorem wipe_set {σ : L2.St} {i : Nat} {x : Option V} : ∀ {vs : List Nat}, i ∈ vs → L2.wipe (σ.set i x) vs = L2.wipe σ vs
  | [], h => by cases h
  | v :: vs, h => by
    show (L2.wipe (σ.set i x) vs).set v none = (L2.wipe σ vs).set v none
    by_cases hv : i ∈ vs
    · rw [wipe_set hv]
    · have e : i = v := by
        rcases List.mem_cons.mp h with h | h
        · exact h
        · exact absurd h hv
      subst e
      have : ∀ (us : List Nat), i ∉ us → L2.wipe (σ.set i x) us = (L2.wipe σ us).set i x := by
        intro us
        induction us with
        | nil => intro _; rfl
        | cons u us ih =>
          intro hu
          show (L2.wipe (σ.set i x) us).set u none = ((L2.wipe σ us).set u none).set i x
          rw [ih (fun z => hu (List.mem_cons_of_mem _ z)), List.set_comm _ _ (fun z => hu (by rw [z]; exact List.mem_cons_self))]
      rw [this vs hv, List.set_set]
theorem wipe_wipe (σ : L2.St) : ∀ vs : List Nat, L2.wipe (L2.wipe σ vs) vs = L2.wipe σ vs := by
  have : ∀ (us vs : List Nat), (∀ v ∈ vs, v ∈ us) → L2.wipe (L2.wipe σ vs) us = L2.wipe σ us := by
    intro us vs
    induction vs with
    | nil => intro _; rfl
    | cons v vs ih =>
      intro h
      show L2.wipe ((L2.wipe σ vs).set v none) us = _
      rw [wipe_set (h v List.mem_cons_self), ih fun u hu => h u (List.mem_cons_of_mem _ hu)]
  exact fun vs => this vs vs fun _ h => h
theorem gw_name {vs : List Nat} (i : Nat) {x : Str} (hN : X.N.Nodup) (hv : i ∈ vs := by decide) (hi : X.N[i]? = some x := by rfl) (hx : Loc X.env.scope x := by first | exact Or.inl rfl | exact Or.inr rfl)
    (hf : X.fn x = true ∨ X.env.scope.names.lookup x = some .local := by first | exact .inl rfl | exact .inr rfl) : EGw X vs (.Name x pos) (gV i) :=
  (pg_name hN hi hx hf).mono fun v σV H Q ⟨loc, σ, M, w, σ', rel, rd, e, q⟩ => by
    cases e
    exact q _ (rel.set rd i) (wipe_set hv)
theorem gsw_nil {vs : List Nat} : EGsw X vs [] [] := pgs_nil.mono fun us σV H Q ⟨loc, σ, M, ws, σ', rel, rd, e, q⟩ => by
  cases rd with
  | nil => cases e; exact ⟨rfl, q σV rel rfl⟩
  | cons _ _ => cases e
theorem gsw_cons {vs : List Nat} (h1 : EGw X vs a g) (h2 : EGsw X vs es gs) (hs : (assignEach (a :: es) X.env).map (·.2) = assign a X.env :: (assignEach es X.env).map (·.2) := by rfl) : EGsw X vs (a :: es) (g :: gs) :=
  (pgs_cons h1 h2 hs).mono fun us σV H Q ⟨loc, σ, M, ws, σ', rel, rd, e, q⟩ => by
    cases rd with
    | nil => cases e
    | @cons v us w ws r rs =>
      obtain ⟨σ1, e1, e2⟩ := bind_some e
      exact ⟨v, us, rfl, loc, σ, M, w, σ1, rel, r, e1, fun σV1 rel1 z1 => ⟨loc, σ1, M, ws, σ', rel1, rs, e2, fun σV2 rel2 z2 => q σV2 rel2 (z2.trans z1)⟩⟩
theorem gw_tup {vs : List Nat} {k : Nat} (hc : X.calm = true) (h : EGsw X vs es gs) (hn : (assignEach es X.env).length = gs.length := by rfl) (hst : (assignEach es X.env).findIdx? (·.1) = none := by rfl) : EGw X vs (.Tuple es k pos) (gT gs) :=
  (pg_tup hc h hn hst).mono fun v σV H Q ⟨loc, σ, M, w, σ', rel, rd, e, q⟩ => by
    cases rd with
    | @tup a xs ws sq rs => exact ⟨a, xs, rfl, sq, by rw [rs.length]; exact gAll_length e, loc, σ, M, ws, σ', rel, rs, e, q⟩
    | _ => cases e

/-! ### statements -/
variable {st : Stmt} {rest : List Stmt} {s s' : CS}
theorem runS {K : KW} {σV : L2.St} {H : Hp} {loc : List Addr} {σ : Sl} {M : Mem} {o : Out} {D : Ends} (rel : Rel K loc σ M σV H) (ha : s σ M = some o) (h : AftS K H loc D o) : TS' K s D σV H := ⟨loc, σ, M, o, rel, ha, h⟩
theorem ss_nil : ESs X [] sNil := pss_nil.mono fun D σV H ⟨loc, σ, M, o, rel, e, aft⟩ => by
  cases e
  exact aft σV H loc rel .refl (List.prefix_refl _)
theorem ss_one (h : ES X st s) : ESs X [st] s := pss_one h
theorem ss_cons (h1 : ES X st s) (h2 : ESs X rest s') : ESs X (st :: rest) (sSeq s s') :=
  (pss_cons h1 h2).mono fun D σV H ⟨loc, σ, M, o, rel, e, aft⟩ => by
    obtain ⟨o1, h, e⟩ := bind_some e
    refine ⟨loc, σ, M, o1, rel, h, ?_⟩
    cases o1 with
    | nx σ1 M1 => exact fun σV1 H1 loc1 rel1 ex1 l1 => ⟨loc1, σ1, M1, o, rel1, e, aft.after ex1 l1⟩
    | rt w M1 => cases e; exact aft
    | bk σ1 M1 => cases e; exact aft
    | ct σ1 M1 => cases e; exact aft
theorem s_set (i : Nat) {x : Str} {pos' : Pos} (hN : X.N.Nodup) (he : EV X e ca) (hi : X.N[i]? = some x := by rfl) (hx : Loc X.env.scope x := by first | exact Or.inl rfl | exact Or.inr rfl)
    (hs : swapsWith e (some (.Name x pos')) pos.line X.env = pure false := by rfl) (hf : X.fn x = true ∨ X.env.scope.names.lookup x = some .local := by first | exact .inl rfl | exact .inr rfl) : ES X (.Assign [.Name x pos'] e pos) (sSet (gV i) ca) :=
  (ps_set hN hi hx he hs hf).mono fun D σV H ⟨loc, σ, M, o, rel, e, aft⟩ => by
    obtain ⟨p, hp, e⟩ := bind_some e
    cases e
    exact run1 rel hp fun v H1 loc1 rel1 rd1 ex1 l1 => aft _ H1 loc1 (rel1.set rd1 i) ex1 l1
theorem asg_aux {D : Ends} {σV : L2.St} {H : Hp} (h : TS' X.KW (sSet g ca) D σV H) : tAsg (TC X.KW ca) (TG' X.KW g) D σV H := by
  obtain ⟨loc, σ, M, o, rel, e, aft⟩ := h
  obtain ⟨p, hp, e⟩ := bind_some e
  obtain ⟨σ1, h1, e⟩ := bind_some e
  cases e
  exact run1 rel hp fun v H1 loc1 rel1 rd1 ex1 l1 => ⟨loc1, σ, p.2, p.1, σ1, rel1, rd1, h1, fun σV' rel' => aft σV' H1 loc1 rel' ex1 l1⟩
/-- any target -/
theorem s_asg (he : EV X e ca) (hg : EG X tg g) (hs : swapsWithSole [tg] e pos.line X.env = pure false := by rfl) (hw : swappedStores [tg] e X.env = pure none := by rfl)
    (h1 : (assignEach [tg] X.env).map (·.2) = [assign tg X.env] := by rfl) : ES X (.Assign [tg] e pos) (sSet g ca) :=
  (ps_asg he hg hs hw h1).mono fun D σV H h => asg_aux h
theorem s_par2 (i j : Nat) {x y : Str} {px py pt : Pos} {kt k2 pt2} (hc : X.calm = true) (hN : X.N.Nodup) (ha : EA X [a, b] [ca, cb]) (hi : X.N[i]? = some x := by rfl) (hj : X.N[j]? = some y := by rfl) (hij : i ≠ j := by decide)
    (hx : X.env.scope.names.lookup x = some .local := by rfl) (hy : X.env.scope.names.lookup y = some .local := by rfl)
    (hw : swappedStores [.Tuple [.Name x px, .Name y py] kt pt] (.Tuple [a, b] k2 pt2) X.env = pure (some [x, y]) := by rfl)
    (hs : swapsWithSole [.Tuple [.Name x px, .Name y py] kt pt] (.Tuple [a, b] k2 pt2) pos.line X.env = pure false := by rfl) :
    ES X (.Assign [.Tuple [.Name x px, .Name y py] kt pt] (.Tuple [a, b] k2 pt2) pos) (sPar [i, j] [ca, cb]) :=
  (ps_par hc hN hi hj hij hx hy ha hw hs).mono fun D σV H ⟨loc, σ, M, o, rel, e, aft⟩ => by
    obtain ⟨p, hp, e⟩ := bind_some e
    refine runA rel hp fun vs H1 loc1 rel1 rd1 ex1 l1 => ?_
    have hl : p.1.length = 2 := eArgs_length hp
    obtain ⟨p1, p2⟩ := p
    match p1, hl, rd1 with
    | [w1, w2], _, .cons (v := v1) r1 (.cons (v := v2) r2 .nil) =>
      cases e
      exact ⟨_, _, rfl, aft _ H1 loc1 ((rel1.set r1 i).set r2 j) ex1 l1⟩
theorem s_aug (i : Nat) {x : Str} {op : Operator} {r : R2} {f : Mem → W → W → Option (W × Mem)} {pos' : Pos} (hN : X.N.Nodup) (ho : OpR X (inplaceOp op) r) (hl : Lift2 X.KW r f) (he : EV X e ca) (hi : X.N[i]? = some x := by rfl) (hx : Loc X.env.scope x := by first | exact Or.inl rfl | exact Or.inr rfl)
    (hf : X.fn x = true ∨ X.env.scope.names.lookup x = some .local := by first | exact .inl rfl | exact .inr rfl) : ES X (.AugAssign (.Name x pos') op e pos) (sAug i f ca) :=
  (ps_aug hN hi hx he (show PIp X op r from ho) hf).mono fun D σV H ⟨loc, σ, M, o, rel, e, aft⟩ => by
    unfold sAug at e
    split at e
    · rename_i w hw
      obtain ⟨p, hp, e⟩ := bind_some e
      obtain ⟨q, hq, e⟩ := bind_some e
      cases e
      have hw' : σ[i]? = some (some w) := by
        rw [List.getD_eq_getElem?_getD] at hw
        cases z : σ[i]? with
        | none => rw [z] at hw; cases hw
        | some u => rw [z] at hw; exact congrArg some hw
      obtain ⟨v, h1, h2⟩ := rel.sl i w hw'
      refine ⟨v, h1, run1 rel hp fun u H1 loc1 rel1 rd1 ex1 l1 => ?_⟩
      refine hl H1 loc1 p.2 w p.1 v u q.1 q.2 _ rel1.st (h2.mono ex1 l1) rd1 hq fun z H2 loc2 s2 rd2 ex2 l2 => ?_
      exact aft _ H2 loc2 ((rel1.move s2 ex2 l2).set rd2 i) (ex1.trans ex2) (l1.trans l2)
    · cases e
def LiftP (K : KW) (r : TSet) (f : Mem → W → W → W → Option Mem) : Prop :=
  ∀ (H : Hp) (loc : List Addr) (M : Mem) (x y z : W) (o i v : V) (M' : Mem) (Q : Hp → Prop), Store K H loc M → Rd K H loc o x → Rd K H loc i y → Rd K H loc v z → f M x y z = some M' →
    (∀ H' loc', Store K H' loc' M' → Ext K H H' → loc <+: loc' → Q H') → r o i v H Q
theorem s_put {r : TSet} {f : Mem → W → W → W → Option Mem} {pos1 : Pos} (ho : PSet X r) (hl : LiftP X.KW r f) (he : EV X e ca) (h1 : EV X a cb) (h2 : EV X b cc)
    (hs : swapsWithSole [.Subscript a b pos1] e pos.line X.env = pure false := by rfl) (hw : swappedStores [.Subscript a b pos1] e X.env = pure none := by rfl)
    (h3 : (assignEach [.Subscript a b pos1] X.env).map (·.2) = [assign (.Subscript a b pos1) X.env] := by rfl)
    (ha : ∀ v, assign (.Subscript a b pos1) X.env v = (do
      let ov ← holding [v] (eval a X.env)
      let iv ← holding [v, ov] (eval b X.env)
      standAt pos1
      holding [v, ov, iv] (setItem ov iv v)
      release [v, ov, iv] []) := by intro _; rfl) : ES X (.Assign [.Subscript a b pos1] e pos) (sPut f cb cc ca) :=
  (ps_asg he (pg_sub h1 h2 ho ha) hs hw h3).mono fun D σV H ⟨loc, σ, M, o, rel, e, aft⟩ => by
    obtain ⟨p, hp, e⟩ := bind_some e
    obtain ⟨q, hq, e⟩ := bind_some e
    obtain ⟨t, ht, e⟩ := bind_some e
    obtain ⟨M', hM, e⟩ := bind_some e
    cases e
    refine run1 rel hp fun v H1 loc1 rel1 rd1 ex1 l1 => run1 rel1 hq fun u H2 loc2 rel2 rd2 ex2 l2 => run1 rel2 ht fun z H3 loc3 rel3 rd3 ex3 l3 => ?_
    refine hl H3 loc3 t.2 q.1 t.1 p.1 u z v M' _ rel3.st (rd2.mono ex3 l3) rd3 (rd1.mono (ex2.trans ex3) (l2.trans l3)) hM fun H4 loc4 s4 ex4 l4 => ?_
    exact aft σV H4 loc4 (rel3.move s4 ex4 l4) (((ex1.trans ex2).trans ex3).trans ex4) (((l1.trans l2).trans l3).trans l4)
theorem s_expr (he : EV X e ca) (hs : swapsWith e none pos.line X.env = pure false := by rfl) : ES X (.Expr e pos) (sExpr ca) :=
  (ps_expr he hs).mono fun D σV H ⟨loc, σ, M, o, rel, e, aft⟩ => by
    obtain ⟨p, hp, e⟩ := bind_some e
    cases e
    exact run1 rel hp fun v H1 loc1 rel1 rd1 ex1 l1 => aft _ H1 loc1 rel1 ex1 l1
theorem s_ret (he : EV X e ca) : ES X (.Return (some e) pos) (sRet ca) :=
  (ps_ret he).mono fun D σV H ⟨loc, σ, M, o, rel, e, aft⟩ => by
    obtain ⟨p, hp, e⟩ := bind_some e
    cases e
    exact ⟨loc, σ, M, p.1, p.2, rel, hp, aft⟩
theorem s_break : ES X (.Break pos) sBreak := ps_break.mono fun D σV H ⟨loc, σ, M, o, rel, e, aft⟩ => by
  cases e
  exact aft σV H loc rel .refl (List.prefix_refl _)
theorem s_if {tA : CT} {sa sb : List Stmt} (hc : ET X c tA) (ha : ESs X sa s) (hb : ESs X sb s') : ES X (.If c sa sb pos) (sIf tA s s') :=
  (ps_if hc ha hb).mono fun D σV H ⟨loc, σ, M, o, rel, e, aft⟩ => by
    obtain ⟨p, hp, e⟩ := bind_some e
    refine runT rel hp fun H1 loc1 rel1 ex1 l1 => ?_
    split at e
    · rename_i h; rw [if_pos h]; exact ⟨loc1, σ, p.2, o, rel1, e, aft.after ex1 l1⟩
    · rename_i h; rw [if_neg h]; exact ⟨loc1, σ, p.2, o, rel1, e, aft.after ex1 l1⟩

/-! ### loops -/
/-- the iterator J yields ws while the memory stays as gd says -/
def WalkW (K : KW) (H0 : Hp) (loc0 : List Addr) (J : It) (ws : List W) (gd : Mem → Bool) : Prop :=
  ∀ (i : Nat) (H : Hp) (loc : List Addr) (M : Mem), Store K H loc M → Ext K H0 H → loc0 <+: loc → gd M = true →
    (∀ w, ws[i]? = some w → J.go i H ∧ ∀ x H2, J.yld i H x H2 → Rd K H2 loc x w ∧ Store K H2 loc M ∧ Ext K H H2) ∧ (ws.length ≤ i → J.stop i H)
def TI' (K : KW) (c : CI) : TI := fun σV H R => ∃ loc σ M ws gd M', Rel K loc σ M σV H ∧ c σ M = some (ws, gd, M') ∧
  ∀ J H' loc', Store K H' loc' M' → Ext K H H' → loc <+: loc' → WalkW K H' loc' J ws gd → R J H'
abbrev EI (X : Cx) (tg iter : Expr) (c : CI) : Prop := PI X tg iter (TI' X.KW c)
theorem _root_.L2.PI.mono {t t' : TI} (h : PI X tg iter t) (f : ∀ σ H R, t' σ H R → t σ H R) : PI X tg iter t' := ⟨fun p s σ H R I q => h.run p s σ H R I (f σ H R q)⟩
theorem s_for {it : CI} {body : List Stmt} (hi : EI X tg iter it) (hg : EG X tg g) (hb : ESs X body s) (hp : PassesOwn (model X.prog X.w) X.A X.env X.xe := by exact PassesOwn.never) (hc : X.calm = true := by rfl)
    (hs : ∀ x, foldedSetIterable iter X.env x = pure x := by intro _; rfl) : ES X (.For tg iter body [] pos) (sFor it g s) :=
  (ps_for hp hc hi hg hb hs).mono fun D σV H ⟨loc, σ, M, o, rel, e, aft⟩ => by
    obtain ⟨p, hp, e⟩ := bind_some e
    obtain ⟨ws, gd, M1⟩ := p
    refine ⟨loc, σ, M, ws, gd, M1, rel, hp, fun J H1 loc1 s1 ex1 l1 wk => ?_⟩
    have aft1 := aft.after ex1 l1
    refine ⟨fun i m σV' Hc => i ≤ ws.length ∧ m = ws.length - i ∧ ∃ locc σc Mc, Rel X.KW locc σc Mc σV' Hc ∧ Ext X.KW H1 Hc ∧ loc1 <+: locc ∧ forL gd g s (ws.drop i) σc Mc = some o,
      ⟨ws.length, Nat.zero_le _, rfl, loc1, σ, M1, rel.move s1 ex1 l1, .refl, List.prefix_refl _, e⟩, fun i m σV' Hc hW => ?_⟩
    obtain ⟨hi, rfl, locc, σc, Mc, relc, exc, lc, ec⟩ := hW
    by_cases hlt : i < ws.length
    · rw [List.drop_eq_getElem_cons hlt] at ec
      rw [forL] at ec
      split at ec
      · rename_i hgd
        obtain ⟨σ1, hg1, ec⟩ := bind_some ec
        obtain ⟨ob, hob, ec⟩ := bind_some ec
        obtain ⟨w1, _⟩ := wk i Hc locc Mc relc.st exc lc hgd
        obtain ⟨go, yl⟩ := w1 ws[i] (List.getElem?_eq_getElem hlt)
        refine .inr ⟨go, fun σV'' H'' => ∃ loc'' σ'' M'', Rel X.KW loc'' σ'' M'' σV'' H'' ∧ Ext X.KW H1 H'' ∧ loc1 <+: loc'' ∧ forL gd g s (ws.drop (i + 1)) σ'' M'' = some o, fun σV'' H'' hN => ?_, fun x H2 y => ?_⟩
        · exact ⟨ws.length - (i + 1), by omega, hlt, rfl, hN⟩
        · obtain ⟨rd, st2, ex2⟩ := yl x H2 y
          refine ⟨locc, σc, Mc, ws[i], σ1, relc.move st2 ex2 (List.prefix_refl _), rd, hg1, fun σV2 rel2 => ?_⟩
          refine ⟨locc, σ1, Mc, ob, rel2, hob, ?_⟩
          have exA := exc.trans ex2
          cases ob with
          | nx σ3 M3 => exact fun σV3 H3 loc3 rel3 ex3 l3 => ⟨loc3, σ3, M3, rel3, exA.trans ex3, lc.trans l3, ec⟩
          | ct σ3 M3 => exact fun σV3 H3 loc3 rel3 ex3 l3 => ⟨loc3, σ3, M3, rel3, exA.trans ex3, lc.trans l3, ec⟩
          | bk σ3 M3 =>
            cases ec
            exact fun σV3 H3 loc3 rel3 ex3 l3 => aft1 σV3 H3 loc3 rel3 (exA.trans ex3) (lc.trans l3)
          | rt w M3 =>
            cases ec
            exact Aft.after (K := X.KW) aft1 exA lc
      · cases ec
    · have e0 : i = ws.length := by omega
      subst e0
      rw [List.drop_length, forL] at ec
      split at ec
      · rename_i hgd
        cases ec
        obtain ⟨_, w2⟩ := wk ws.length Hc locc Mc relc.st exc lc hgd
        exact .inl ⟨w2 (Nat.le_refl _), aft1 σV' Hc locc relc exc lc⟩
      · cases ec
theorem s_while (n : Nat) {tA : CT} {body : List Stmt} (hc : ET X c tA) (hb : ESs X body s) (hp : PassesOwn (model X.prog X.w) X.A X.env X.xe := by exact PassesOwn.never) : ES X (.While c body [] pos) (sWhile n tA s) :=
  (ps_while hp hc hb).mono fun D σV H ⟨loc, σ, M, o, rel, e, aft⟩ => by
    refine ⟨fun m σV' Hc => ∃ locc σc Mc, Rel X.KW locc σc Mc σV' Hc ∧ Ext X.KW H Hc ∧ loc <+: locc ∧ whileL tA s m σc Mc = some o,
      ⟨n, loc, σ, M, rel, .refl, List.prefix_refl _, e⟩, fun m σV' Hc hW => ?_⟩
    obtain ⟨locc, σc, Mc, relc, exc, lc, ec⟩ := hW
    cases m with
    | zero => cases ec
    | succ m =>
      rw [whileL] at ec
      obtain ⟨p, hp, ec⟩ := bind_some ec
      refine runT relc hp fun H1 loc1 rel1 ex1 l1 => ?_
      split at ec
      · rename_i hb
        rw [if_pos hb]
        obtain ⟨ob, hob, ec⟩ := bind_some ec
        have exA := exc.trans ex1
        have lA := lc.trans l1
        refine ⟨fun σV'' H'' => ∃ loc'' σ'' M'', Rel X.KW loc'' σ'' M'' σV'' H'' ∧ Ext X.KW H H'' ∧ loc <+: loc'' ∧ whileL tA s m σ'' M'' = some o, fun σV'' H'' hN => ⟨m, Nat.lt_succ_self _, hN⟩, ?_⟩
        refine ⟨loc1, σc, p.2, ob, rel1, hob, ?_⟩
        cases ob with
        | nx σ3 M3 => exact fun σV3 H3 loc3 rel3 ex3 l3 => ⟨loc3, σ3, M3, rel3, exA.trans ex3, lA.trans l3, ec⟩
        | ct σ3 M3 => exact fun σV3 H3 loc3 rel3 ex3 l3 => ⟨loc3, σ3, M3, rel3, exA.trans ex3, lA.trans l3, ec⟩
        | bk σ3 M3 =>
          cases ec
          exact fun σV3 H3 loc3 rel3 ex3 l3 => aft σV3 H3 loc3 rel3 (exA.trans ex3) (lA.trans l3)
        | rt w M3 =>
          cases ec
          exact Aft.after (K := X.KW) aft exA lA
      · rename_i hb
        rw [if_neg hb]
        cases ec
        exact aft σV' H1 loc1 rel1 (exc.trans ex1) (lc.trans l1)

/-! ### what is walked -/
theorem walk_of_tup {K : KW} {H : Hp} {loc : List Addr} {a : Addr} {xs : List V} {ws : List W} (sq : SqT K H a xs) (r : Rds K H loc xs ws) : WalkW K H loc (Itt K a) ws gdT :=
  fun i H1 loc1 M s ex l _ => ⟨fun w hw => by
    obtain ⟨v, h1, h2⟩ := r.get hw
    exact ⟨⟨xs, v, ex.tup _ _ sq, h1⟩, fun x H2 y => by
      obtain ⟨rfl, y⟩ := y
      have e := y xs (ex.tup _ _ sq)
      rw [h1] at e; cases e
      exact ⟨h2.mono ex l, s, .refl⟩⟩, fun hl => ⟨xs, ex.tup _ _ sq, by rw [r.length]; exact hl⟩⟩
theorem i_tup (h : EV X iter ca) : EI X tg iter (iTup ca) := (pi_tup h).mono fun σV H R ⟨loc, σ, M, ws, gd, M', rel, e, aft⟩ => by
  obtain ⟨p, hp, e⟩ := bind_some e
  refine run1 rel hp fun v H1 loc1 rel1 rd1 ex1 l1 => ?_
  split at e
  · rename_i zs hz
    cases e
    rw [hz] at rd1
    cases rd1 with
    | @tup a xs _ sq rs => exact ⟨a, rfl, ⟨xs, sq⟩, aft _ H1 loc1 rel1.st ex1 l1 (walk_of_tup sq rs)⟩
  · cases e
theorem walk_of_lst {K : KW} {H : Hp} {loc : List Addr} {a : Addr} {n : Nat} {ws : List W} (hn : loc[n]? = some a) : WalkW K H loc (Itl K a) ws (fun M' => decide (M'[n]? = some (.lst ws))) :=
  fun i H1 loc1 M s ex l hg => by
    have hg := of_decide_eq_true hg
    obtain ⟨xs, h1, r⟩ := s.ok n a _ (pre_get l hn) hg
    refine ⟨fun w hw => ?_, fun hl => ⟨xs, SqL.of h1, by rw [r.length]; exact hl⟩⟩
    obtain ⟨v, h2, h3⟩ := r.get hw
    refine ⟨⟨xs, v, SqL.of h1, h2⟩, fun x H2 y => ?_⟩
    obtain ⟨rfl, y⟩ := y
    have e := y xs (SqL.of h1)
    rw [h2] at e; cases e
    exact ⟨h3, s, .refl⟩
theorem walk_of_ro {K : KW} {H : Hp} {loc : List Addr} {a : Addr} {n : Nat} {ws : List W} (hn : loc[n]? = some a) : WalkW K H loc (Itl K a) ws (fun M' => decide (M'[n]? = some (.ro ws))) :=
  fun i H1 loc1 M s ex l hg => by
    have hg := of_decide_eq_true hg
    obtain ⟨xs, h1, r⟩ := s.ok n a _ (pre_get l hn) hg
    refine ⟨fun w hw => ?_, fun hl => ⟨xs, h1.sq, by rw [r.length]; exact hl⟩⟩
    obtain ⟨v, h2, h3⟩ := r.get hw
    refine ⟨⟨xs, v, h1.sq, h2⟩, fun x H2 y => ?_⟩
    obtain ⟨rfl, y⟩ := y
    have e := y xs h1.sq
    rw [h2] at e; cases e
    exact ⟨h3, s, .refl⟩
theorem i_lst (h : EV X iter ca) : EI X tg iter (iLst ca) := (pi_list h).mono fun σV H R ⟨loc, σ, M, ws, gd, M', rel, e, aft⟩ => by
  obtain ⟨p, hp, e⟩ := bind_some e
  refine run1 rel hp fun v H1 loc1 rel1 rd1 ex1 l1 => ?_
  split at e
  · rename_i n hn
    rw [hn] at rd1
    cases rd1 with
    | @ref a _ ha =>
      split at e
      · rename_i zs hz
        cases e
        obtain ⟨xs, h1, _⟩ := rel1.st.ok n a _ ha hz
        exact ⟨a, rfl, ⟨xs, SqL.of h1⟩, aft _ H1 loc1 rel1.st ex1 l1 (walk_of_lst ha)⟩
      · rename_i zs hz
        cases e
        obtain ⟨xs, h1, _⟩ := rel1.st.ok n a _ ha hz
        exact ⟨a, rfl, ⟨xs, h1.sq⟩, aft _ H1 loc1 rel1.st ex1 l1 (walk_of_ro ha)⟩
      · cases e
  · cases e
theorem walk_of_range {K : KW} {H : Hp} {loc : List Addr} {lo : Int} {n : Nat} : WalkW K H loc (Itr lo n) (rangeW lo n) gdT :=
  fun i H1 loc1 M s ex l _ => ⟨fun w hw => by
    obtain ⟨hi, rfl⟩ := rangeW_get hw
    exact ⟨hi, fun x H2 y => by
      obtain ⟨rfl, rfl⟩ := y
      exact ⟨.int _, s, .refl⟩⟩, fun hl => by rw [rangeW_length] at hl; exact hl⟩
theorem small62_iff {i : Int} (h : small62 i = true) : -(2 ^ 62) ≤ i ∧ i < 2 ^ 62 := by
  have := Nat.le_of_ble_eq_true h
  omega
theorem i_range1 {p pos : Pos} (hg : Gl X "range") (hm : X.mg "range" = none) (h : EA X [a] [ca]) (hs : starEach [a] X.env = [(false, eval a X.env)] := by rfl) : EI X tg (.Call (.Name "range" p) [a] [] pos) (iRange1 ca) :=
  (pi_range1 hg hm h hs).mono fun σV H R ⟨loc, σ, M, ws, gd, M', rel, e, aft⟩ => by
    obtain ⟨p, hp, e⟩ := bind_some e
    refine runA (p := ([p.1], p.2)) rel (by simp only [eArgs, hp, Option.bind_some]) fun vs H1 loc1 rel1 rd1 ex1 l1 => ?_
    split at e
    · rename_i j hj
      split at e
      · rename_i h62
        cases e
        obtain ⟨h1, h2⟩ := small62_iff h62
        rw [hj] at rd1
        match vs, rd1 with
        | [_], .cons (.int _) .nil => exact ⟨j, rfl, h1, h2, aft _ H1 loc1 rel1.st ex1 l1 walk_of_range⟩
      · cases e
    · cases e
theorem i_range2 {p pos : Pos} (hg : Gl X "range") (hm : X.mg "range" = none) (h : EA X [a, b] [ca, cb]) (hs : starEach [a, b] X.env = [(false, eval a X.env), (false, eval b X.env)] := by rfl) (hs2 : starEach [b] X.env = [(false, eval b X.env)] := by rfl) : EI X tg (.Call (.Name "range" p) [a, b] [] pos) (iRange2 ca cb) :=
  (pi_range2 hg hm h hs hs2).mono fun σV H R ⟨loc, σ, M, ws, gd, M', rel, e, aft⟩ => by
    obtain ⟨p, hp, e⟩ := bind_some e
    obtain ⟨q, hq, e⟩ := bind_some e
    refine runA (p := ([p.1, q.1], q.2)) rel (by simp only [eArgs, hp, hq, Option.bind_some]) fun vs H1 loc1 rel1 rd1 ex1 l1 => ?_
    split at e
    · rename_i i j hi hj
      split at e
      · rename_i h62
        cases e
        obtain ⟨h1, h2⟩ := small62_iff h62.1
        obtain ⟨h3, h4⟩ := small62_iff h62.2
        rw [hi, hj] at rd1
        match vs, rd1 with
        | [_, _], .cons (.int _) (.cons (.int _) .nil) => exact ⟨i, j, rfl, ⟨h1, h2, h3, h4⟩, aft _ H1 loc1 rel1.st ex1 l1 walk_of_range⟩
      · cases e
    · cases e
theorem zipW_get {xs ys : List W} {i : Nat} {w : W} (h : (zipW xs ys)[i]? = some w) : ∃ x y, xs[i]? = some x ∧ ys[i]? = some y ∧ w = .tup [x, y] := by
  unfold zipW at h
  rw [List.getElem?_map] at h
  cases q : (xs.zip ys)[i]? with
  | none => rw [q] at h; cases h
  | some p =>
    rw [q] at h
    cases h
    rw [List.getElem?_zip_eq_some] at q
    exact ⟨p.1, p.2, q.1, q.2, rfl⟩
theorem walk_of_zipT {K : KW} {H : Hp} {loc : List Addr} {a b : Addr} {xs ys : List V} {ws zs : List W} (sq : SqT K H a xs) (sq' : SqT K H b ys) (r : Rds K H loc xs ws) (r' : Rds K H loc ys zs) : WalkW K H loc (RZ.ItzT K a b) (zipW ws zs) gdT :=
  fun i H1 loc1 M s ex l _ => ⟨fun w hw => by
    obtain ⟨x, y, h1, h2, rfl⟩ := zipW_get hw
    obtain ⟨v, g1, g2⟩ := r.get h1
    obtain ⟨u, g3, g4⟩ := r'.get h2
    refine ⟨⟨xs, ys, v, u, ex.tup _ _ sq, ex.tup _ _ sq', g1, g3⟩, fun x H2 y => ?_⟩
    obtain ⟨T, x', y', rfl, hT, rfl, f1, f2⟩ := y
    have e1 := f1 xs (ex.tup _ _ sq)
    have e2 := f2 ys (ex.tup _ _ sq')
    rw [g1] at e1; cases e1
    rw [g3] at e2; cases e2
    have ex2 : Ext K H1 (upd H1 T (.tup [v, u])) := .new hT
    exact ⟨.tup (SqT.of upd_same) (.cons (g2.mono (ex.trans ex2) l) (.cons (g4.mono (ex.trans ex2) l) .nil)), s.newT hT, ex2⟩,
   fun hl => ⟨xs, ys, ex.tup _ _ sq, ex.tup _ _ sq', by
    rw [r.length, r'.length]
    have : (zipW ws zs).length = min ws.length zs.length := by simp [zipW]
    omega⟩⟩
theorem i_zipT {p pos tpos : Pos} {elts : List Expr} {kk : Nat} (hg : Gl X "zip") (hm : X.mg "zip" = none) (h : EA X [a, b] [ca, cb])
    (hs : starEach [a, b] X.env = (false, eval a X.env) :: starEach [b] X.env := by rfl) (hpl : (backTo pos (starEach [b] X.env)).any (·.1) = false := by rfl) :
    EI X (.Tuple elts kk tpos) (.Call (.Name "zip" p) [a, b] [] pos) (iZipT ca cb) :=
  (RZ.pi_zipA hg hm h hs hpl).mono fun σV H R ⟨loc, σ, M, ws, gd, M', rel, e, aft⟩ => by
    obtain ⟨p, hp, e⟩ := bind_some e
    obtain ⟨q, hq, e⟩ := bind_some e
    refine runA (p := ([p.1, q.1], q.2)) rel (by simp only [eArgs, hp, hq, Option.bind_some]) fun vs H1 loc1 rel1 rd1 ex1 l1 => ?_
    split at e
    · rename_i xs ys hx hy
      cases e
      rw [hx, hy] at rd1
      match vs, rd1 with
      | [_, _], .cons (.tup (a := a1) (xs := us1) sq1 r1) (.cons (.tup (a := a2) (xs := us2) sq2 r2) .nil) =>
        exact ⟨a1, a2, us1, us2, rfl, .inr ⟨sq1, sq2, aft _ H1 loc1 rel1.st ex1 l1 (walk_of_zipT sq1 sq2 r1 r2)⟩⟩
    · cases e

/-! ### comprehensions -/
abbrev TTs (X : Cx) (ifs : List Expr) (t : CT) : Prop := PTs X ifs (TT' X.KW t)
theorem ts_nil : TTs X [] tTrue := ⟨fun pins s σ H Q I h => pts_nil.run pins s σ H Q I (by
  obtain ⟨loc, σ', M, k, M', rel, e, aft⟩ := h
  cases e
  exact aft H loc rel.st .refl (List.prefix_refl _))⟩
theorem ts_one {tA : CT} (h : ET X c tA) : TTs X [c] tA := pts_one h
theorem lc_aux {K : KW} {it : CI} {t : CT} {vs : List Nat} {σV : L2.St} {H : Hp} {Q : VK} (h : TC K (eLc it g t ca vs) σV H Q) : tLc (TI' K it) (TGw K vs g) (TT' K t) (TC K ca) vs σV H Q := by
  obtain ⟨loc, σ, M, w, M', rel, e, aft⟩ := h
  obtain ⟨p, hp, e⟩ := bind_some e
  obtain ⟨ws, gd, M1⟩ := p
  obtain ⟨M2, hM2, e⟩ := bind_some e
  cases e
  refine ⟨loc, σ, M, ws, gd, M1, rel, hp, fun J H1 loc1 s1 ex1 l1 wk D hD => ?_⟩
  have aft1 := aft.after ex1 l1
  have rel1 := rel.move s1 ex1 l1
  have st0 : Store K (upd H1 D (.lst [])) (loc1 ++ [D]) (M1 ++ [.lst []]) := new_lst s1 .nil hD
  have exD : Ext K H1 (upd H1 D (.lst [])) := .new hD
  refine ⟨fun i m Hc => i ≤ ws.length ∧ m = ws.length - i ∧ ∃ locc Mc, Rel K locc σ Mc σV Hc ∧ Ext K H1 Hc ∧ (loc1 ++ [D]) <+: locc ∧ lcL gd g t ca vs σ M1.length (ws.drop i) Mc = some M',
    ⟨ws.length, Nat.zero_le _, rfl, loc1 ++ [D], M1 ++ [.lst []], rel1.move st0 exD (List.prefix_append _ _), exD, List.prefix_refl _, by rw [List.drop_zero]; exact hM2⟩, fun i m Hc hW => ?_⟩
  obtain ⟨hi, rfl, locc, Mc, relc, exc, lc, ec⟩ := hW
  have lc1 : loc1 <+: locc := (List.prefix_append _ _).trans lc
  have hDn : (loc1 ++ [D])[M1.length]? = some D := last_get s1.len.symm
  by_cases hlt : i < ws.length
  · rw [List.drop_eq_getElem_cons hlt] at ec
    rw [lcL] at ec
    split at ec
    · rename_i hgd
      obtain ⟨σ1, hg1, ec⟩ := bind_some ec
      obtain ⟨q, hq, ec⟩ := bind_some ec
      obtain ⟨w1, _⟩ := wk i Hc locc Mc relc.st exc lc1 hgd
      obtain ⟨go, yl⟩ := w1 ws[i] (List.getElem?_eq_getElem hlt)
      refine .inr ⟨go, fun H'' => ∃ loc'' M'', Rel K loc'' σ M'' σV H'' ∧ Ext K H1 H'' ∧ (loc1 ++ [D]) <+: loc'' ∧ lcL gd g t ca vs σ M1.length (ws.drop (i + 1)) M'' = some M', fun H'' hN => ⟨ws.length - (i + 1), by omega, hlt, rfl, hN⟩, fun x H2 y => ?_⟩
      obtain ⟨rd, st2, ex2⟩ := yl x H2 y
      have rel2 := relc.move st2 ex2 (List.prefix_refl _)
      refine ⟨locc, wipe σ vs, Mc, ws[i], σ1, rel2.wipe vs, rd, hg1, fun σV2 relw zw => ⟨zw.trans (wipe_wipe σV vs), ?_⟩⟩
      refine runT relw hq fun H3 loc3 rel3 ex3 l3 => ?_
      have exA := (exc.trans ex2).trans ex3
      have lA := lc.trans l3
      split at ec
      · rename_i hb
        rw [if_pos hb]
        obtain ⟨z, hz, ec⟩ := bind_some ec
        refine run1 rel3 hz fun v H4 loc4 rel4 rd4 ex4 l4 => ?_
        split at ec
        · rename_i acc hacc
          split at ec
          · rename_i hlen
            have hD4 := pre_get (lA.trans l4) hDn
            obtain ⟨xs, g1, g2⟩ := rel4.st.ok M1.length D _ hD4 hacc
            refine ⟨xs, g1, by rw [g2.length]; exact hlen, ?_⟩
            have ex5 : Ext K H4 (upd H4 D (.lst (xs ++ [v]))) := .upd g1 trivial
            have st5 : Store K (upd H4 D (.lst (xs ++ [v]))) loc4 (z.2.set M1.length (.lst (acc ++ [z.1]))) :=
              rel4.st.put hD4 hacc rfl rfl ⟨_, upd_same, (g2.append (.cons rd4 .nil)).mono ex5 (List.prefix_refl _)⟩
            exact ⟨loc4, _, relc.move st5 (((ex2.trans ex3).trans ex4).trans ex5) (l3.trans l4), ((exA.trans ex4).trans ex5), lA.trans l4, ec⟩
          · cases ec
        · cases ec
      · rename_i hb
        rw [if_neg hb]
        exact ⟨loc3, q.2, relc.move rel3.st (ex2.trans ex3) l3, exA, lA, ec⟩
    · cases ec
  · have e0 : i = ws.length := by omega
    subst e0
    rw [List.drop_length, lcL] at ec
    split at ec
    · rename_i hgd
      obtain ⟨_, w2⟩ := wk ws.length Hc locc Mc relc.st exc lc1 hgd
      cases ec
      exact .inl ⟨w2 (Nat.le_refl _), aft1 _ Hc locc relc.st (.ref (pre_get lc hDn)) exc lc1⟩
    · cases ec
abbrev _root_.L2.Cx.bl (X : Cx) (scope : Scope) (s : Shared) (H : Hp) (C : Addr) (cl : List (Str × Addr)) (fp : List Addr) : Cx := X.blk s H scope (compEnvC scope cl C X.env) fp
theorem r_lc {ifs : List Expr} {scope : Scope} {own : List (Str × Nat)} {it : CI} {t : CT} (hN : X.N.Nodup) (hi : EI X tg iter it) (ok : blkC X.N X.env.scope scope own = true)
    (hg : ∀ s H C cl fp, EGw (Cx.bl X scope s H C cl fp) (own.map (·.2)) tg g) (ht : ∀ s H C cl fp, TTs (Cx.bl X scope s H C cl fp) ifs t)
    (he : ∀ s H C cl fp, EV (Cx.bl X scope s H C cl fp) e ca) (hc : X.calm = true := by rfl) (hs : ∀ x, foldedSetIterable iter X.env x = pure x := by intro _; rfl) :
    EV X (.ListComp e [⟨tg, iter, ifs, 0⟩] scope pos) (eLc it g t ca (own.map (·.2))) :=
  (pe_lc hc hN hi (blkOk_by ok) hg ht he hs).mono fun σV H Q h => lc_aux h
theorem s_setLc (i : Nat) {y : Str} {py spos : Pos} {ifs : List Expr} {scope : Scope} {own : List (Str × Nat)} {it : CI} {t : CT} (hN : X.N.Nodup) (hi : EI X tg iter it) (ok : blkC X.N X.env.scope scope own = true)
    (hg : ∀ s H C cl fp, EGw (Cx.bl X scope s H C cl fp) (own.map (·.2)) tg g) (ht : ∀ s H C cl fp, TTs (Cx.bl X scope s H C cl fp) ifs t)
    (he : ∀ s H C cl fp, EV (Cx.bl X scope s H C cl fp) e ca) (hy : X.N[i]? = some y := by rfl) (hyl : X.env.scope.names.lookup y = some .local := by rfl)
    (ha : (scope.names.any fun (n, k) => n == y && (k == .local || k == .cell)) = false := by decide +kernel) (hk : X.env.scope.kind = .function := by rfl) (hl : (py.line == pos.line) = true := by rfl)
    (hc : X.calm = true := by rfl) (hs : ∀ x, foldedSetIterable iter X.env x = pure x := by intro _; rfl) :
    ES X (.Assign [.Name y py] (.ListComp e [⟨tg, iter, ifs, 0⟩] scope pos) spos) (sSet (gV i) (eLc it g t ca (own.map (·.2)))) :=
  (ps_setLc hc hN hy hyl (sw_true hk hyl hl ha) hi (blkOk_by ok) hg ht he hs).mono fun D σV H ⟨loc, σ, M, o, rel, e, aft⟩ => by
    obtain ⟨p, hp, e⟩ := bind_some e
    cases e
    exact lc_aux (run1 rel hp fun v H1 loc1 rel1 rd1 ex1 l1 => aft _ H1 loc1 (rel1.set rd1 i) ex1 l1)
end
end BF

set_option Elab.async false
set_option linter.all false
set_option autoImplicit false
set_option maxRecDepth 100000
/-! The operations lifted, and the rule for a def. -/
namespace BF
open PySem PySem.Spec
open PyProof.Rows L2

section
variable {K : KW}

theorem Lift2.or {r r' : R2} {g : Mem → W → W → Option (W × Mem)} (h : ∀ H loc M x y v u w M' Q, Store K H loc M → Rd K H loc v x → Rd K H loc u y → g M x y = some (w, M') → Aft K H loc w M' Q → r v u H Q ∨ r' v u H Q) :
    Lift2 K (fun x y H Q => r x y H Q ∨ r' x y H Q) g := h
/-- two ints in, a value out -/
theorem lift_int {C : Int → Int → Prop} {f : Int → Int → V} {f' : Int → Int → W} {g : Mem → W → W → Option (W × Mem)}
    (hg : ∀ M x y p, g M x y = some p → ∃ i j, x = .int i ∧ y = .int j ∧ C i j ∧ p = (f' i j, M)) (hf : ∀ H loc i j, Rd K H loc (f i j) (f' i j)) : Lift2 K (rI C f) g := by
  intro H loc M x y v u w M' Q s rx ry e aft
  obtain ⟨i, j, rfl, rfl, hC, e2⟩ := hg M x y _ e
  cases e2
  cases rx; cases ry
  exact ⟨i, j, rfl, rfl, hC, aft _ H loc s (hf H loc i j) .refl (List.prefix_refl _)⟩
theorem lift_int0 {f : Int → Int → V} {f' : Int → Int → W} {g : Mem → W → W → Option (W × Mem)}
    (hg : ∀ M x y p, g M x y = some p → ∃ i j, x = .int i ∧ y = .int j ∧ p = (f' i j, M)) (hf : ∀ H loc i j, Rd K H loc (f i j) (f' i j)) : Lift2 K (rI0 f) g := by
  intro H loc M x y v u w M' Q s rx ry e aft
  obtain ⟨i, j, rfl, rfl, e2⟩ := hg M x y _ e
  cases e2
  cases rx; cases ry
  exact ⟨i, j, rfl, rfl, aft _ H loc s (hf H loc i j) .refl (List.prefix_refl _)⟩
theorem l_sub : Lift2 K (rI0 fun i j => .int (i - j)) gSub := lift_int0 (f' := fun i j => .int (i - j)) (fun M x y p h => by
  unfold gSub at h; split at h
  · cases h; exact ⟨_, _, rfl, rfl, rfl⟩
  · cases h) fun _ _ _ _ => .int _
theorem l_lt : Lift2 K (rI0 fun i j => .bl (decide (i < j))) gLt := lift_int0 (f' := fun i j => .bl (decide (i < j))) (fun M x y p h => by
  unfold gLt at h; split at h
  · cases h; exact ⟨_, _, rfl, rfl, rfl⟩
  · cases h) fun _ _ _ _ => .bl _
theorem l_le : Lift2 K (rI0 fun i j => .bl (decide (i ≤ j))) gLe := lift_int0 (f' := fun i j => .bl (decide (i ≤ j))) (fun M x y p h => by
  unfold gLe at h; split at h
  · cases h; exact ⟨_, _, rfl, rfl, rfl⟩
  · cases h) fun _ _ _ _ => .bl _
theorem l_gt : Lift2 K (rI0 fun i j => .bl (decide (j < i))) gGt := lift_int0 (f' := fun i j => .bl (decide (j < i))) (fun M x y p h => by
  unfold gGt at h; split at h
  · cases h; exact ⟨_, _, rfl, rfl, rfl⟩
  · cases h) fun _ _ _ _ => .bl _
theorem l_ge : Lift2 K (rI0 fun i j => .bl (decide (j ≤ i))) gGe := lift_int0 (f' := fun i j => .bl (decide (j ≤ i))) (fun M x y p h => by
  unfold gGe at h; split at h
  · cases h; exact ⟨_, _, rfl, rfl, rfl⟩
  · cases h) fun _ _ _ _ => .bl _
theorem small64_iff {i : Int} (h : small64 i = true) : -(2 ^ 64) < i ∧ i < 2 ^ 64 := by
  have := Nat.le_of_ble_eq_true h
  omega
theorem l_mul : Lift2 K (rI CMul fun i j => .int (i * j)) gMul := lift_int (f' := fun i j => .int (i * j)) (fun M x y p h => by
  unfold gMul at h; split at h
  · split at h
    · rename_i hs
      cases h
      exact ⟨_, _, rfl, rfl, hs.elim (fun q => .inl (small64_iff q)) (fun q => .inr (small64_iff q)), rfl⟩
    · cases h
  · cases h) fun _ _ _ _ => .int _
theorem l_mod : Lift2 K (rI (fun _ j => 0 < j) fun i j => .int (i % j)) gMod := lift_int (f' := fun i j => .int (i % j)) (fun M x y p h => by
  unfold gMod at h; split at h
  · split at h
    · rename_i hs
      cases h
      exact ⟨_, _, rfl, rfl, hs, rfl⟩
    · cases h
  · cases h) fun _ _ _ _ => .int _
theorem l_div : Lift2 K (rI CDivW fun i j => .int (i / j)) gDiv := lift_int (f' := fun i j => .int (i / j)) (fun M x y p h => by
  unfold gDiv at h; split at h
  · split at h
    · rename_i hs
      cases h
      refine ⟨_, _, rfl, rfl, wide_div (b := 64) hs.1 (by have := small64_iff hs.2; omega) (by decide) (by decide), rfl⟩
    · cases h
  · cases h) fun _ _ _ _ => .int _
theorem l_pow : Lift2 K (rI CPow fun i j => .int (i ^ j.toNat)) gPow := lift_int (f' := fun i j => .int (i ^ j.toNat)) (fun M x y p h => by
  unfold gPow at h; split at h
  · split at h
    · rename_i hs
      cases h
      obtain ⟨h1, h2, h3⟩ := hs
      have h4 := small62_iff h3
      exact ⟨_, _, rfl, rfl, ⟨h1, by omega, by omega⟩, rfl⟩
    · cases h
  · cases h) fun _ _ _ _ => .int _
theorem l_neg : Lift1 K (rU fun i => .int (-i)) gNeg := by
  intro H loc M x v w M' Q s rx e aft
  unfold gNeg at e
  split at e
  · cases e
    cases rx
    exact ⟨_, rfl, aft _ H loc s (.int _) .refl (List.prefix_refl _)⟩
  · cases e
theorem strOk_append {a b : Str} (ha : PyData.strOk a = true) (hb : PyData.strOk b = true) : PyData.strOk (a ++ b) = true := by
  have e : (a ++ b).cps = a.cps ++ b.cps := rfl
  unfold PyData.strOk at *
  rw [e, Array.all_append, ha, hb]
  rfl
theorem length_append_str (a b : Str) : (a ++ b).length = a.length + b.length := by
  show (a.cps ++ b.cps).size = a.cps.size + b.cps.size
  rw [Array.size_append]
abbrev rAddW (K : KW) : R2 := fun x y H Q => rI0 (fun i j => .int (i + j)) x y H Q ∨ ((∃ i j, x = .str i ∧ y = .str j ∧ i.length + j.length ≤ sizeLine ∧ Q (.str (i ++ j)) H) ∨ (rCatA K x y H Q ∨ rCat x y H Q))
theorem o_add {X : Cx} : OpR X (binaryOp .Add) (rAddW X.KW) := op_add.or (op_add_str.or (op_catA.or op_cat))
theorem l_add : Lift2 K (rAddW K) gAdd := by
  intro H loc M x y v u w M' Q s rx ry e aft
  unfold gAdd at e
  split at e
  · cases e
    cases rx; cases ry
    exact .inl ⟨_, _, rfl, rfl, aft _ H loc s (.int _) .refl (List.prefix_refl _)⟩
  · split at e
    · rename_i hl
      cases e
      cases rx with
      | str a ha ha2 =>
        cases ry with
        | str b hb hb2 => exact .inr (.inl ⟨_, _, rfl, rfl, hl, aft _ H loc s (.str _ (strOk_append ha hb) (by rw [length_append_str]; exact hl)) .refl (List.prefix_refl _)⟩)
    · cases e
  · split at e
    · rename_i hl
      cases e
      cases rx with
      | @tup p xs ws sq rs =>
        cases ry with
        | @tup q ys zs sq' rs' =>
          refine .inr (.inr (.inl ⟨_, _, _, _, rfl, rfl, sq, sq', by rw [rs.length, rs'.length]; exact hl, fun z => ?_, fun z z' => ?_, fun z z' r hr => ?_⟩))
          · subst z
            cases rs
            exact aft _ H loc s (.tup sq' rs') .refl (List.prefix_refl _)
          · subst z'
            cases rs'
            rw [List.append_nil] at aft
            exact aft _ H loc s (.tup sq rs) .refl (List.prefix_refl _)
          · exact aft_tup s (rs.append rs') hr aft
    · cases e
  · split at e
    · rename_i hx hy
      split at e
      · rename_i hl
        cases e
        cases rx with
        | ref ha =>
          cases ry with
          | ref hb =>
            obtain ⟨us, h1, h2⟩ := s.ok _ _ _ ha hx
            obtain ⟨zs, h3, h4⟩ := s.ok _ _ _ hb hy
            exact .inr (.inr (.inr ⟨_, _, _, _, rfl, rfl, h1, h3, by rw [h2.length, h4.length]; exact hl, fun r hr => aft_lst s (h2.append h4) hr aft⟩))
      · cases e
    · cases e
  · cases e

/-! ### == -/
theorem mapO_get {α β : Type} {f : α → Option β} : ∀ {as : List α} {bs : List β}, mapO f as = some bs → Paired (fun a b => f a = some b) as bs
  | [], bs, h => by cases h; exact .nil
  | a :: as, bs, h => by
    rw [mapO] at h
    split at h
    · rename_i b bs' h1 h2
      cases h
      exact .cons h1 (mapO_get h2)
    · cases h
theorem toD_ok {H : Hp} {loc : List Addr} {M : Mem} (s : Store K H loc M) : ∀ (k : Nat) (v : V) (w : W) (d : PyData), Rd K H loc v w → toD M k w = some d → Dp K H v d ∧ d.canLay0 = true ∧ d.depth ≤ k
  | 0, _, _, _, _, h => by cases h
  | k + 1, v, w, d, r, h => by
    have all : ∀ (ws : List W) (vs : List V) (ds : List PyData), Rds K H loc vs ws → Paired (fun a b => toD M k a = some b) ws ds → DpAll K H vs ds ∧ PyData.canLayAll0 ds = true ∧ PyData.depthAll ds ≤ k := by
      intro ws
      induction ws with
      | nil =>
        intro vs ds r1 r2
        cases r1; cases r2
        exact ⟨.nil, rfl, Nat.zero_le _⟩
      | cons w ws ih =>
        intro vs ds r1 r2
        cases r1 with
        | cons a b =>
          cases r2 with
          | cons c d =>
            obtain ⟨g1, g2, g3⟩ := toD_ok s k _ _ _ a c
            obtain ⟨g4, g5, g6⟩ := ih _ _ b d
            refine ⟨.cons g1 g4, by rw [PyData.canLayAll0, g2, g5]; rfl, ?_⟩
            rw [PyData.depthAll]
            exact Nat.max_le.mpr ⟨g3, g6⟩
    cases r with
    | non => cases h; exact ⟨.non, by simp [PyData.canLay0], by simp [PyData.depth]⟩
    | bl b => cases h; exact ⟨.bl b, by simp [PyData.canLay0], by simp [PyData.depth]⟩
    | int i => cases h; exact ⟨.int i, by simp [PyData.canLay0], by simp [PyData.depth]⟩
    | str x hx => cases h; exact ⟨.str x, by simp [PyData.canLay0, hx], by simp [PyData.depth]⟩
    | @tup a xs ws sq rs =>
      rw [toD] at h
      obtain ⟨ds, h1, rfl⟩ := Option.map_eq_some_iff.mp h
      obtain ⟨g1, g2, g3⟩ := all ws xs ds rs (mapO_get h1)
      exact ⟨.tup sq g1, by rw [PyData.canLay0]; exact g2, by rw [PyData.depth]; omega⟩
    | @ref a n hn =>
      rw [toD] at h
      split at h
      · rename_i ws hw
        obtain ⟨ds, h1, rfl⟩ := Option.map_eq_some_iff.mp h
        obtain ⟨xs, q1, q2⟩ := s.ok _ _ _ hn hw
        obtain ⟨g1, g2, g3⟩ := all ws xs ds q2 (mapO_get h1)
        exact ⟨.lst (SqL.of q1) g1, by rw [PyData.canLay0]; exact g2, by rw [PyData.depth]; omega⟩
      · rename_i ws hw
        obtain ⟨ds, h1, rfl⟩ := Option.map_eq_some_iff.mp h
        obtain ⟨xs, q1, q2⟩ := s.ok _ _ _ hn hw
        obtain ⟨g1, g2, g3⟩ := all ws xs ds q2 (mapO_get h1)
        exact ⟨.lst q1.sq g1, by rw [PyData.canLay0]; exact g2, by rw [PyData.depth]; omega⟩
      · cases h
theorem eqW_ok {H : Hp} {loc : List Addr} {M : Mem} {v u : V} {x y : W} {b : Bool} (s : Store K H loc M) (rx : Rd K H loc v x) (ry : Rd K H loc u y) (h : eqW M x y = some b) :
    ∃ d e, Dp K H v d ∧ Dp K H u e ∧ SeqAt.shaped d = true ∧ SeqAt.shaped e = true ∧ PyData.eqv d e = b := by
  unfold eqW at h
  split at h
  · rename_i d e hd he
    cases h
    obtain ⟨g1, g2, g3⟩ := toD_ok s 64 v x d rx hd
    obtain ⟨g4, g5, g6⟩ := toD_ok s 64 u y e ry he
    exact ⟨d, e, g1, g4, by rw [SeqAt.shaped, g2, decide_eq_true g3]; rfl, by rw [SeqAt.shaped, g5, decide_eq_true g6]; rfl, rfl⟩
  · cases h
theorem l_eq : Lift2 K (rEqD K) gEq := by
  intro H loc M x y v u w M' Q s rx ry e aft
  obtain ⟨b, hb, e⟩ := Option.map_eq_some_iff.mp e
  cases e
  obtain ⟨d, d2, h1, h2, h3, h4, rfl⟩ := eqW_ok s rx ry hb
  exact ⟨d, d2, h1, h2, h3, h4, aft _ H loc s (.bl _) .refl (List.prefix_refl _)⟩
theorem l_ne : Lift2 K (rNeD K) gNe := by
  intro H loc M x y v u w M' Q s rx ry e aft
  obtain ⟨b, hb, e⟩ := Option.map_eq_some_iff.mp e
  cases e
  obtain ⟨d, d2, h1, h2, h3, h4, rfl⟩ := eqW_ok s rx ry hb
  exact ⟨d, d2, h1, h2, h3, h4, aft _ H loc s (.bl _) .refl (List.prefix_refl _)⟩

/-! ### items and slices -/
theorem ixW_eq (n : Nat) (i : Int) : ixW n i = ixN n i := rfl
theorem at_some {vs : List V} {ws : List W} {H : Hp} {loc : List Addr} {i : Int} {w : W} (r : Rds K H loc vs ws) (h : ((ixW ws.length i).bind fun j => ws[j]?) = some w) : ∃ v, atI vs i = some v ∧ Rd K H loc v w := by
  obtain ⟨j, h1, h2⟩ := bind_some h
  obtain ⟨v, g1, g2⟩ := r.get h2
  exact ⟨v, by unfold atI; rw [r.length, ← ixW_eq, h1]; exact g1, g2⟩
theorem l_ix : Lift2 K (rIx K) gIx := by
  intro H loc M x y v u w M' Q s rx ry e aft
  unfold gIx at e
  split at e
  · obtain ⟨z, hz, e⟩ := Option.map_eq_some_iff.mp e
    cases e
    cases ry
    cases rx with
    | @tup a xs ws sq rs =>
      obtain ⟨z', h1, h2⟩ := at_some rs hz
      exact .inr (.inl ⟨a, xs, _, z', rfl, rfl, sq, h1, aft _ H loc s h2 .refl (List.prefix_refl _)⟩)
  · cases ry
    cases rx with
    | @ref a n hn =>
      split at e
      · rename_i ws hw
        obtain ⟨z, hz, e⟩ := Option.map_eq_some_iff.mp e
        cases e
        obtain ⟨xs, q1, q2⟩ := s.ok _ _ _ hn hw
        obtain ⟨z', h1, h2⟩ := at_some q2 hz
        exact .inl ⟨a, xs, _, z', rfl, rfl, SqL.of q1, h1, aft _ H loc s h2 .refl (List.prefix_refl _)⟩
      · rename_i ws hw
        obtain ⟨z, hz, e⟩ := Option.map_eq_some_iff.mp e
        cases e
        obtain ⟨xs, q1, q2⟩ := s.ok _ _ _ hn hw
        obtain ⟨z', h1, h2⟩ := at_some q2 hz
        exact .inl ⟨a, xs, _, z', rfl, rfl, q1.sq, h1, aft _ H loc s h2 .refl (List.prefix_refl _)⟩
      · cases e
  · cases e
theorem sIx_eq (n d : Nat) (o : Option Int) : sIx n d o = HT.sIx n d o := by
  cases o <;> rfl
theorem Rds.cut {H : Hp} {loc : List Addr} {vs : List V} {ws : List W} (r : Rds K H loc vs ws) (lo hi : Option Int) : Rds K H loc (cutV vs lo hi) (cutW ws lo hi) := by
  unfold cutV cutW
  rw [← r.length, sIx_eq, sIx_eq]
  exact (r.drop _).take _
theorem cut_whole {α : Type} {xs : List α} {lo hi : Option Int} (h : sIx xs.length 0 lo = 0 ∧ sIx xs.length xs.length hi = xs.length) : cutW xs lo hi = xs := by
  unfold cutW
  rw [h.1, h.2, List.drop_zero, Nat.sub_zero, List.take_length]
abbrev rSlW (K : KW) : V → Option Int → Option Int → Hp → VK → Prop := fun x lo hi H Q => rSlA K x lo hi H Q ∨ rSlL K x lo hi H Q
theorem o_sl {X : Cx} : SlR X (rSlW X.KW) := sl_tupA.or sl_list
theorem l_sl : LiftS K (rSlW K) gSl := by
  intro H loc M x v lo hi w M' Q s rx e aft
  unfold gSl at e
  split at e
  · cases e
    cases rx with
    | @tup a xs ws sq rs =>
      refine .inl ⟨a, xs, rfl, sq, fun hw => ?_, fun _ p hp => aft_tup s (rs.cut lo hi) hp aft⟩
      rw [rs.length, ← sIx_eq, ← sIx_eq] at hw
      rw [cut_whole hw] at aft
      exact aft _ H loc s (.tup sq rs) .refl (List.prefix_refl _)
  · cases rx with
    | @ref a n hn =>
      split at e
      · rename_i ws hw
        cases e
        obtain ⟨xs, q1, q2⟩ := s.ok _ _ _ hn hw
        exact .inr ⟨a, xs, rfl, SqL.of q1, fun p hp => aft_lst s (q2.cut lo hi) hp aft⟩
      · cases e
  · cases e

/-! ### calls -/
theorem n_len : LiftN K (fun xs H Q => ∃ p ys, xs = [.ref p] ∧ (SqL K H p ys ∨ SqT K H p ys) ∧ Q (.int ys.length) H) pLen := by
  intro H loc M ws vs w M' Q s r e aft
  unfold pLen at e
  split at e
  · cases e
    match vs, r with
    | [_], .cons (.tup (a := a) (xs := xs) sq rs) .nil =>
      refine ⟨a, xs, rfl, .inr sq, ?_⟩
      rw [rs.length]
      exact aft _ H loc s (.int _) .refl (List.prefix_refl _)
  · match vs, r with
    | [_], .cons (.ref (a := a) hn) .nil =>
      split at e
      · rename_i zs hz
        cases e
        obtain ⟨xs, q1, q2⟩ := s.ok _ _ _ hn hz
        refine ⟨a, xs, rfl, .inl (SqL.of q1), ?_⟩
        rw [q2.length]
        exact aft _ H loc s (.int _) .refl (List.prefix_refl _)
      · rename_i zs hz
        cases e
        obtain ⟨xs, q1, q2⟩ := s.ok _ _ _ hn hz
        refine ⟨a, xs, rfl, .inl q1.sq, ?_⟩
        rw [q2.length]
        exact aft _ H loc s (.int _) .refl (List.prefix_refl _)
      · cases e
  · cases e
theorem n_min : LiftN K (fun xs H Q => ∃ i j, xs = [.int i, .int j] ∧ Q (.int (if j < i then j else i)) H) pMin := by
  intro H loc M ws vs w M' Q s r e aft
  unfold pMin at e
  split at e
  · cases e
    match vs, r with
    | [_, _], .cons (.int _) (.cons (.int _) .nil) => exact ⟨_, _, rfl, aft _ H loc s (.int _) .refl (List.prefix_refl _)⟩
  · cases e
theorem n_max : LiftN K (fun xs H Q => ∃ i j, xs = [.int i, .int j] ∧ Q (.int (if j > i then j else i)) H) pMax := by
  intro H loc M ws vs w M' Q s r e aft
  unfold pMax at e
  split at e
  · cases e
    match vs, r with
    | [_, _], .cons (.int _) (.cons (.int _) .nil) => exact ⟨_, _, rfl, aft _ H loc s (.int _) .refl (List.prefix_refl _)⟩
  · cases e
theorem n_abs : LiftN K (fun xs H Q => ∃ i, xs = [.int i] ∧ Q (.int (if i < 0 then -i else i)) H) pAbs := by
  intro H loc M ws vs w M' Q s r e aft
  unfold pAbs at e
  split at e
  · cases e
    match vs, r with
    | [_], .cons (.int _) .nil => exact ⟨_, rfl, aft _ H loc s (.int _) .refl (List.prefix_refl _)⟩
  · cases e
theorem n_list : LiftN K (fun xs H Q => ∃ p ys, xs = [.ref p] ∧ (SqL K H p ys ∨ SqT K H p ys) ∧ ∀ l, H l = none → Q (.ref l) (upd H l (.lst ys))) pList := by
  intro H loc M ws vs w M' Q s r e aft
  unfold pList at e
  split at e
  · cases e
    match vs, r with
    | [_], .cons (.tup (a := a) (xs := xs) sq rs) .nil => exact ⟨a, xs, rfl, .inr sq, fun l hl => aft_lst s rs hl aft⟩
  · match vs, r with
    | [_], .cons (.ref (a := a) hn) .nil =>
      split at e
      · rename_i zs hz
        cases e
        obtain ⟨xs, q1, q2⟩ := s.ok _ _ _ hn hz
        exact ⟨a, xs, rfl, .inl (SqL.of q1), fun l hl => aft_lst s q2 hl aft⟩
      · rename_i zs hz
        cases e
        obtain ⟨xs, q1, q2⟩ := s.ok _ _ _ hn hz
        exact ⟨a, xs, rfl, .inl q1.sq, fun l hl => aft_lst s q2 hl aft⟩
      · cases e
  · cases e
theorem n_tuple : LiftN K (fun xs H Q => ∃ p ys, xs = [.ref p] ∧ ((SqL K H p ys ∧ ∀ l, H l = none → Q (.ref l) (upd H l (.tup ys))) ∨ (SqT K H p ys ∧ Q (.ref p) H))) pTuple := by
  intro H loc M ws vs w M' Q s r e aft
  unfold pTuple at e
  split at e
  · cases e
    match vs, r with
    | [_], .cons (.tup (a := a) (xs := xs) sq rs) .nil => exact ⟨a, xs, rfl, .inr ⟨sq, aft _ H loc s (.tup sq rs) .refl (List.prefix_refl _)⟩⟩
  · match vs, r with
    | [_], .cons (.ref (a := a) hn) .nil =>
      split at e
      · rename_i zs hz
        cases e
        obtain ⟨xs, q1, q2⟩ := s.ok _ _ _ hn hz
        exact ⟨a, xs, rfl, .inl ⟨SqL.of q1, fun l hl => aft_tup s q2 hl aft⟩⟩
      · rename_i zs hz
        cases e
        obtain ⟨xs, q1, q2⟩ := s.ok _ _ _ hn hz
        exact ⟨a, xs, rfl, .inl ⟨q1.sq, fun l hl => aft_tup s q2 hl aft⟩⟩
      · cases e
  · cases e
/-- a list is changed: what is wanted behind it -/
theorem aft_put {H : Hp} {loc : List Addr} {M : Mem} {a : Addr} {n : Nat} {ws us : List W} {xs ys : List V} {w : W} {v : V} {Q : VK} (s : Store K H loc M) (hn : loc[n]? = some a) (hw : M[n]? = some (.lst ws)) (hx : H a = some (.lst xs))
    (ry : Rds K H loc ys us) (rv : Rd K H loc v w) (aft : Aft K H loc w (M.set n (.lst us)) Q) : Q v (upd H a (.lst ys)) := by
  have ex : Ext K H (upd H a (.lst ys)) := .upd hx trivial
  exact aft _ _ loc (s.put hn hw rfl rfl ⟨ys, upd_same, ry.mono ex (List.prefix_refl _)⟩) (rv.mono ex (List.prefix_refl _)) ex (List.prefix_refl _)
theorem m_append : LiftN K (fun vs H Q => ∃ v us, vs = v :: us ∧ rAppend v us H Q) mAppend := by
  intro H loc M ws vs w M' Q s r e aft
  unfold mAppend at e
  split at e
  · match vs, r with
    | [_, v], .cons (.ref (a := a) hn) (.cons rv .nil) =>
      split at e
      · rename_i zs hz
        split at e
        · rename_i hl
          cases e
          obtain ⟨xs, q1, q2⟩ := s.ok _ _ _ hn hz
          exact ⟨_, _, rfl, a, xs, v, rfl, rfl, q1, by rw [q2.length]; exact hl, aft_put s hn hz q1 (q2.append (.cons rv .nil)) .non aft⟩
        · cases e
      · cases e
  · cases e
theorem m_pop : LiftN K (fun vs H Q => ∃ v us, vs = v :: us ∧ rPop v us H Q) mPop := by
  intro H loc M ws vs w M' Q s r e aft
  unfold mPop at e
  split at e
  · match vs, r with
    | [_], .cons (.ref (a := a) hn) .nil =>
      split at e
      · rename_i zs hz
        obtain ⟨z, hz1, e⟩ := Option.map_eq_some_iff.mp e
        cases e
        obtain ⟨xs, q1, q2⟩ := s.ok _ _ _ hn hz
        obtain ⟨v, g1, g2⟩ := q2.get hz1
        rw [← q2.length] at g1
        exact ⟨_, _, rfl, a, xs, v, rfl, rfl, q1, g1, aft_put s hn hz q1 q2.dropLast g2 aft⟩
      · cases e
  · cases e
theorem m_popAt : LiftN K (fun vs H Q => ∃ v us, vs = v :: us ∧ rPopAt v us H Q) mPopAt := by
  intro H loc M ws vs w M' Q s r e aft
  unfold mPopAt at e
  split at e
  · match vs, r with
    | [_, _], .cons (.ref (a := a) hn) (.cons (.int i) .nil) =>
      split at e
      · rename_i zs hz
        split at e
        · rename_i h62
          obtain ⟨j, hj, e⟩ := bind_some e
          obtain ⟨z, hz1, e⟩ := Option.map_eq_some_iff.mp e
          cases e
          obtain ⟨xs, q1, q2⟩ := s.ok _ _ _ hn hz
          obtain ⟨v, g1, g2⟩ := q2.get hz1
          obtain ⟨b1, b2⟩ := small62_iff h62
          rw [ixW_eq] at hj
          obtain ⟨s1, _, _, _⟩ := ixN_seq hj
          exact ⟨_, _, rfl, a, xs, i, j, v, rfl, rfl, q1, by omega, by omega, by rw [q2.length]; exact s1, g1, aft_put s hn hz q1 (q2.erase j) g2 aft⟩
        · cases e
      · cases e
  · cases e
theorem p_lst : LiftP K rSetL putL := by
  intro H loc M x y z o i v M' Q s rx ry rz e h
  unfold putL at e
  split at e
  · cases ry
    cases rx with
    | @ref a n hn =>
      split at e
      · rename_i ws hw
        obtain ⟨j, hj, rfl⟩ := Option.map_eq_some_iff.mp e
        obtain ⟨xs, q1, q2⟩ := s.ok _ _ _ hn hw
        rw [ixW_eq, ← q2.length] at hj
        refine ⟨a, xs, _, j, rfl, rfl, q1, hj, ?_⟩
        have ex : Ext K H (upd H a (.lst (xs.set j v))) := .upd q1 trivial
        exact h _ loc (s.put hn hw rfl rfl ⟨_, upd_same, (q2.set rz j).mono ex (List.prefix_refl _)⟩) ex (List.prefix_refl _)
      · cases e
  · cases e

/-! ### a def -/
mutual
theorem Rd.closed {H : Hp} {loc : List Addr} : ∀ {v : V} {w : W}, Rd K H loc v w → w.closed loc.length = true
  | _, _, .non => by simp [W.closed]
  | _, _, .bl b => by simp [W.closed]
  | _, _, .int i => by simp [W.closed]
  | _, _, .str x _ _ => by simp [W.closed]
  | _, _, .tup _ r => by rw [W.closed]; exact Rds.closed r
  | _, _, .ref h => by rw [W.closed]; exact decide_eq_true (List.getElem?_eq_some_iff.mp h).1
theorem Rds.closed {H : Hp} {loc : List Addr} : ∀ {vs : List V} {ws : List W}, Rds K H loc vs ws → W.closeds loc.length ws = true
  | _, _, .nil => by simp [W.closeds]
  | _, _, .cons r rs => by rw [W.closeds, Rd.closed r, Rds.closed rs]; rfl
end
mutual
theorem Rd.cutLoc {H : Hp} {loc : List Addr} {k : Nat} : ∀ {v : V} {w : W}, Rd K H loc v w → w.closed k = true → Rd K H (loc.take k) v w
  | _, _, .non, _ => .non
  | _, _, .bl b, _ => .bl b
  | _, _, .int i, _ => .int i
  | _, _, .str x h h2, _ => .str x h h2
  | _, _, .tup h r, c => .tup h (Rds.cutLoc r (by rw [W.closed] at c; exact c))
  | _, _, .ref h, c => .ref (by rw [W.closed] at c; rw [List.getElem?_take, if_pos (of_decide_eq_true c)]; exact h)
theorem Rds.cutLoc {H : Hp} {loc : List Addr} {k : Nat} : ∀ {vs : List V} {ws : List W}, Rds K H loc vs ws → W.closeds k ws = true → Rds K H (loc.take k) vs ws
  | _, _, .nil, _ => .nil
  | _, _, .cons r rs, c => by
    rw [W.closeds, Bool.and_eq_true] at c
    exact .cons (Rd.cutLoc r c.1) (Rds.cutLoc rs c.2)
end
theorem closeds_mem {k : Nat} : ∀ {ws : List W} {w : W}, W.closeds k ws = true → w ∈ ws → w.closed k = true
  | [], _, _, h => by cases h
  | u :: ws, w, c, h => by
    rw [W.closeds, Bool.and_eq_true] at c
    rcases List.mem_cons.mp h with rfl | h
    · exact c.1
    · exact closeds_mem c.2 h
theorem closeds_of {k : Nat} : ∀ {ws : List W}, (∀ w ∈ ws, w.closed k = true) → W.closeds k ws = true
  | [], _ => rfl
  | u :: ws, h => by
    rw [W.closeds, Bool.and_eq_true]
    exact ⟨h u List.mem_cons_self, closeds_of fun w hw => h w (List.mem_cons_of_mem _ hw)⟩
theorem closed_vals {k : Nat} {ws : List (W × W)} (c : (MO.dK ws).closed k = true) : W.closeds k (ws.map (·.2)) = true := by
  rw [MO.closed, List.all_eq_true] at c
  refine closeds_of fun w hw => ?_
  obtain ⟨p, hp, rfl⟩ := List.mem_map.mp hw
  have := c p hp
  rw [Bool.and_eq_true] at this
  exact this.2
theorem closed_both {k : Nat} {ws : List (W × W)} (h1 : W.closeds k (ws.map (·.1)) = true) (h2 : W.closeds k (ws.map (·.2)) = true) : (ws.all fun p => p.1.closed k && p.2.closed k) = true := by
  rw [List.all_eq_true]
  intro p hp
  rw [Bool.and_eq_true]
  exact ⟨closeds_mem h1 (List.mem_map_of_mem hp), closeds_mem h2 (List.mem_map_of_mem hp)⟩
theorem closed_keyW {k : Nat} {kvs : List (Key × V)} {ws : List (W × W)} (h : kvs.map (fun p => keyW p.1) = ws.map (·.1)) : W.closeds k (ws.map (·.1)) = true := by
  rw [← h]
  refine closeds_of fun w hw => ?_
  obtain ⟨p, _, rfl⟩ := List.mem_map.mp hw
  cases p.1 <;> rfl
theorem closed_keys {k : Nat} {m : DM} {ws : List (W × W)} (c : (MO.dT m ws).closed k = true) : W.closeds k (ws.map (·.1)) = true ∧ W.closeds k (ws.map (·.2)) = true := by
  rw [MO.closed, List.all_eq_true] at c
  refine ⟨closeds_of fun w hw => ?_, closeds_of fun w hw => ?_⟩ <;> obtain ⟨p, hp, rfl⟩ := List.mem_map.mp hw <;> have := c p hp <;> rw [Bool.and_eq_true] at this
  · exact this.1
  · exact this.2
theorem MOk.closed {H : Hp} {loc : List Addr} {a : Addr} {mo : MO} (h : MOk K H loc a mo) : mo.closed loc.length = true := by
  cases mo with
  | lst ws => obtain ⟨xs, _, r⟩ := h; exact r.closed
  | ro ws => obtain ⟨xs, _, r⟩ := h; exact r.closed
  | dT m ws =>
    cases m with
    | nest => obtain ⟨es, h1, h2⟩ := h; exact closed_both h2.ks.closed h2.vs.closed
    | lockF => obtain ⟨o, es, h1, h2⟩ := h; exact closed_both (closed_keyW h2.keys) h2.vs.closed
    | lockN => obtain ⟨o, es, h1, h2⟩ := h; exact closed_both h2.ks.closed h2.vs.closed
  | dK ws =>
    obtain ⟨kvs, _, h2, _, r⟩ := h
    rw [MO.closed, List.all_eq_true]
    intro p hp
    rw [Bool.and_eq_true]
    refine ⟨?_, ?_⟩
    · have : p.1 ∈ ws.map (·.1) := List.mem_map_of_mem hp
      rw [← h2] at this
      obtain ⟨q, _, e⟩ := List.mem_map.mp this
      rw [← e]
      cases q.1 <;> rfl
    · exact closeds_mem r.closed (List.mem_map_of_mem hp)
theorem MOk.cutLoc {H : Hp} {loc : List Addr} {a : Addr} {mo : MO} {k : Nat} (h : MOk K H loc a mo) (c : mo.closed k = true) : MOk K H (loc.take k) a mo := by
  cases mo with
  | lst ws => obtain ⟨xs, h1, r⟩ := h; exact ⟨xs, h1, r.cutLoc c⟩
  | ro ws => obtain ⟨xs, h1, r⟩ := h; exact ⟨xs, h1, r.cutLoc c⟩
  | dT m ws =>
    obtain ⟨c1, c2⟩ := closed_keys c
    cases m with
    | nest => obtain ⟨es, h1, h2⟩ := h; exact ⟨es, h1, h2.keys, h2.dep, h2.ks.cutLoc c1, h2.vs.cutLoc c2⟩
    | lockF => obtain ⟨o, es, h1, h2⟩ := h; exact ⟨o, es, h1, h2.keys, h2.ok, h2.vs.cutLoc c2⟩
    | lockN => obtain ⟨o, es, h1, h2⟩ := h; exact ⟨o, es, h1, h2.keys, h2.dep, h2.ks.cutLoc c1, h2.vs.cutLoc c2⟩
  | dK ws => obtain ⟨kvs, h1, h2, h3, r⟩ := h; exact ⟨kvs, h1, h2, h3, r.cutLoc (closed_vals c)⟩
theorem Store.closed {H : Hp} {loc : List Addr} {M : Mem} (s : Store K H loc M) : Closed M := fun mo hm => by
  obtain ⟨i, hi⟩ := List.getElem?_of_mem hm
  obtain ⟨a, h1, h2⟩ := s.at hi
  rw [← s.len]
  exact h2.closed
theorem Rds.each {H : Hp} {loc : List Addr} {vs : List V} {ws : List W} (r : Rds K H loc vs ws) : ∀ x ∈ ws, x.closed loc.length = true := fun x hx => by
  obtain ⟨i, hi⟩ := List.getElem?_of_mem hx
  obtain ⟨v, _, h⟩ := r.get hi
  exact h.closed
/-- what was laid last is forgotten -/
theorem Store.cut {H : Hp} {loc : List Addr} {M g : Mem} (s : Store K H loc (M ++ g)) (c : Closed M) : Store K H (loc.take M.length) M := by
  have hl := s.len
  rw [List.length_append] at hl
  refine ⟨by rw [List.length_take]; omega, fun i a mo h1 h2 => ?_, fun i j a m n h1 h2 h3 h4 => ?_⟩
  · have hi : i < M.length := (List.getElem?_eq_some_iff.mp h2).1
    rw [List.getElem?_take, if_pos hi] at h1
    refine (s.ok i a mo h1 ?_).cutLoc (c mo (List.mem_of_getElem? h2))
    rw [List.getElem?_append_left hi]; exact h2
  · have hi : i < M.length := (List.getElem?_eq_some_iff.mp h3).1
    have hj : j < M.length := (List.getElem?_eq_some_iff.mp h4).1
    rw [List.getElem?_take, if_pos hi] at h1
    rw [List.getElem?_take, if_pos hj] at h2
    exact s.apart i j a m n h1 h2 (by rw [List.getElem?_append_left hi]; exact h3) (by rw [List.getElem?_append_left hj]; exact h4)
/-- the addresses by other ids -/
def renLoc (loc : List Addr) (r : Nat → Nat) (n : Nat) : List Addr := (List.range n).map fun i => loc.getD (r i) 0
theorem renLoc_get {loc : List Addr} {r : Nat → Nat} {n i : Nat} {a : Addr} (hi : i < n) (h : loc[r i]? = some a) : (renLoc loc r n)[i]? = some a := by
  unfold renLoc
  rw [List.getElem?_map, List.getElem?_range hi]
  show some (loc.getD (r i) 0) = some _
  rw [List.getD_eq_getElem?_getD, h]; rfl
mutual
theorem Rd.unren {H : Hp} {loc : List Addr} {r : Nat → Nat} {n : Nat} (look : ∀ i, i < n → ∃ a, loc[r i]? = some a) : ∀ {v : V} {w : W}, Rd K H loc v (w.ren r) → w.closed n = true → Rd K H (renLoc loc r n) v w
  | _, .non, h, _ => by rw [W.ren] at h; cases h; exact .non
  | _, .bl b, h, _ => by rw [W.ren] at h; cases h; exact .bl b
  | _, .int i, h, _ => by rw [W.ren] at h; cases h; exact .int i
  | _, .str x, h, _ => by rw [W.ren] at h; cases h with | str _ h1 h2 => exact .str x h1 h2
  | _, .tup ws, h, c => by
    rw [W.ren] at h
    rw [W.closed] at c
    cases h with
    | tup sq rs => exact .tup sq (Rds.unren look rs c)
  | _, .ref k, h, c => by
    rw [W.ren] at h
    rw [W.closed] at c
    cases h with
    | ref ha => exact .ref (renLoc_get (of_decide_eq_true c) ha)
theorem Rds.unren {H : Hp} {loc : List Addr} {r : Nat → Nat} {n : Nat} (look : ∀ i, i < n → ∃ a, loc[r i]? = some a) : ∀ {vs : List V} {ws : List W}, Rds K H loc vs (W.rens r ws) → W.closeds n ws = true → Rds K H (renLoc loc r n) vs ws
  | _, [], h, _ => by rw [W.rens] at h; cases h; exact .nil
  | _, w :: ws, h, c => by
    rw [W.rens] at h
    rw [W.closeds, Bool.and_eq_true] at c
    cases h with
    | cons a b => exact .cons (Rd.unren look a c.1) (Rds.unren look b c.2)
end
theorem isMut_ren (r : Nat → Nat) (mo : MO) : isMut (mo.ren r) = isMut mo := by
  cases mo with
  | dT m _ => cases m <;> rfl
  | _ => rfl
theorem isOwn_ren (r : Nat → Nat) (mo : MO) : isOwn (mo.ren r) = isOwn mo := by cases mo <;> rfl
mutual
theorem keyN_ren (r : Nat → Nat) : ∀ w : W, keyN (w.ren r) = keyN w
  | .non => rfl
  | .bl _ => rfl
  | .int _ => rfl
  | .str _ => rfl
  | .tup ws => by rw [W.ren, keyN, keyN, keyNs_ren r ws]
  | .ref _ => rfl
theorem keyNs_ren (r : Nat → Nat) : ∀ ws : List W, keyNs (W.rens r ws) = keyNs ws
  | [] => rfl
  | w :: ws => by rw [W.rens, keyNs, keyNs, keyN_ren r w, keyNs_ren r ws]
end
theorem rens_map {r : Nat → Nat} : ∀ ws : List W, W.rens r ws = ws.map (W.ren r)
  | [] => rfl
  | w :: ws => by rw [W.rens, rens_map ws]; rfl
theorem key_ren {r : Nat → Nat} {w : W} {k : Key} (h : keyW k = w.ren r) : keyW k = w := by
  cases k <;> cases w <;> simp [keyW, W.ren] at h ⊢ <;> exact h
theorem keys_ren {r : Nat → Nat} : ∀ {kvs : List (Key × V)} {ws : List (W × W)}, kvs.map (fun p => keyW p.1) = (ws.map fun p => (p.1.ren r, p.2.ren r)).map (·.1) → kvs.map (fun p => keyW p.1) = ws.map (·.1)
  | [], [], _ => rfl
  | [], _ :: _, h => by cases h
  | _ :: _, [], h => by cases h
  | p :: kvs, q :: ws, h => by
    simp only [List.map_cons, List.cons.injEq] at h ⊢
    exact ⟨key_ren h.1, keys_ren h.2⟩
theorem MOk.unren {H : Hp} {loc : List Addr} {r : Nat → Nat} {n : Nat} (look : ∀ i, i < n → ∃ a, loc[r i]? = some a) {a : Addr} {mo : MO} (h : MOk K H loc a (mo.ren r)) (c : mo.closed n = true) : MOk K H (renLoc loc r n) a mo := by
  cases mo with
  | lst ws => obtain ⟨xs, h1, h2⟩ := h; exact ⟨xs, h1, Rds.unren look h2 c⟩
  | ro ws => obtain ⟨xs, h1, h2⟩ := h; exact ⟨xs, h1, Rds.unren look h2 c⟩
  | dT m ws =>
    obtain ⟨c1, c2⟩ := closed_keys c
    have k1 : ∀ {es : NE}, NestOk K H loc es (ws.map fun p => (p.1.ren r, p.2.ren r)) → NestOk K H (renLoc loc r n) es ws := fun {es} q => by
      have q1 := q.ks
      have q2 := q.vs
      have q3 := q.keys
      rw [List.map_map] at q1 q2 q3
      refine ⟨q3.trans (List.map_congr_left fun p _ => keyN_ren r p.1), q.dep, Rds.unren look ?_ c1, Rds.unren look ?_ c2⟩
      · rw [rens_map, List.map_map]; exact q1
      · rw [rens_map, List.map_map]; exact q2
    cases m with
    | nest => obtain ⟨es, h1, h2⟩ := h; exact ⟨es, h1, k1 h2⟩
    | lockF =>
      obtain ⟨o, kvs, h1, h2⟩ := h
      refine ⟨o, kvs, h1, keys_ren h2.keys, h2.ok, Rds.unren look ?_ c2⟩
      have q2 := h2.vs
      rw [List.map_map] at q2
      rw [rens_map, List.map_map]; exact q2
    | lockN => obtain ⟨o, es, h1, h2⟩ := h; exact ⟨o, es, h1, k1 h2⟩
  | dK ws =>
    obtain ⟨kvs, h1, h2, h3, h4⟩ := h
    refine ⟨kvs, h1, ?_, h3, Rds.unren look ?_ (closed_vals c)⟩
    · exact keys_ren h2
    · rw [rens_map]
      rw [List.map_map] at h4 ⊢
      exact h4
theorem Store.ren {H : Hp} {loc : List Addr} {M M2 : Mem} {r : Nat → Nat} (s : Store K H loc M2) (c : Closed M) (hr : ∀ (i : Nat) (mo : MO), M[i]? = some mo → M2[r i]? = some (mo.ren r)) (inj : ∀ i j, i < M.length → j < M.length → r i = r j → i = j) :
    Store K H (renLoc loc r M.length) M := by
  have look : ∀ i, i < M.length → ∃ a, loc[r i]? = some a := fun i hi => by
    obtain ⟨a, ha, _⟩ := s.at (hr i _ (List.getElem?_eq_getElem hi))
    exact ⟨a, ha⟩
  refine ⟨by simp [renLoc], fun i a mo h1 h2 => ?_, fun i j a m n h1 h2 h3 h4 m1 m2 => ?_⟩
  · have hi := (List.getElem?_eq_some_iff.mp h2).1
    obtain ⟨b, hb⟩ := look i hi
    rw [renLoc_get hi hb] at h1
    cases h1
    exact MOk.unren look (s.ok _ _ _ hb (hr i mo h2)) (c mo (List.mem_of_getElem? h2))
  · have hi := (List.getElem?_eq_some_iff.mp h3).1
    have hj := (List.getElem?_eq_some_iff.mp h4).1
    obtain ⟨b, hb⟩ := look i hi
    obtain ⟨b', hb'⟩ := look j hj
    rw [renLoc_get hi hb] at h1
    rw [renLoc_get hj hb'] at h2
    cases h1; cases h2
    exact inj i j hi hj (s.apart _ _ _ _ _ hb hb' (hr i m h3) (hr j n h4) (by rw [isOwn_ren]; exact m1) (by rw [isOwn_ren]; exact m2))
end
end BF

set_option Elab.async false
set_option linter.all false
set_option autoImplicit false
set_option maxRecDepth 100000
/-! The rule for a def; three names at once; the law's own promise. -/
namespace BF
open PySem PySem.Spec
open PyProof.Rows L2

theorem hu64 {k : Nat} {A : Around} (hr : Room k A) : A.units + 64 < cLine := by have := hr.un; omega

section
variable {X : Cx} {a b c : Expr} {ca cb cc : CE} {pos : Pos}
/-- a, b, c = x, y, z of plain local names -/
theorem s_par3 (i j k : Nat) {x y z : Str} {px py pz pt : Pos} {kt k2 pt2} (hc : X.calm = true) (hN : X.N.Nodup) (ha : EA X [a, b, c] [ca, cb, cc]) (hi : X.N[i]? = some x := by rfl) (hj : X.N[j]? = some y := by rfl) (hk : X.N[k]? = some z := by rfl)
    (hx : X.env.scope.names.lookup x = some .local := by rfl) (hy : X.env.scope.names.lookup y = some .local := by rfl) (hz : X.env.scope.names.lookup z = some .local := by rfl) (hij : i ≠ j := by decide) (hik : i ≠ k := by decide) (hjk : j ≠ k := by decide)
    (hw : swappedStores [.Tuple [.Name x px, .Name y py, .Name z pz] kt pt] (.Tuple [a, b, c] k2 pt2) X.env = pure (some [x, y, z]) := by rfl)
    (hs : swapsWithSole [.Tuple [.Name x px, .Name y py, .Name z pz] kt pt] (.Tuple [a, b, c] k2 pt2) pos.line X.env = pure false := by rfl) :
    ES X (.Assign [.Tuple [.Name x px, .Name y py, .Name z pz] kt pt] (.Tuple [a, b, c] k2 pt2) pos) (sPar [i, j, k] [ca, cb, cc]) := by
  refine ⟨fun pins s σV H D I h => ?_⟩
  obtain ⟨loc, σ, M, o, rel, e, aft⟩ := h
  obtain ⟨p, hp, e⟩ := bind_some e
  have hl : p.1.length = 3 := eArgs_length hp
  obtain ⟨p1, M1⟩ := p
  match p1, hl with
  | [w1, w2, w3], _ =>
  cases e
  rw [exec_Assign_arm]
  refine wpAny_bind (wpAny_standAt ?_)
  rw [hs]
  refine wpAny_bind (wpAny_pure ?_)
  rw [if_neg (by decide)]
  refine wpAny_bind (Tuple_ ?_)
  refine thn (ha.run _ pins s σV H (fun vs H1 => ∃ v1 v2 v3, vs = [v1, v2, v3] ∧ ∀ σV', σV' = ((σV.set i (some v1)).set j (some v2)).set k (some v3) → D.nx σV' H1) I ?_) fun us s1 hus => ?_
  · refine runA rel hp fun vs H1 loc1 rel1 rd1 ex1 l1 => ?_
    match vs, rd1 with
    | [v1, v2, v3], .cons r1 (.cons r2 (.cons r3 .nil)) =>
      exact ⟨v1, v2, v3, rfl, fun σV' e' => by
        subst e'
        exact aft _ H1 loc1 (((rel1.set r1 i).set r2 j).set r3 k) ex1 l1⟩
  · obtain ⟨vs, H1, I1, r1, v1, v2, v3, e1, q1⟩ := hus
    subst e1
    obtain ⟨u1, u2, u3, e2, g1, g2, g3⟩ : ∃ u1 u2 u3, us = [u1, u2, u3] ∧ RelV v1 u1 ∧ RelV v2 u2 ∧ RelV v3 u3 := by
      cases r1 with
      | cons a1 t1 =>
        cases t1 with
        | cons a2 t2 =>
          cases t2 with
          | cons a3 t3 =>
            cases t3
            exact ⟨_, _, _, rfl, a1, a2, a3⟩
    subst e2
    refine wpAny_newObj_type ?_ (by show 3 ≤ sizeLine; decide)
    have I2 : Inv X pins σV H1 { s1 with heap := s1.heap.push { cls := .type "tuple", data := .seq [u1, u2, u3].toArray } } :=
      I1.kept (t' := s1.toks) fun b o e => Heap.get?_push_of_some _ e
    rw [hw]
    refine wpAny_bind (wpAny_pure ?_)
    show wpAny (model X.prog X.w) X.A (do
      rule "assign.swapped-stores"
      let items ← unpackItems (.ref s1.heap.objs.size) 3 none
      assignInOrder [fun v => bindName X.env z v, fun v => bindName X.env y v, fun v => bindName X.env x v] items.reverse
      pure Flow.next) _ _ _
    refine wpAny_bind (wpAny_rule (wpAny_bind (unpackItems_tuple (items := #[u1, u2, u3]) (I.ok.hd hc) (IsTup.new s1.heap _) fun h' hx' => ?_)))
    have I3 := I2.kept (h' := h') (t' := s1.toks) fun b o e => hx' b o (Nat.ne_of_lt (Heap.lt_size e)) e
    show wpAny _ _ (assignInOrder [fun v => bindName X.env z v, fun v => bindName X.env y v, fun v => bindName X.env x v] [u3, u2, u1] >>= fun _ => pure Flow.next) _ _ _
    refine wpAny_bind (assignInOrder_cons (wpAny_bindName (store_ok I3 hN hk (.inl hz) g3 (fun s2 I4 => ?_) (.inr hz))))
    refine assignInOrder_cons (wpAny_bindName (store_ok I4 hN hj (.inl hy) g2 (fun s3 I5 => ?_) (.inr hy)))
    refine assignInOrder_cons (wpAny_bindName (store_ok I5 hN hi (.inl hx) g1 (fun s4 I6 => assignInOrder_nil (wpAny_pure ?_)) (.inr hx)))
    refine ⟨_, H1, I6, q1 _ ?_⟩
    rw [List.set_comm _ _ (Ne.symm hij), List.set_comm _ _ (Ne.symm hik), List.set_comm _ _ (Ne.symm hjk)]
end

section
variable {P : Program} {w : World} {K : PySem.W.Frag} {mg : Str → Option Value} {base : Heap}
theorem rel_start {K : KW} {N : List Str} {loc : List Addr} {M : Mem} {H : Hp} {vs : List V} {ws : List W} (s : Store K H loc M) (r : Rds K H loc vs ws) : Rel K loc (ws.map some ++ List.replicate (N.length - ws.length) none) M (L2.start N vs) H := by
  have hl := r.length
  refine ⟨s, by unfold L2.start; simp [hl], fun i u e => ?_⟩
  by_cases hi : i < ws.length
  · rw [List.getElem?_append_left (by simpa using hi), List.getElem?_map] at e
    obtain ⟨z, hz, e⟩ := Option.map_eq_some_iff.mp e
    cases e
    obtain ⟨v, h1, h2⟩ := r.get hz
    refine ⟨v, ?_, h2⟩
    unfold L2.start
    rw [List.getElem?_append_left (by rw [List.length_map]; omega), List.getElem?_map, h1]
    rfl
  · rw [List.getElem?_append_right (by simpa using hi)] at e
    have := List.mem_of_getElem? e
    simp at this
/-- a def of one's own keeps the promise G: its text as der says, what it computes as hk says -/
theorem fn_ok {x qual : Str} {st : Stmt} {f : Addr} {fd : FuncData} {N ps : List Str} {k : Nat} {body : CS} {G : Fn} (F : Fun K x qual st f fd) (S : FnScope N ps (defScope st)) (hk : Keeps N.length body G)
    (der : ∀ (cdv : Value) (A : Around) (outer : List Env) (s : Shared) (H : Hp) (E : XK), Room k (A.deeper (envOfC qual (defScope st) s.heap.objs.size f cdv)) →
      ESs (cxOf CX0 P w K mg base N qual (defScope st) f cdv A outer s H E).nox (defBody st) body) : FnOk P w K mg base CX0 (k + 1) f fd ps (spF ⟨K, w⟩ ps.length G) := by
  refine F.ok S (fun vs H Q E h => h.1) fun cdv A outer s H vs Q E hr h => ⟨_, der cdv A outer s H E hr, ?_⟩
  obtain ⟨hl, loc, M, ws, u, M', st, rd, e, aft⟩ := h
  have hc := st.closed
  obtain ⟨r, M2, hor, hid, hr, hinj, hle, hcl, hcw⟩ := hk ws M u M' hc (by rw [← st.len]; exact rd.each) e
  have fin : Aft ⟨K, w⟩ H loc (u.ren r) M2 Q := fun v H' loc' s' r' ex l => by
    have look : ∀ i, i < M'.length → ∃ a, loc'[r i]? = some a := fun i hi => by
      obtain ⟨a, ha, _⟩ := s'.at (hr i _ (List.getElem?_eq_getElem hi))
      exact ⟨a, ha⟩
    have pre : loc <+: renLoc loc' r M'.length := by
      rw [List.prefix_iff_eq_take]
      refine List.ext_getElem? fun i => ?_
      by_cases hi : i < loc.length
      · have hi' : i < M.length := by rw [← st.len]; exact hi
        obtain ⟨a, ha⟩ := look i (by omega)
        rw [List.getElem?_take, if_pos hi, renLoc_get (by omega) ha]
        rw [hid i hi'] at ha
        have := pre_get l (List.getElem?_eq_getElem hi)
        rw [ha] at this
        rw [List.getElem?_eq_getElem hi, this]
      · rw [List.getElem?_take, if_neg hi, List.getElem?_eq_none (by omega)]
    refine aft v H' (renLoc loc' r M'.length) (s'.ren hcl hr hinj) (Rd.unren look r' hcw) ex pre
  rcases hor with hb | ⟨hu, σ', hb⟩
  · exact ⟨loc, _, M, _, rel_start st rd, hb, fin⟩
  · exact ⟨loc, _, M, _, rel_start st rd, hb, fun σV' H' loc' r' ex l => fin .non H' loc' r'.st (by rw [hu]; exact .non) ex l⟩

/-! ### the law -/
/-- the law at a script of ints answers True -/
def lawF : Fn := fun ws M => match ws, M with
  | [.ref 0], [.ro us] => match asInts us with
    | some ns => if ns.length ≤ 63 then some (.bl true, M) else none
    | none => none
  | _, _ => none
/-- to show: at each script the body answers True -/
theorem keeps_law {n : Nat} {body : CS} (h : ∀ ns : List Int, ns.length ≤ 63 → ∃ g, body (some (.ref 0) :: List.replicate (n - 1) none) [.ro (ns.map W.int)] = some (.rt (.bl true) (.ro (ns.map W.int) :: g))) : Keeps n body lawF := by
  refine KeepsP.keeps ?_
  intro ws M w M' hc _ e
  unfold lawF at e
  split at e
  · rename_i us
    split at e
    · rename_i ns hns
      split at e
      · rename_i hl
        cases e
        rw [asInts_some hns]
        obtain ⟨g, hg⟩ := h ns hl
        refine ⟨g, .inl hg, Nat.le_refl _, ?_, by simp [W.closed]⟩
        rw [← asInts_some hns]
        exact hc
      · cases e
    · cases e
  · cases e
def spLaw (K : PySem.W.Frag) : Sp := fun vs H Q _ => ∃ (a : Addr) (ns : List Int), vs = [V.ref a] ∧ Only H ∧ SqL K H a (ns.map V.int) ∧ ns.length ≤ 63 ∧ ∀ H', Q (.bl true) H'
theorem rds_ints {K : KW} {H : Hp} {loc : List Addr} (ns : List Int) : Rds K H loc (ns.map V.int) (ns.map W.int) := by
  induction ns with
  | nil => exact .nil
  | cons n ns ih => exact .cons (.int n) ih
theorem law_ok {f : Addr} {fd : FuncData} {ps : List Str} {k : Nat} (h1 : ps.length = 1) (F : FnOk P w K mg base CX0 k f fd ps (spF ⟨K, w⟩ ps.length lawF)) : FnOk P w K mg base CX0 k f fd ps (spLaw K) := by
  refine F.imp fun vs H Q E h => ?_
  obtain ⟨a, ns, rfl, ho, sq, hl, q⟩ := h
  have ro : RO ⟨K, w⟩ H a (ns.map V.int) := by
    rcases sq with (sq | sq) | sq
    · rcases ho a with h | ⟨o, xs, h⟩
      · rw [sq] at h; cases h
      · rw [sq] at h; cases h
    · exact .inl sq
    · exact .inr sq
  refine ⟨h1.symm, [a], [.ro (ns.map W.int)], [.ref 0], .bl true, [.ro (ns.map W.int)], ⟨rfl, fun i b mo h1 h2 => ?_, fun i j b m n _ _ h3 _ h5 _ => ?_⟩, .cons (.ref rfl) .nil, ?_, fun v H' loc' s' r' ex l => ?_⟩
  · match i, h1, h2 with
    | 0, h1, h2 =>
      cases h1; cases h2
      exact ⟨_, ro, rds_ints ns⟩
    | i + 1, h1, h2 => simp at h2
  · match i, h3 with
    | 0, h3 => cases h3; cases h5
    | i + 1, h3 => simp at h3
  · show lawF [.ref 0] [.ro (ns.map W.int)] = _
    unfold lawF
    simp only [asInts_map, if_pos hl]
  · cases r'
    exact q H'
end
end BF

set_option Elab.async false
set_option linter.all false
set_option autoImplicit false
set_option maxRecDepth 100000
/-! isinstance of a built-in class, or of a tuple of such. -/
namespace BF
open PySem PySem.Spec
open PyProof.Rows L2

section
variable {K : KW} {X : Cx} {e : Expr} {ca : CE} {p pos : Pos}
theorem tyX_of {H : Hp} {loc : List Addr} {M : Mem} {v : V} {w : W} {T : String} (s : Store K H loc M) (r : Rd K H loc v w) (h : tyW M w = some T) : TyX K H v (.type T) := by
  cases r with
  | non => cases h; exact .base .non
  | bl b => cases h; exact .base (.bl b)
  | int i => cases h; exact .base (.int i)
  | str x _ _ => cases h; exact .base (.str x)
  | @tup a xs ws sq rs =>
    cases h
    rcases sq with (sq | ⟨o, sq⟩) | ⟨o, its, n, hk, hc, _⟩
    · exact .base (.tup sq)
    · exact .fTuple sq
    · exact .kTuple hk hc
  | @ref a n hn =>
    simp only [tyW] at h
    split at h
    · rename_i ws hw
      cases h
      obtain ⟨xs, q1, _⟩ := s.ok _ _ _ hn hw
      exact .base (.lst q1)
    · rename_i ws hw
      cases h
      obtain ⟨xs, q1, _⟩ := s.ok _ _ _ hn hw
      rcases q1 with ⟨o, q1⟩ | ⟨o, its, n, hk, hc, _⟩
      · exact .base (.frz q1)
      · exact .kList hk hc
    · cases h
theorem kit_one {M : Mem} {w : W} {T : String} {C : String} (h : tyW M w = some T) (hC : C = "bool" ∨ C = "int" ∨ C = "str" ∨ C = "list" ∨ C = "tuple") : kitB T C = some (isTy C T) := by
  have hT : T = "NoneType" ∨ T = "bool" ∨ T = "int" ∨ T = "str" ∨ T = "tuple" ∨ T = "list" := by
    unfold tyW at h
    split at h
    · cases h; simp
    · cases h; simp
    · cases h; simp
    · cases h; simp
    · cases h; simp
    · split at h
      · cases h; simp
      · cases h; simp
      · cases h
  rcases hT with rfl | rfl | rfl | rfl | rfl | rfl <;> rcases hC with rfl | rfl | rfl | rfl | rfl <;> decide +kernel
/-- a built-in class as a value -/
theorem ty_val {x : Str} {T : String} {pos : Pos} (hg : Gl X x) (hm : X.mg x = none) (hv : bootBuiltins x = some (.type T)) (hn : x ≠ "__name__" := by decide) (hd : (x == ("__debug__" : Str)) = false := by decide) : PE X (.Name x pos) (tC (.ty T)) :=
  pe_bltn hg hm hv rfl hn hd
theorem r_isi (C : String) {x : Str} {p2 : Pos} (hC : C = "bool" ∨ C = "int" ∨ C = "str" ∨ C = "list" ∨ C = "tuple") (hg : Gl X "isinstance") (hm : X.mg "isinstance" = none) (hgC : Gl X x) (hmC : X.mg x = none) (hvC : bootBuiltins x = some (.type C)) (ha : EV X e ca) (hv : bootBuiltins "isinstance" = some (.builtin "isinstance") := by decide +kernel)
    (hn : x ≠ "__name__" := by decide) (hd : (x == ("__debug__" : Str)) = false := by decide)
    (he : starEach [e, .Name x p2] X.env = (false, eval e X.env) :: starEach [.Name x p2] X.env := by rfl) (hpl : (backTo pos (starEach [.Name x p2] X.env)).any (·.1) = false := by rfl) :
    EV X (.Call (.Name "isinstance" p) [e, .Name x p2] [] pos) (e1 (gIsi C) ca) :=
  (pe_callB call_isi hg hm hv (pa_cons ha (pa_cons (ty_val hgC hmC hvC hn hd) pa_nil) he) (by decide) (by decide) he hpl).mono fun σV H Q ⟨loc, σ, M, w, M', rel, e, aft⟩ => by
    obtain ⟨q, hq, e⟩ := bind_some e
    refine run1 rel hq fun v H1 loc1 rel1 rd1 ex1 l1 => ?_
    unfold gIsi at e
    obtain ⟨T, hT, e⟩ := Option.map_eq_some_iff.mp e
    cases e
    exact ⟨v, .ty C, .type T, .type C, _, rfl, .ty C, tyX_of rel1.st rd1 hT, kit_ty (kit_one hT hC), aft _ H1 loc1 rel1.st (.bl _) ex1 l1⟩
/-- isinstance(e, (C, D)) -/
theorem r_isi2 (C D : String) {x y : Str} {p2 p3 pt : Pos} {kt} (hC : C = "bool" ∨ C = "int" ∨ C = "str" ∨ C = "list" ∨ C = "tuple") (hD : D = "bool" ∨ D = "int" ∨ D = "str" ∨ D = "list" ∨ D = "tuple") (hg : Gl X "isinstance") (hm : X.mg "isinstance" = none)
    (hgC : Gl X x) (hmC : X.mg x = none) (hvC : bootBuiltins x = some (.type C)) (hgD : Gl X y) (hmD : X.mg y = none) (hvD : bootBuiltins y = some (.type D)) (ha : EV X e ca) (hv : bootBuiltins "isinstance" = some (.builtin "isinstance") := by decide +kernel)
    (hn : x ≠ "__name__" := by decide) (hd : (x == ("__debug__" : Str)) = false := by decide) (hn2 : y ≠ "__name__" := by decide) (hd2 : (y == ("__debug__" : Str)) = false := by decide)
    (hs : starEach [.Name x p2, .Name y p3] X.env = (false, eval (.Name x p2) X.env) :: starEach [.Name y p3] X.env := by rfl)
    (he : starEach [e, .Tuple [.Name x p2, .Name y p3] kt pt] X.env = (false, eval e X.env) :: starEach [.Tuple [.Name x p2, .Name y p3] kt pt] X.env := by rfl) (hpl : (backTo pos (starEach [.Tuple [.Name x p2, .Name y p3] kt pt] X.env)).any (·.1) = false := by rfl) :
    EV X (.Call (.Name "isinstance" p) [e, .Tuple [.Name x p2, .Name y p3] kt pt] [] pos) (e1 (gIsi2 C D) ca) :=
  (pe_callB call_isiT hg hm hv (pa_cons ha (pa_cons (pe_tup (pa_cons (ty_val hgC hmC hvC hn hd) (pa_cons (ty_val hgD hmD hvD hn2 hd2) pa_nil) hs)) pa_nil) he) (by decide) (by decide) he hpl).mono fun σV H Q ⟨loc, σ, M, w, M', rel, e, aft⟩ => by
    obtain ⟨q, hq, e⟩ := bind_some e
    refine run1 rel hq fun v H1 loc1 rel1 rd1 ex1 l1 => ?_
    refine ⟨by show 2 ≤ sizeLine; decide, fun t ht => ?_⟩
    unfold gIsi2 at e
    obtain ⟨T, hT, e⟩ := Option.map_eq_some_iff.mp e
    cases e
    have s2 : Store X.KW (upd H1 t (.tup [.ty C, .ty D])) loc1 q.2 := rel1.st.newT ht
    have ex2 : Ext X.KW H1 (upd H1 t (.tup [.ty C, .ty D])) := .new ht
    refine ⟨v, t, [.ty C, .ty D], .type T, [.type C, .type D], isTy C T || isTy D T, rfl, upd_same, .cons (.ty C) (.cons (.ty D) .nil), tyX_of s2 (rd1.mono ex2 (List.prefix_refl _)) hT, ?_, aft _ _ loc1 s2 (.bl _) (ex1.trans ex2) l1⟩
    exact kitAny_cons (kit_ty (kit_one hT hC)) (fun z => by
      rw [z, Bool.false_or]
      exact kitAny_cons (kit_ty (kit_one hT hD)) (fun z' => by rw [z']; exact kitAny_nil) fun z' => z') fun z => by rw [z]; rfl
end
end BF

set_option Elab.async false
set_option linter.all false
set_option autoImplicit false
set_option maxRecDepth 10000
/-! Plain facts: how the terms compute; texts; equality; encodings. -/
namespace BF
open PySem

theorem nr {α : Type} {a b : α} (h : a = b) : a = b := h
section
variable {σ : Sl} {M : Mem}
@[simp] theorem eV_eq (i : Nat) : eV i σ M = match σ.getD i none with
  | some w => some (w, M)
  | none => none := nr rfl
@[simp] theorem eL_eq (w : W) : eL w σ M = some (w, M) := nr rfl
@[simp] theorem e1_eq (f) (a : CE) : e1 f a σ M = (a σ M).bind fun p => f p.2 p.1 := nr rfl
@[simp] theorem e2_eq (f) (a b : CE) : e2 f a b σ M = (a σ M).bind fun p => (b σ p.2).bind fun q => f q.2 p.1 q.1 := nr rfl
@[simp] theorem eArgs_nil : eArgs [] σ M = some ([], M) := nr rfl
@[simp] theorem eArgs_cons (a : CE) (as : List CE) : eArgs (a :: as) σ M = (a σ M).bind fun p => (eArgs as σ p.2).bind fun q => some (p.1 :: q.1, q.2) := nr rfl
@[simp] theorem eN_eq (f : Fn) (as : List CE) : eN f as σ M = (eArgs as σ M).bind fun p => f p.1 p.2 := nr rfl
@[simp] theorem eTup_eq (as : List CE) : eTup as σ M = (eArgs as σ M).bind fun p => if p.1.length ≤ 16777216 then some (.tup p.1, p.2) else none := nr rfl
@[simp] theorem eLst_eq (as : List CE) : eLst as σ M = (eArgs as σ M).bind fun p => if p.1.length ≤ 16777216 then some (.ref p.2.length, p.2 ++ [.lst p.1]) else none := nr rfl
@[simp] theorem eIf_eq (t : CT) (a b : CE) : eIf t a b σ M = (t σ M).bind fun p => if p.1 = true then a σ p.2 else b σ p.2 := nr rfl
@[simp] theorem eAnd_eq (a b : CE) : eAnd a b σ M = (a σ M).bind fun p => match p.1 with
  | .bl true => b σ p.2
  | .bl false => some (.bl false, p.2)
  | _ => none := nr rfl
@[simp] theorem eOr_eq (a b : CE) : eOr a b σ M = (a σ M).bind fun p => match p.1 with
  | .bl true => some (.bl true, p.2)
  | .bl false => b σ p.2
  | _ => none := nr rfl
@[simp] theorem eNot_eq (a : CE) : eNot a σ M = (a σ M).bind fun p => match p.1 with
  | .bl c => some (.bl (!c), p.2)
  | _ => none := nr rfl
@[simp] theorem eChain_eq (f g) (a b c : CE) : eChain f g a b c σ M = (a σ M).bind fun p => (b σ p.2).bind fun q => (f q.2 p.1 q.1).bind fun r => match r.1 with
    | .bl true => (c σ r.2).bind fun t => g t.2 q.1 t.1
    | .bl false => some (.bl false, r.2)
    | _ => none := nr rfl
@[simp] theorem tB_eq (e : CE) : tB e σ M = (e σ M).bind fun p => match p.1 with
  | .bl c => some (c, p.2)
  | _ => none := nr rfl
@[simp] theorem tAnd_eq (a b : CT) : tAnd a b σ M = (a σ M).bind fun p => if p.1 = true then b σ p.2 else some (false, p.2) := nr rfl
@[simp] theorem tOr_eq (a b : CT) : tOr a b σ M = (a σ M).bind fun p => if p.1 = true then some (true, p.2) else b σ p.2 := nr rfl
@[simp] theorem tNot_eq (a : CT) : tNot a σ M = (a σ M).bind fun p => some (!p.1, p.2) := nr rfl
@[simp] theorem tTrue_eq : tTrue σ M = some (true, M) := nr rfl
@[simp] theorem gV_eq (i : Nat) (w : W) : gV i w σ = some (σ.set i (some w)) := nr rfl
@[simp] theorem gAll_nil : gAll [] [] σ = some σ := nr rfl
@[simp] theorem gAll_cons (g : CG) (gs : List CG) (w : W) (ws : List W) : gAll (g :: gs) (w :: ws) σ = (g w σ).bind fun σ1 => gAll gs ws σ1 := nr rfl
@[simp] theorem gT_eq (gs : List CG) (ws : List W) : gT gs (.tup ws) σ = gAll gs ws σ := nr rfl
@[simp] theorem sSet_eq (g : CG) (e : CE) : sSet g e σ M = (e σ M).bind fun p => (g p.1 σ).bind fun σ1 => some (.nx σ1 p.2) := nr rfl
@[simp] theorem sPar_eq (is : List Nat) (as : List CE) : sPar is as σ M = (eArgs as σ M).bind fun p =>
  if p.1.length = is.length then some (.nx ((is.zip p.1).foldl (fun σ q => σ.set q.1 (some q.2)) σ) p.2) else none := nr rfl
@[simp] theorem sAug_eq (i : Nat) (f) (e : CE) : sAug i f e σ M = match σ.getD i none with
  | some w => (e σ M).bind fun p => (f p.2 w p.1).bind fun q => some (.nx (σ.set i (some q.1)) q.2)
  | none => none := nr rfl
@[simp] theorem sPut_eq (f) (o k e : CE) : sPut f o k e σ M = (e σ M).bind fun p => (o σ p.2).bind fun q => (k σ q.2).bind fun r => (f r.2 q.1 r.1 p.1).bind fun M' => some (.nx σ M') := nr rfl
@[simp] theorem sExpr_eq (e : CE) : sExpr e σ M = (e σ M).bind fun p => some (.nx σ p.2) := nr rfl
@[simp] theorem sRet_eq (e : CE) : sRet e σ M = (e σ M).bind fun p => some (.rt p.1 p.2) := nr rfl
@[simp] theorem sNil_eq : sNil σ M = some (.nx σ M) := nr rfl
@[simp] theorem sBreak_eq : sBreak σ M = some (.bk σ M) := nr rfl
@[simp] theorem sSeq_eq (a b : CS) : sSeq a b σ M = (a σ M).bind fun o => match o with
  | .nx σ' M' => b σ' M'
  | .rt w M' => some (.rt w M')
  | .bk σ' M' => some (.bk σ' M')
  | .ct σ' M' => some (.ct σ' M') := nr rfl
@[simp] theorem sIf_eq (t : CT) (a b : CS) : sIf t a b σ M = (t σ M).bind fun p => if p.1 = true then a σ p.2 else b σ p.2 := nr rfl
@[simp] theorem sFor_eq (it : CI) (g : CG) (body : CS) : sFor it g body σ M = (it σ M).bind fun p => forL p.2.1 g body p.1 σ p.2.2 := nr rfl
@[simp] theorem eLc_eq (it : CI) (g : CG) (t : CT) (e : CE) (vs : List Nat) : eLc it g t e vs σ M = (it σ M).bind fun p =>
  (lcL p.2.1 g t e vs σ p.2.2.length p.1 (p.2.2 ++ [.lst []])).bind fun M' => some (.ref p.2.2.length, M') := nr rfl
@[simp] theorem iTup_eq (e : CE) : iTup e σ M = (e σ M).bind fun p => match p.1 with
  | .tup ws => some (ws, gdT, p.2)
  | _ => none := nr rfl
@[simp] theorem iLst_eq (e : CE) : iLst e σ M = (e σ M).bind fun p => match p.1 with
  | .ref n => match p.2[n]? with
    | some (.lst ws) => some (ws, fun M' => decide (M'[n]? = some (.lst ws)), p.2)
    | some (.ro ws) => some (ws, fun M' => decide (M'[n]? = some (.ro ws)), p.2)
    | _ => none
  | _ => none := nr rfl
@[simp] theorem iRange1_eq (e : CE) : iRange1 e σ M = (e σ M).bind fun p => match p.1 with
  | .int j => if small62 j = true then some (rangeW 0 j.toNat, gdT, p.2) else none
  | _ => none := nr rfl
@[simp] theorem iRange2_eq (a b : CE) : iRange2 a b σ M = (a σ M).bind fun p => (b σ p.2).bind fun q => match p.1, q.1 with
  | .int i, .int j => if small62 i = true ∧ small62 j = true then some (rangeW i (j - i).toNat, gdT, q.2) else none
  | _, _ => none := nr rfl
@[simp] theorem iEnumT_eq (e : CE) : iEnumT e σ M = (e σ M).bind fun p => match p.1 with
  | .tup ws => some (enumW ws, gdT, p.2)
  | _ => none := nr rfl
@[simp] theorem iEnumL_eq (e : CE) : iEnumL e σ M = (e σ M).bind fun p => match p.1 with
  | .ref n => match p.2[n]? with
    | some (.lst ws) => some (enumW ws, fun M' => decide (M'[n]? = some (.lst ws)), p.2)
    | _ => none
  | _ => none := nr rfl
@[simp] theorem iZipT_eq (a b : CE) : iZipT a b σ M = (a σ M).bind fun p => (b σ p.2).bind fun q => match p.1, q.1 with
  | .tup xs, .tup ys => some (zipW xs ys, gdT, q.2)
  | _, _ => none := nr rfl
@[simp] theorem gdT_eq : gdT M = true := nr rfl
@[simp] theorem eML_eq (f : Fn) (o : CE) (as : List CE) : eML f o as σ M = (o σ M).bind fun p => if isLst p.2 p.1 = true then (eArgs as σ p.2).bind fun q => f (p.1 :: q.1) q.2 else none := nr rfl
@[simp] theorem ePart_none : ePart none σ M = some (none, M) := nr rfl
@[simp] theorem ePart_some (c : CE) : ePart (some c) σ M = (c σ M).bind fun p => match p.1 with
    | .int i => some (some i, p.2)
    | _ => none := nr rfl
@[simp] theorem eSl_eq (e : CE) (lo hi : Option CE) : eSl e lo hi σ M = (e σ M).bind fun p => (ePart lo σ p.2).bind fun q => (ePart hi σ q.2).bind fun r => gSl r.2 p.1 q.1 r.1 := nr rfl

@[simp] theorem gAdd_int (i j : Int) : gAdd M (.int i) (.int j) = some (.int (i + j), M) := nr rfl
@[simp] theorem gAdd_tup (a b : List W) : gAdd M (.tup a) (.tup b) = if a.length + b.length ≤ 16777216 then some (.tup (a ++ b), M) else none := nr rfl
@[simp] theorem gAdd_str (a b : Str) : gAdd M (.str a) (.str b) = if a.length + b.length ≤ 16777216 then some (.str (a ++ b), M) else none := nr rfl
@[simp] theorem gAdd_ref (a b : Nat) : gAdd M (.ref a) (.ref b) = match M[a]?, M[b]? with
    | some (.lst xs), some (.lst ys) => if xs.length + ys.length ≤ 16777216 then some (.ref M.length, M ++ [.lst (xs ++ ys)]) else none
    | _, _ => none := nr rfl
@[simp] theorem gSub_int (i j : Int) : gSub M (.int i) (.int j) = some (.int (i - j), M) := nr rfl
@[simp] theorem gMul_int (i j : Int) : gMul M (.int i) (.int j) = if small64 i = true ∨ small64 j = true then some (.int (i * j), M) else none := nr rfl
@[simp] theorem gRep_tup (a : List W) (k : Int) : gRep M (.tup a) (.int k) = if a.length ≤ 1000 ∧ k ≤ 1000 then some (.tup (List.replicate k.toNat a).flatten, M) else none := nr rfl
@[simp] theorem gMod_int (i j : Int) : gMod M (.int i) (.int j) = if 0 < j then some (.int (i % j), M) else none := nr rfl
@[simp] theorem gDiv_int (i j : Int) : gDiv M (.int i) (.int j) = if 0 < j ∧ small64 j = true then some (.int (i / j), M) else none := nr rfl
@[simp] theorem gPow_int (i j : Int) : gPow M (.int i) (.int j) = if 0 ≤ j ∧ j ≤ 1000 ∧ small62 i = true then some (.int (i ^ j.toNat), M) else none := nr rfl
@[simp] theorem gNeg_int (i : Int) : gNeg M (.int i) = some (.int (-i), M) := nr rfl
@[simp] theorem gLt_int (i j : Int) : gLt M (.int i) (.int j) = some (.bl (decide (i < j)), M) := nr rfl
@[simp] theorem gLe_int (i j : Int) : gLe M (.int i) (.int j) = some (.bl (decide (i ≤ j)), M) := nr rfl
@[simp] theorem gGt_int (i j : Int) : gGt M (.int i) (.int j) = some (.bl (decide (j < i)), M) := nr rfl
@[simp] theorem gGe_int (i j : Int) : gGe M (.int i) (.int j) = some (.bl (decide (j ≤ i)), M) := nr rfl
@[simp] theorem gEq_eq (x y : W) : gEq M x y = (eqW M x y).map fun b => (.bl b, M) := nr rfl
@[simp] theorem gNe_eq (x y : W) : gNe M x y = (eqW M x y).map fun b => (.bl (!b), M) := nr rfl
@[simp] theorem gIsN_eq (x : W) : gIsN M x = some (.bl (isN x), M) := nr rfl
@[simp] theorem gNotN_eq (x : W) : gNotN M x = some (.bl (!isN x), M) := nr rfl
@[simp] theorem isN_non : isN .non = true := nr rfl
@[simp] theorem isN_bl (b) : isN (.bl b) = false := nr rfl
@[simp] theorem isN_int (i) : isN (.int i) = false := nr rfl
@[simp] theorem isN_str (i) : isN (.str i) = false := nr rfl
@[simp] theorem isN_tup (i) : isN (.tup i) = false := nr rfl
@[simp] theorem isN_ref (i) : isN (.ref i) = false := nr rfl
@[simp] theorem gIx_tup (a : List W) (i : Int) : gIx M (.tup a) (.int i) = ((ixW a.length i).bind fun j => a[j]?).map fun w => (w, M) := nr rfl
@[simp] theorem gIx_ref (n : Nat) (i : Int) : gIx M (.ref n) (.int i) = match M[n]? with
    | some (.lst a) => ((ixW a.length i).bind fun j => a[j]?).map fun w => (w, M)
    | some (.ro a) => ((ixW a.length i).bind fun j => a[j]?).map fun w => (w, M)
    | _ => none := nr rfl
@[simp] theorem gSl_tup (a : List W) (lo hi : Option Int) : gSl M (.tup a) lo hi = some (.tup (cutW a lo hi), M) := nr rfl
@[simp] theorem gSl_ref (n : Nat) (lo hi : Option Int) : gSl M (.ref n) lo hi = match M[n]? with
    | some (.lst a) => some (.ref M.length, M ++ [.lst (cutW a lo hi)])
    | _ => none := nr rfl
@[simp] theorem pLen_tup (a : List W) : pLen [.tup a] M = some (.int a.length, M) := nr rfl
@[simp] theorem pLen_ref (n : Nat) : pLen [.ref n] M = match M[n]? with
    | some (.lst a) => some (.int a.length, M)
    | some (.ro a) => some (.int a.length, M)
    | _ => none := nr rfl
@[simp] theorem pMin_eq (i j : Int) : pMin [.int i, .int j] M = some (.int (if j < i then j else i), M) := nr rfl
@[simp] theorem pMax_eq (i j : Int) : pMax [.int i, .int j] M = some (.int (if j > i then j else i), M) := nr rfl
@[simp] theorem pAbs_eq (i : Int) : pAbs [.int i] M = some (.int (if i < 0 then -i else i), M) := nr rfl
@[simp] theorem pList_tup (a : List W) : pList [.tup a] M = some (.ref M.length, M ++ [.lst a]) := nr rfl
@[simp] theorem pList_ref (n : Nat) : pList [.ref n] M = match M[n]? with
    | some (.lst a) => some (.ref M.length, M ++ [.lst a])
    | some (.ro a) => some (.ref M.length, M ++ [.lst a])
    | _ => none := nr rfl
@[simp] theorem pTuple_tup (a : List W) : pTuple [.tup a] M = some (.tup a, M) := nr rfl
@[simp] theorem pTuple_ref (n : Nat) : pTuple [.ref n] M = match M[n]? with
    | some (.lst a) => some (.tup a, M)
    | some (.ro a) => some (.tup a, M)
    | _ => none := nr rfl
@[simp] theorem isLst_ref (n : Nat) : isLst M (.ref n) = match M[n]? with
    | some (.lst _) => true
    | _ => false := nr rfl
@[simp] theorem mAppend_ref (n : Nat) (w : W) : mAppend [.ref n, w] M = match M[n]? with
    | some (.lst a) => if a.length < 16777216 then some (.non, M.set n (.lst (a ++ [w]))) else none
    | _ => none := nr rfl
@[simp] theorem mPop_ref (n : Nat) : mPop [.ref n] M = match M[n]? with
    | some (.lst a) => a[a.length - 1]?.map fun w => (w, M.set n (.lst a.dropLast))
    | _ => none := nr rfl
@[simp] theorem mPopAt_ref (n : Nat) (i : Int) : mPopAt [.ref n, .int i] M = match M[n]? with
    | some (.lst a) => if small62 i = true then (ixW a.length i).bind fun j => a[j]?.map fun w => (w, M.set n (.lst (a.eraseIdx j))) else none
    | _ => none := nr rfl
@[simp] theorem putL_ref (n : Nat) (i : Int) (w : W) : putL M (.ref n) (.int i) w = match M[n]? with
    | some (.lst a) => (ixW a.length i).map fun j => M.set n (.lst (a.set j w))
    | _ => none := nr rfl
end


theorem ite_le {α : Type} {n m : Nat} {a b : α} (h : n ≤ m) : (if n ≤ m then a else b) = a := if_pos h
theorem ite_lt {α : Type} {n m : Nat} {a b : α} (h : n < m) : (if n < m then a else b) = a := if_pos h

/-! ### texts -/
theorem ofString_cps (a : String) : (Str.ofString a).cps.toList = a.toList.map Char.toNat := by
  show ((cpsOfBytes 0 0 a.toByteArray.data.toList).toArray).toList = _
  rw [cpsOfBytes_string]
theorem ofString_inj {a b : String} (h : Str.ofString a = Str.ofString b) : a = b := by
  have e : a.toList.map Char.toNat = b.toList.map Char.toNat := by rw [← ofString_cps, ← ofString_cps, h]
  have inj : ∀ (l m : List Char), l.map Char.toNat = m.map Char.toNat → l = m := by
    intro l
    induction l with
    | nil => intro m h; cases m with
      | nil => rfl
      | cons _ _ => cases h
    | cons c l ih =>
      intro m h
      cases m with
      | nil => cases h
      | cons d m =>
        rw [List.map_cons, List.map_cons] at h
        injection h with h1 h2
        rw [ih m h2, Char.toNat_inj.mp h1]
  exact String.toList_inj.mp (inj _ _ e)
@[simp] theorem ofString_eq (a b : String) : (Str.ofString a = Str.ofString b) ↔ a = b := ⟨ofString_inj, fun h => h ▸ rfl⟩

/-! ### equality of list-free values -/
mutual
def eqP : W → W → Bool
  | .non, .non => true
  | .bl a, .bl b => a == b
  | .bl a, .int j => (if a then 1 else 0) == j
  | .int i, .bl b => i == (if b then 1 else 0)
  | .int i, .int j => i == j
  | .str x, .str y => x == y
  | .tup xs, .tup ys => eqPs xs ys
  | .ref _, _ | .tup _, .non | .tup _, .bl _ | .tup _, .int _ | .tup _, .str _ | .tup _, .ref _ => false
  | .non, .bl _ | .non, .int _ | .non, .str _ | .non, .tup _ | .non, .ref _ => false
  | .bl _, .non | .bl _, .str _ | .bl _, .tup _ | .bl _, .ref _ => false
  | .int _, .non | .int _, .str _ | .int _, .tup _ | .int _, .ref _ => false
  | .str _, .non | .str _, .bl _ | .str _, .int _ | .str _, .tup _ | .str _, .ref _ => false
def eqPs : List W → List W → Bool
  | [], [] => true
  | x :: xs, y :: ys => eqP x y && eqPs xs ys
  | [], _ :: _ => false
  | _ :: _, [] => false
end
/-- list-free and at most so deep -/
def okW : Nat → W → Bool
  | 0, _ => false
  | _ + 1, .ref _ => false
  | k + 1, .tup ws => ws.all (okW k)
  | _ + 1, .non | _ + 1, .bl _ | _ + 1, .int _ | _ + 1, .str _ => true
mutual
def dP : W → PyData
  | .non => .none
  | .bl b => .bool b
  | .int i => .int i
  | .str x => .str x
  | .tup ws => .tuple (dPs ws)
  | .ref _ => .none
def dPs : List W → List PyData
  | [] => []
  | w :: ws => dP w :: dPs ws
end
theorem toD_P (M : Mem) : ∀ (k : Nat) (w : W), okW k w = true → toD M k w = some (dP w)
  | 0, _, h => by cases h
  | k + 1, w, h => by
    cases w with
    | tup ws =>
      rw [okW] at h
      rw [toD, dP]
      have : mapO (toD M k) ws = some (dPs ws) := by
        induction ws with
        | nil => rfl
        | cons w ws ih =>
          rw [List.all_cons, Bool.and_eq_true] at h
          rw [mapO, toD_P M k w h.1, ih h.2, dPs]
      rw [this]; rfl
    | ref n => rw [okW] at h; cases h
    | non => rw [toD, dP]
    | bl b => rw [toD, dP]
    | int i => rw [toD, dP]
    | str x => rw [toD, dP]
theorem eqv_P : ∀ (k : Nat) (x y : W), okW k x = true → okW k y = true → PyData.eqv (dP x) (dP y) = eqP x y
  | 0, _, _, h, _ => by cases h
  | k + 1, x, y, hx, hy => by
    have all : ∀ (xs ys : List W), xs.all (okW k) = true → ys.all (okW k) = true → PyData.eqvAll (dPs xs) (dPs ys) = eqPs xs ys := by
      intro xs
      induction xs with
      | nil => intro ys _ _; cases ys <;> simp [dPs, PyData.eqvAll, eqPs]
      | cons x xs ih =>
        intro ys h1 h2
        cases ys with
        | nil => simp [dPs, PyData.eqvAll, eqPs]
        | cons y ys =>
          rw [List.all_cons, Bool.and_eq_true] at h1 h2
          rw [dPs, dPs, PyData.eqvAll, eqPs, eqv_P k x y h1.1 h2.1, ih ys h1.2 h2.2]
    cases x with
    | ref _ => rw [okW] at hx; cases hx
    | tup xs =>
      cases y with
      | tup ys => rw [okW] at hx hy; simp only [dP, PyData.eqv, eqP]; exact all xs ys hx hy
      | ref _ => rw [okW] at hy; cases hy
      | _ => simp [dP, PyData.eqv, eqP]
    | _ => cases y with
      | ref _ => rw [okW] at hy; cases hy
      | _ => simp [dP, PyData.eqv, eqP]
theorem eqW_P (M : Mem) {x y : W} (hx : okW 64 x = true) (hy : okW 64 y = true) : eqW M x y = some (eqP x y) := by
  unfold eqW
  rw [toD_P M 64 x hx, toD_P M 64 y hy]
  show some _ = some _
  rw [eqv_P 64 x y hx hy]
theorem okW_mono : ∀ (k : Nat) (w : W), okW k w = true → ∀ j, k ≤ j → okW j w = true
  | 0, _, h, _, _ => by cases h
  | k + 1, w, h, j, hj => by
    cases j with
    | zero => omega
    | succ j =>
      cases w with
      | tup ws =>
        rw [okW] at h ⊢
        rw [List.all_eq_true] at h ⊢
        exact fun w hw => okW_mono k w (h w hw) j (by omega)
      | ref _ => rw [okW] at h; cases h
      | _ => rfl

/-! ### encodings -/
class Enc (α : Type) where
  enc : α → W
  dec : W → Option α
  dec_enc : ∀ a, dec (enc a) = some a
  enc_dec : ∀ w a, dec w = some a → w = enc a
  dep : Nat
  ok : ∀ a, okW dep (enc a) = true
  eqE : ∀ a b : α, eqP (enc a) (enc b) = true ↔ a = b
end BF

set_option Elab.async false
set_option linter.all false
set_option autoImplicit false
set_option maxRecDepth 10000
/-! Encodings of our own types, and promises of pure defs. -/
namespace BF
open PySem Enc

theorem Enc.inj {α : Type} [Enc α] {a b : α} (h : (enc a : W) = enc b) : a = b := by
  have := dec_enc a
  rw [h, dec_enc b] at this
  exact (Option.some.inj this).symm
instance : Enc Int where
  enc i := .int i
  dec w := match w with
    | .int i => some i
    | _ => none
  dec_enc _ := rfl
  enc_dec w a h := by
    split at h
    · cases h; rfl
    · cases h
  dep := 1
  ok _ := rfl
  eqE a b := by simp [eqP]
instance : Enc Nat where
  enc i := .int (i : Int)
  dec w := match w with
    | .int i => if 0 ≤ i then some i.toNat else none
    | _ => none
  dec_enc a := by simp
  enc_dec w a h := by
    split at h
    · split at h
      · cases h; congr 1; omega
      · cases h
    · cases h
  dep := 1
  ok _ := rfl
  eqE a b := by simp [eqP]; omega
instance : Enc Bool where
  enc i := .bl i
  dec w := match w with
    | .bl i => some i
    | _ => none
  dec_enc _ := rfl
  enc_dec w a h := by
    split at h
    · cases h; rfl
    · cases h
  dep := 1
  ok _ := rfl
  eqE a b := by simp [eqP]
instance : Enc Str where
  enc i := .str i
  dec w := match w with
    | .str i => some i
    | _ => none
  dec_enc _ := rfl
  enc_dec w a h := by
    split at h
    · cases h; rfl
    · cases h
  dep := 1
  ok _ := rfl
  eqE a b := by simp [eqP]
theorem mapO_map {α β γ : Type} {f : β → Option γ} {g : α → β} {h : α → γ} (e : ∀ a, f (g a) = some (h a)) : ∀ l : List α, mapO f (l.map g) = some (l.map h)
  | [] => rfl
  | a :: l => by rw [List.map_cons, mapO, e a, mapO_map e l]; rfl
theorem mapO_enc {α : Type} [Enc α] : ∀ {ws : List W} {as : List α}, mapO dec ws = some as → ws = as.map enc
  | [], as, h => by cases h; rfl
  | w :: ws, as, h => by
    rw [mapO] at h
    split at h
    · rename_i b bs h1 h2
      cases h
      rw [List.map_cons, ← enc_dec w b h1, ← mapO_enc h2]
    · cases h
theorem eqPs_map {α : Type} [Enc α] : ∀ as bs : List α, eqPs (as.map enc) (bs.map enc) = true ↔ as = bs
  | [], [] => by simp [eqPs]
  | [], _ :: _ => by simp [eqPs]
  | _ :: _, [] => by simp [eqPs]
  | a :: as, b :: bs => by
    rw [List.map_cons, List.map_cons, eqPs, Bool.and_eq_true, eqE, eqPs_map as bs]
    simp
instance {α : Type} [Enc α] : Enc (List α) where
  enc l := .tup (l.map enc)
  dec w := match w with
    | .tup ws => mapO dec ws
    | _ => none
  dec_enc l := by
    show mapO dec (l.map enc) = some l
    rw [mapO_map (h := id) fun a => dec_enc a, List.map_id]
  enc_dec w a h := by
    split at h
    · rw [mapO_enc h]
    · cases h
  dep := dep α + 1
  ok l := by
    rw [okW, List.all_eq_true]
    intro w hw
    obtain ⟨a, _, rfl⟩ := List.mem_map.mp hw
    exact ok a
  eqE a b := by
    rw [eqP]
    exact eqPs_map a b
instance {α β : Type} [Enc α] [Enc β] : Enc (α × β) where
  enc p := .tup [enc p.1, enc p.2]
  dec w := match w with
    | .tup [a, b] => match (dec a : Option α), (dec b : Option β) with
      | some x, some y => some (x, y)
      | _, _ => none
    | _ => none
  dec_enc p := by simp only [dec_enc]
  enc_dec w a h := by
    split at h
    · split at h
      · rename_i h1 h2
        cases h
        rw [enc_dec _ _ h1, enc_dec _ _ h2]
      · cases h
    · cases h
  dep := max (dep α) (dep β) + 1
  ok p := by
    rw [okW]
    simp [okW_mono _ _ (ok p.1) (max (dep α) (dep β)) (Nat.le_max_left _ _), okW_mono _ _ (ok p.2) (max (dep α) (dep β)) (Nat.le_max_right _ _)]
  eqE p q := by
    simp only [eqP, eqPs, Bool.and_true, Bool.and_eq_true, eqE]
    exact ⟨fun h => Prod.ext h.1 h.2, fun h => by rw [h]; exact ⟨rfl, rfl⟩⟩
/-- a history: the pages, the place -/
structure Hist where
  ps : List Str
  at_ : Nat
  deriving DecidableEq
instance : Enc Hist where
  enc h := .tup [.tup (h.ps.map W.str), .int h.at_]
  dec w := (dec w : Option (List Str × Nat)).map fun p => ⟨p.1, p.2⟩
  dec_enc h := by
    have : (dec (.tup [.tup (h.ps.map W.str), .int h.at_]) : Option (List Str × Nat)) = some (h.ps, h.at_) := dec_enc (h.ps, h.at_)
    rw [this]; rfl
  enc_dec w a h := by
    obtain ⟨p, h1, h2⟩ := Option.map_eq_some_iff.mp h
    rw [enc_dec w p h1, ← h2]; rfl
  dep := 3
  ok h := ok (h.ps, h.at_)
  eqE a b := by
    have := eqE (a.ps, a.at_) (b.ps, b.at_)
    refine this.trans ?_
    cases a; cases b
    simp
theorem enc_hist (h : Hist) : (enc h : W) = .tup [.tup (h.ps.map W.str), .int h.at_] := rfl
/-- an action; go is the menus' -/
inductive Act where
  | visit (p : Str)
  | back
  | forward
  | go (i : Nat)
  deriving DecidableEq
def Act.enc : Act → W
  | .visit p => .tup [.str "visit", .str p]
  | .back => .tup [.str "back"]
  | .forward => .tup [.str "forward"]
  | .go i => .tup [.str "go", .int i]
def Act.dec : W → Option Act
  | .tup [.str a, .str p] => if a = "visit" then some (.visit p) else none
  | .tup [.str a] => if a = "back" then some .back else if a = "forward" then some .forward else none
  | .tup [.str a, .int i] => if a = "go" ∧ 0 ≤ i then some (.go i.toNat) else none
  | _ => none
instance : Enc Act where
  enc := Act.enc
  dec := Act.dec
  dec_enc a := by cases a <;> simp [Act.enc, Act.dec]
  enc_dec w a h := by
    unfold Act.dec at h
    split at h
    · split at h
      · rename_i e; cases h; subst e; rfl
      · cases h
    · split at h
      · rename_i e; cases h; subst e; rfl
      · split at h
        · rename_i e; cases h; subst e; rfl
        · cases h
    · split at h
      · rename_i e; cases h; obtain ⟨e, e2⟩ := e; subst e; simp [Act.enc]; omega
      · cases h
    · cases h
  dep := 2
  ok a := by cases a <;> rfl
  eqE a b := by cases a <;> cases b <;> simp [Act.enc, eqP, eqPs]; omega
@[simp] theorem enc_visit (p : Str) : (enc (Act.visit p) : W) = .tup [.str "visit", .str p] := rfl
@[simp] theorem enc_back : (enc Act.back : W) = .tup [.str "back"] := rfl
@[simp] theorem enc_forward : (enc Act.forward : W) = .tup [.str "forward"] := rfl
@[simp] theorem enc_go (i : Nat) : (enc (Act.go i) : W) = .tup [.str "go", .int i] := rfl
/-- a sighting -/
structure Sight where
  p : Str
  b : Bool
  f : Bool
  deriving DecidableEq
instance : Enc Sight where
  enc s := .tup [.str s.p, .bl s.b, .bl s.f]
  dec w := match w with
    | .tup [.str p, .bl b, .bl f] => some ⟨p, b, f⟩
    | _ => none
  dec_enc _ := rfl
  enc_dec w a h := by
    split at h
    · cases h; rfl
    · cases h
  dep := 2
  ok _ := rfl
  eqE a b := by cases a; cases b; simp [eqP, eqPs]
theorem enc_sight (s : Sight) : (enc s : W) = .tup [.str s.p, .bl s.b, .bl s.f] := rfl
@[simp] theorem enc_nat (n : Nat) : (enc n : W) = .int n := rfl
@[simp] theorem enc_int (n : Int) : (enc n : W) = .int n := rfl
@[simp] theorem enc_bool (n : Bool) : (enc n : W) = .bl n := rfl
@[simp] theorem enc_str (n : Str) : (enc n : W) = .str n := rfl
theorem enc_list {α : Type} [Enc α] (l : List α) : (enc l : W) = .tup (l.map enc) := rfl
theorem enc_pair {α β : Type} [Enc α] [Enc β] (a : α) (b : β) : (enc (a, b) : W) = .tup [enc a, enc b] := rfl

/-- == of encoded values -/
theorem eqW_enc {α : Type} [Enc α] [DecidableEq α] (M : Mem) (a b : α) (h : dep α ≤ 64 := by decide) : eqW M (enc a) (enc b) = some (decide (a = b)) := by
  rw [eqW_P M (okW_mono _ _ (ok a) 64 h) (okW_mono _ _ (ok b) 64 h)]
  congr 1
  rw [Bool.eq_iff_iff, eqE, decide_eq_true_eq]
@[simp] theorem eqW_str (M : Mem) (a b : Str) : eqW M (.str a) (.str b) = some (decide (a = b)) := eqW_enc M a b
@[simp] theorem eqW_int (M : Mem) (a b : Int) : eqW M (.int a) (.int b) = some (decide (a = b)) := eqW_enc M a b
@[simp] theorem eqW_bl (M : Mem) (a b : Bool) : eqW M (.bl a) (.bl b) = some (decide (a = b)) := eqW_enc M a b

theorem okW_closed : ∀ (k : Nat) (w : W), okW k w = true → ∀ n, w.closed n = true
  | 0, _, h, _ => by cases h
  | k + 1, w, h, n => by
    cases w with
    | tup ws =>
      rw [okW] at h
      rw [W.closed]
      induction ws with
      | nil => rfl
      | cons w ws ih =>
        rw [List.all_cons, Bool.and_eq_true] at h
        rw [W.closeds, okW_closed k w h.1 n, ih h.2]; rfl
    | ref _ => rw [okW] at h; cases h
    | _ => rfl
theorem enc_closed {α : Type} [Enc α] (a : α) (n : Nat) : (enc a : W).closed n = true := okW_closed _ _ (ok a) n

/-- promises of pure defs -/
def fn1 {α β : Type} [Enc α] [Enc β] (f : α → Option β) : Fn := fun ws M => match ws with
  | [x] => match (dec x : Option α) with
    | some a => (f a).map fun b => (enc b, M)
    | none => none
  | _ => none
def fn2 {α β γ : Type} [Enc α] [Enc β] [Enc γ] (f : α → β → Option γ) : Fn := fun ws M => match ws with
  | [x, y] => match (dec x : Option α), (dec y : Option β) with
    | some a, some b => (f a b).map fun c => (enc c, M)
    | _, _ => none
  | _ => none
def fn3 {α β γ δ : Type} [Enc α] [Enc β] [Enc γ] [Enc δ] (f : α → β → γ → Option δ) : Fn := fun ws M => match ws with
  | [x, y, z] => match (dec x : Option α), (dec y : Option β), (dec z : Option γ) with
    | some a, some b, some c => (f a b c).map fun d => (enc d, M)
    | _, _, _ => none
  | _ => none
theorem fn1_eq {α β : Type} [Enc α] [Enc β] (f : α → Option β) (a : α) (M : Mem) : fn1 f [enc a] M = (f a).map fun b => (enc b, M) := by
  unfold fn1; simp only [dec_enc]
theorem fn2_eq {α β γ : Type} [Enc α] [Enc β] [Enc γ] (f : α → β → Option γ) (a : α) (b : β) (M : Mem) : fn2 f [enc a, enc b] M = (f a b).map fun c => (enc c, M) := by
  unfold fn2; simp only [dec_enc]
theorem fn3_eq {α β γ δ : Type} [Enc α] [Enc β] [Enc γ] [Enc δ] (f : α → β → γ → Option δ) (a : α) (b : β) (c : γ) (M : Mem) : fn3 f [enc a, enc b, enc c] M = (f a b c).map fun d => (enc d, M) := by
  unfold fn3; simp only [dec_enc]
theorem keeps1 {α β : Type} [Enc α] [Enc β] {f : α → Option β} {n : Nat} {body : CS} (h : ∀ a b M, f a = some b → ∃ g, body (some (enc a) :: List.replicate (n - 1) none) M = some (.rt (enc b) (M ++ g))) : Keeps n body (fn1 f) := by
  refine KeepsP.keeps ?_
  intro ws M w M' hc hw e
  unfold fn1 at e
  split at e
  · split at e
    · rename_i x _ a ha
      obtain ⟨b, hb, e⟩ := Option.map_eq_some_iff.mp e
      cases e
      obtain ⟨g, hg⟩ := h a b M hb
      rw [enc_dec _ _ ha]
      exact ⟨g, .inl hg, Nat.le_refl _, hc, enc_closed b _⟩
    · cases e
  · cases e
theorem keeps2 {α β γ : Type} [Enc α] [Enc β] [Enc γ] {f : α → β → Option γ} {n : Nat} {body : CS}
    (h : ∀ a b c M, f a b = some c → ∃ g, body (some (enc a) :: some (enc b) :: List.replicate (n - 2) none) M = some (.rt (enc c) (M ++ g))) : Keeps n body (fn2 f) := by
  refine KeepsP.keeps ?_
  intro ws M w M' hc hw e
  unfold fn2 at e
  split at e
  · split at e
    · rename_i x y _ _ a b ha hb
      obtain ⟨c, hcc, e⟩ := Option.map_eq_some_iff.mp e
      cases e
      obtain ⟨g, hg⟩ := h a b c M hcc
      rw [enc_dec _ _ ha, enc_dec _ _ hb]
      exact ⟨g, .inl hg, Nat.le_refl _, hc, enc_closed c _⟩
    · cases e
  · cases e
theorem keeps3 {α β γ δ : Type} [Enc α] [Enc β] [Enc γ] [Enc δ] {f : α → β → γ → Option δ} {n : Nat} {body : CS}
    (h : ∀ a b c d M, f a b c = some d → ∃ g, body (some (enc a) :: some (enc b) :: some (enc c) :: List.replicate (n - 3) none) M = some (.rt (enc d) (M ++ g))) : Keeps n body (fn3 f) := by
  refine KeepsP.keeps ?_
  intro ws M w M' hc hw e
  unfold fn3 at e
  split at e
  · split at e
    · rename_i x y z _ _ _ a b c ha hb hcc
      obtain ⟨d, hd, e⟩ := Option.map_eq_some_iff.mp e
      cases e
      obtain ⟨g, hg⟩ := h a b c d M hd
      rw [enc_dec _ _ ha, enc_dec _ _ hb, enc_dec _ _ hcc]
      exact ⟨g, .inl hg, Nat.le_refl _, hc, enc_closed d _⟩
    · cases e
  · cases e

/-! ### items, slices, ranges in plain words -/
theorem ixW_nat {n j : Nat} (h : j < n) : ixW n (j : Int) = some j := by
  unfold ixW
  rw [if_pos (Int.natCast_nonneg j), if_pos (by omega)]
  simp
@[simp] theorem ixW_0 {n : Nat} : ixW (n + 1) 0 = some 0 := ixW_nat (j := 0) (by omega)
@[simp] theorem ixW_1 {n : Nat} : ixW (n + 2) 1 = some 1 := ixW_nat (j := 1) (by omega)
@[simp] theorem ixW_2 {n : Nat} : ixW (n + 3) 2 = some 2 := ixW_nat (j := 2) (by omega)
theorem sIx_nat (n d k : Nat) : sIx n d (some (k : Int)) = min k n := by
  unfold sIx
  simp only
  rw [if_neg (by omega)]
  simp
theorem cutW_lo {α : Type} (xs : List α) (k : Nat) : cutW xs (some (k : Int)) none = xs.drop k := by
  unfold cutW
  rw [sIx_nat]
  show (xs.drop (min k xs.length)).take (xs.length - min k xs.length) = _
  by_cases h : k ≤ xs.length
  · rw [Nat.min_eq_left h]
    exact List.take_of_length_le (by simp)
  · rw [Nat.min_eq_right (by omega), List.drop_length, List.drop_of_length_le (by omega)]
    simp
theorem cutW_hi {α : Type} (xs : List α) (k : Nat) : cutW xs none (some (k : Int)) = xs.take k := by
  unfold cutW
  rw [sIx_nat]
  show (xs.drop 0).take (min k xs.length - 0) = _
  rw [List.drop_zero, Nat.sub_zero]
  by_cases h : k ≤ xs.length
  · rw [Nat.min_eq_left h]
  · rw [Nat.min_eq_right (by omega), List.take_length, List.take_of_length_le (by omega)]
@[simp] theorem cutW_hi1 {α : Type} (xs : List α) (k : Nat) : cutW xs none (some ((k : Int) + 1)) = xs.take (k + 1) := cutW_hi xs (k + 1)
@[simp] theorem cutW_lo1 {α : Type} (xs : List α) (k : Nat) : cutW xs (some ((k : Int) + 1)) none = xs.drop (k + 1) := cutW_lo xs (k + 1)
@[simp] theorem cutW_hi0 {α : Type} (xs : List α) (k : Nat) : cutW xs none (some (k : Int)) = xs.take k := cutW_hi xs k
@[simp] theorem cutW_lo0 {α : Type} (xs : List α) (k : Nat) : cutW xs (some (k : Int)) none = xs.drop k := cutW_lo xs k
theorem cutW_map {α β : Type} (f : α → β) (xs : List α) (lo hi : Option Int) : cutW (xs.map f) lo hi = (cutW xs lo hi).map f := by
  unfold cutW
  simp [List.map_take, List.map_drop]
end BF

set_option Elab.async false
set_option linter.all false
set_option autoImplicit false
set_option maxRecDepth 10000
/-! Loops and comprehensions by an invariant; the tape. -/
namespace BF
open PySem Enc

theorem forL_ind {gd : Mem → Bool} {g : CG} {body : CS} (ws : List W) (P : Nat → Sl → Mem → Prop) {σ : Sl} {M : Mem} (h0 : P 0 σ M) (hg : ∀ i σ M, P i σ M → gd M = true)
    (step : ∀ i w σ M, ws[i]? = some w → P i σ M → ∃ σ1, g w σ = some σ1 ∧ ∃ σ2 M2, (body σ1 M = some (.nx σ2 M2) ∨ body σ1 M = some (.ct σ2 M2)) ∧ P (i + 1) σ2 M2) :
    ∃ σ' M', forL gd g body ws σ M = some (.nx σ' M') ∧ P ws.length σ' M' := by
  induction ws generalizing P σ M with
  | nil => exact ⟨σ, M, by rw [forL, if_pos (hg 0 σ M h0)], h0⟩
  | cons w ws ih =>
    obtain ⟨σ1, h1, σ2, M2, h2, h3⟩ := step 0 w σ M rfl h0
    obtain ⟨σ', M', e, p⟩ := ih (fun i => P (i + 1)) h3 (fun i => hg (i + 1)) fun i w' σ M hw hp => step (i + 1) w' σ M hw hp
    refine ⟨σ', M', ?_, p⟩
    rw [forL, if_pos (hg 0 σ M h0), h1]
    rcases h2 with h2 | h2
    · show (body σ1 M).bind _ = _
      rw [h2]; exact e
    · show (body σ1 M).bind _ = _
      rw [h2]; exact e
def contO (gd : Mem → Bool) (g : CG) (body : CS) (ws : List W) : Out → Option Out
  | .nx σ' M' => forL gd g body ws σ' M'
  | .ct σ' M' => forL gd g body ws σ' M'
  | .bk σ' M' => some (.nx σ' M')
  | .rt w M' => some (.rt w M')
theorem forL_cons {gd : Mem → Bool} {g : CG} {body : CS} {w : W} {ws : List W} {σ σ1 : Sl} {M : Mem} {o : Out} (h0 : gd M = true) (h1 : g w σ = some σ1) (h2 : body σ1 M = some o) : forL gd g body (w :: ws) σ M = contO gd g body ws o := by
  rw [forL, if_pos h0, h1]
  show (body σ1 M).bind _ = _
  rw [h2]
  cases o <;> rfl
theorem forL_nil {gd : Mem → Bool} {g : CG} {body : CS} {σ : Sl} {M : Mem} (h0 : gd M = true) : forL gd g body [] σ M = some (.nx σ M) := by rw [forL, if_pos h0]
/-- a loop whose turns may return -/
theorem forL_ret {gd : Mem → Bool} {g : CG} {body : CS} (ws : List W) (P : Nat → Sl → Mem → Prop) (R : W → Mem → Prop) {σ : Sl} {M : Mem} (h0 : P 0 σ M) (hg : ∀ i σ M, P i σ M → gd M = true)
    (step : ∀ i w σ M, ws[i]? = some w → P i σ M → ∃ σ1, g w σ = some σ1 ∧ ∃ o, body σ1 M = some o ∧ match o with
      | .nx σ2 M2 => P (i + 1) σ2 M2
      | .ct σ2 M2 => P (i + 1) σ2 M2
      | .bk _ _ => False
      | .rt v M2 => R v M2) :
    (∃ σ' M', forL gd g body ws σ M = some (.nx σ' M') ∧ P ws.length σ' M') ∨ ∃ v M', forL gd g body ws σ M = some (.rt v M') ∧ R v M' := by
  induction ws generalizing P σ M with
  | nil => exact .inl ⟨σ, M, by rw [forL, if_pos (hg 0 σ M h0)], h0⟩
  | cons w ws ih =>
    obtain ⟨σ1, h1, o, h2, h3⟩ := step 0 w σ M rfl h0
    rw [forL_cons (hg 0 σ M h0) h1 h2]
    cases o with
    | nx σ2 M2 => exact ih (fun i => P (i + 1)) h3 (fun i => hg (i + 1)) fun i w' σ M hw hp => step (i + 1) w' σ M hw hp
    | ct σ2 M2 => exact ih (fun i => P (i + 1)) h3 (fun i => hg (i + 1)) fun i w' σ M hw hp => step (i + 1) w' σ M hw hp
    | bk σ2 M2 => exact h3.elim
    | rt v M2 => exact .inr ⟨v, M2, rfl, h3⟩
theorem lcL_ind {gd : Mem → Bool} {g : CG} {t : CT} {e : CE} {vs : List Nat} {σ : Sl} {D : Nat} (ws : List W) (P : Nat → List W → Mem → Prop) {M : Mem} {acc0 : List W} (h0 : P 0 acc0 M) (hg : ∀ i acc M, P i acc M → gd M = true)
    (step : ∀ i w acc M, ws[i]? = some w → P i acc M → ∃ σ1, g w (wipe σ vs) = some σ1 ∧ ∃ b M1, t σ1 M = some (b, M1) ∧
      if b = true then ∃ x M2, e σ1 M1 = some (x, M2) ∧ M2[D]? = some (.lst acc) ∧ acc.length < 16777216 ∧ P (i + 1) (acc ++ [x]) (M2.set D (.lst (acc ++ [x]))) else P (i + 1) acc M1) :
    ∃ M' acc, lcL gd g t e vs σ D ws M = some M' ∧ P ws.length acc M' := by
  induction ws generalizing P M acc0 with
  | nil => exact ⟨M, acc0, by rw [lcL, if_pos (hg 0 acc0 M h0)], h0⟩
  | cons w ws ih =>
    obtain ⟨σ1, h1, b, M1, h2, h3⟩ := step 0 w acc0 M rfl h0
    have go : ∀ {M2 : Mem} {acc2 : List W}, P 1 acc2 M2 → ∃ M' acc, lcL gd g t e vs σ D ws M2 = some M' ∧ P (w :: ws).length acc M' := fun {M2 acc2} hp =>
      ih (fun i => P (i + 1)) hp (fun i => hg (i + 1)) fun i w' acc M hw hp => step (i + 1) w' acc M hw hp
    have e0 : lcL gd g t e vs σ D (w :: ws) M = (if b = true then
        (e σ1 M1).bind fun q => match q.2[D]? with
          | some (.lst acc) => if acc.length < 16777216 then lcL gd g t e vs σ D ws (q.2.set D (.lst (acc ++ [q.1]))) else none
          | _ => none
      else lcL gd g t e vs σ D ws M1) := by
      rw [lcL, if_pos (hg 0 acc0 M h0), h1]
      show (t σ1 M).bind _ = _
      rw [h2]; rfl
    rw [e0]
    split at h3
    · rename_i hb
      obtain ⟨x, M2, h4, h5, h6, h7⟩ := h3
      rw [if_pos hb, h4]
      show ∃ M' acc, (match M2[D]? with
        | some (.lst acc) => if acc.length < 16777216 then lcL gd g t e vs σ D ws (M2.set D (.lst (acc ++ [x]))) else none
        | _ => none) = some M' ∧ _
      rw [h5]
      simp only [if_pos h6]
      exact go h7
    · rename_i hb
      rw [if_neg hb]
      exact go h3
/-- items that change nothing: their values in a row -/
theorem lcL_pure {gd : Mem → Bool} {g : CG} {e : CE} {vs : List Nat} {σ : Sl} (ws : List W) (f : W → W) (M : Mem) (acc0 : List W) (hl : acc0.length + ws.length ≤ 16777216) (hg : ∀ l, gd (M ++ [.lst l]) = true)
    (h : ∀ w ∈ ws, ∀ l, ∃ σ1, g w (wipe σ vs) = some σ1 ∧ e σ1 (M ++ [.lst l]) = some (f w, M ++ [.lst l])) :
    lcL gd g tTrue e vs σ M.length ws (M ++ [.lst acc0]) = some (M ++ [.lst (acc0 ++ ws.map f)]) := by
  induction ws generalizing acc0 with
  | nil => rw [lcL, if_pos (hg _)]; simp
  | cons w ws ih =>
    obtain ⟨σ1, h1, h2⟩ := h w List.mem_cons_self acc0
    rw [lcL, if_pos (hg _), h1]
    simp only [List.length_cons] at hl
    simp only [Option.bind_some, tTrue_eq, if_true, h2]
    rw [show (M ++ [MO.lst acc0])[M.length]? = some (.lst acc0) by simp]
    simp only [if_pos (show acc0.length < 16777216 by omega)]
    rw [show (M ++ [MO.lst acc0]).set M.length (.lst (acc0 ++ [f w])) = M ++ [.lst (acc0 ++ [f w])] by simp]
    rw [ih (acc0 ++ [f w]) (by simp; omega) fun w' hw l => h w' (List.mem_cons_of_mem _ hw) l]
    simp
/-- .. with a test -/
theorem lcL_filter {gd : Mem → Bool} {g : CG} {t : CT} {e : CE} {vs : List Nat} {σ : Sl} (ws : List W) (f : W → W) (p : W → Bool) (M : Mem) (acc0 : List W) (hl : acc0.length + ws.length ≤ 16777216) (hg : ∀ l, gd (M ++ [.lst l]) = true)
    (h : ∀ w ∈ ws, ∀ l, ∃ σ1, g w (wipe σ vs) = some σ1 ∧ t σ1 (M ++ [.lst l]) = some (p w, M ++ [.lst l]) ∧ (p w = true → e σ1 (M ++ [.lst l]) = some (f w, M ++ [.lst l]))) :
    lcL gd g t e vs σ M.length ws (M ++ [.lst acc0]) = some (M ++ [.lst (acc0 ++ (ws.filter p).map f)]) := by
  induction ws generalizing acc0 with
  | nil => rw [lcL, if_pos (hg _)]; simp
  | cons w ws ih =>
    obtain ⟨σ1, h1, h2, h3⟩ := h w List.mem_cons_self acc0
    rw [lcL, if_pos (hg _), h1]
    simp only [List.length_cons] at hl
    simp only [Option.bind_some, h2]
    by_cases hp : p w = true
    · rw [if_pos hp, h3 hp]
      simp only [Option.bind_some]
      rw [show (M ++ [MO.lst acc0])[M.length]? = some (.lst acc0) by simp]
      simp only [if_pos (show acc0.length < 16777216 by omega)]
      rw [show (M ++ [MO.lst acc0]).set M.length (.lst (acc0 ++ [f w])) = M ++ [.lst (acc0 ++ [f w])] by simp]
      rw [ih (acc0 ++ [f w]) (by simp; omega) fun w' hw l => h w' (List.mem_cons_of_mem _ hw) l, List.filter_cons_of_pos hp]
      simp
    · rw [if_neg hp, ih acc0 (by omega) fun w' hw l => h w' (List.mem_cons_of_mem _ hw) l, List.filter_cons_of_neg hp]

/-! ### the tape -/
/-- the place and the rest of the tape -/
abbrev Dr := Int × Int
def mixT (cell i : Int) : Int :=
  let c := (cell + 1000003 * i) % 2305843009213693951
  let c := (c * c + 1181783497276652981 * c + 2049848353892358983) % 2305843009213693951
  (c * c + 1442695040888963407) % 2305843009213693951
def nextT (ns : List Int) (i : Int) : Int :=
  let cell := if 0 < ns.length then ns.getD (i % ns.length).toNat 0 else 0
  if (ns.length : Int) ≤ i ∨ cell < 10 ^ 18 then mixT cell i else cell
def drawD (ns : List Int) (many : Nat) (s : Dr) : Nat × Dr :=
  let s := if s.2 < many then (s.1 + 1, nextT ns s.1) else s
  ((s.2 % many).toNat, (s.1, s.2 / many))
theorem drawD_lt (ns : List Int) {many : Nat} (s : Dr) (h : 0 < many) : (drawD ns many s).1 < many := by
  unfold drawD
  simp only
  have h1 := Int.emod_nonneg (if s.2 < (many : Int) then (s.1 + 1, nextT ns s.1) else s).2 (show (many : Int) ≠ 0 by omega)
  have h2 := Int.emod_lt_of_pos (if s.2 < (many : Int) then (s.1 + 1, nextT ns s.1) else s).2 (show (0 : Int) < many by omega)
  omega
/-- the memory while a law runs: the script, its copy, the tape -/
def TM (ns : List Int) (s : Dr) (g : Mem) : Mem := .ro (ns.map W.int) :: .lst (ns.map W.int) :: .lst [.ref 1, .int s.1, .int s.2] :: g
/-- promises of defs that draw -/
def withTM {α : Type} (M : Mem) (f : List Int → Dr → Mem → Option α) : Option α := match M with
  | .ro us :: .lst vs :: .lst [.ref 1, .int i, .int c] :: g => match asInts us, asInts vs with
    | some ns, some ms => if ns = ms then f ns (i, c) g else none
    | _, _ => none
  | _ => none
theorem withTM_eq {α : Type} (ns : List Int) (s : Dr) (g : Mem) (f : List Int → Dr → Mem → Option α) : withTM (TM ns s g) f = f ns s g := by
  unfold withTM TM
  simp only [asInts_map, if_true]
theorem withTM_some {α : Type} {M : Mem} {f : List Int → Dr → Mem → Option α} {a : α} (h : withTM M f = some a) : ∃ ns s g, M = TM ns s g ∧ f ns s g = some a := by
  unfold withTM at h
  split at h
  · split at h
    · rename_i h1 h2
      split at h
      · rename_i e
        subst e
        exact ⟨_, _, _, by rw [asInts_some h1, asInts_some h2]; rfl, h⟩
      · cases h
    · cases h
  · cases h
def fnT1 {α β : Type} [Enc α] [Enc β] (f : α → List Int → Dr → Option (β × Dr)) : Fn := fun ws M => match ws with
  | [.ref 2, x] => match (dec x : Option α) with
    | some a => withTM M fun ns s g => (f a ns s).map fun p => (enc p.1, TM ns p.2 g)
    | none => none
  | _ => none
def fnT2 {α β γ : Type} [Enc α] [Enc β] [Enc γ] (f : α → β → List Int → Dr → Option (γ × Dr)) : Fn := fun ws M => match ws with
  | [.ref 2, x, y] => match (dec x : Option α), (dec y : Option β) with
    | some a, some b => withTM M fun ns s g => (f a b ns s).map fun p => (enc p.1, TM ns p.2 g)
    | _, _ => none
  | _ => none
def fnT3 {α β γ δ : Type} [Enc α] [Enc β] [Enc γ] [Enc δ] (f : α → β → γ → List Int → Dr → Option (δ × Dr)) : Fn := fun ws M => match ws with
  | [.ref 2, x, y, z] => match (dec x : Option α), (dec y : Option β), (dec z : Option γ) with
    | some a, some b, some c => withTM M fun ns s g => (f a b c ns s).map fun p => (enc p.1, TM ns p.2 g)
    | _, _, _ => none
  | _ => none
theorem fnT1_eq {α β : Type} [Enc α] [Enc β] (f : α → List Int → Dr → Option (β × Dr)) (a : α) (ns : List Int) (s : Dr) (g : Mem) : fnT1 f [.ref 2, enc a] (TM ns s g) = (f a ns s).map fun p => (enc p.1, TM ns p.2 g) := by
  unfold fnT1
  simp only [dec_enc, withTM_eq]
theorem fnT2_eq {α β γ : Type} [Enc α] [Enc β] [Enc γ] (f : α → β → List Int → Dr → Option (γ × Dr)) (a : α) (b : β) (ns : List Int) (s : Dr) (g : Mem) : fnT2 f [.ref 2, enc a, enc b] (TM ns s g) = (f a b ns s).map fun p => (enc p.1, TM ns p.2 g) := by
  unfold fnT2
  simp only [dec_enc, withTM_eq]
theorem fnT3_eq {α β γ δ : Type} [Enc α] [Enc β] [Enc γ] [Enc δ] (f : α → β → γ → List Int → Dr → Option (δ × Dr)) (a : α) (b : β) (c : γ) (ns : List Int) (s : Dr) (g : Mem) : fnT3 f [.ref 2, enc a, enc b, enc c] (TM ns s g) = (f a b c ns s).map fun p => (enc p.1, TM ns p.2 g) := by
  unfold fnT3
  simp only [dec_enc, withTM_eq]
theorem closeds_ints (ns : List Int) (k : Nat) : W.closeds k (ns.map W.int) = true := by
  induction ns with
  | nil => rfl
  | cons n ns ih => rw [List.map_cons, W.closeds, ih]; rfl
theorem closed_TM {ns : List Int} {s s' : Dr} {g : Mem} (h : Closed (TM ns s g)) : Closed (TM ns s' g) := by
  intro mo hm
  have hl : (TM ns s' g).length = (TM ns s g).length := rfl
  rw [hl]
  rcases List.mem_cons.mp hm with rfl | hm
  · exact closeds_ints ns _
  rcases List.mem_cons.mp hm with rfl | hm
  · exact closeds_ints ns _
  rcases List.mem_cons.mp hm with rfl | hm
  · show W.closeds _ [.ref 1, .int s'.1, .int s'.2] = true
    simp [W.closeds, W.closed, TM]
  · exact h mo (List.mem_cons_of_mem _ (List.mem_cons_of_mem _ (List.mem_cons_of_mem _ hm)))
@[simp high] theorem TM_get0 (ns : List Int) (s : Dr) (g : Mem) : (TM ns s g)[0]? = some (.ro (ns.map W.int)) := nr rfl
@[simp high] theorem TM_get1 (ns : List Int) (s : Dr) (g : Mem) : (TM ns s g)[1]? = some (.lst (ns.map W.int)) := nr rfl
@[simp high] theorem TM_get2 (ns : List Int) (s : Dr) (g : Mem) : (TM ns s g)[2]? = some (.lst [.ref 1, .int s.1, .int s.2]) := nr rfl
@[simp high] theorem TM_get3 (ns : List Int) (s : Dr) (g : Mem) (n : Nat) : (TM ns s g)[n + 3]? = g[n]? := nr rfl
@[simp] theorem TM_set3 (ns : List Int) (s : Dr) (g : Mem) (n : Nat) (x : MO) : (TM ns s g).set (n + 3) x = TM ns s (g.set n x) := nr rfl
@[simp] theorem TM_prefix (ns : List Int) (s : Dr) (g g' : Mem) : TM ns s g <+: TM ns s (g ++ g') := ⟨g', rfl⟩
@[simp] theorem TM_append (ns : List Int) (s : Dr) (g g' : Mem) : TM ns s g ++ g' = TM ns s (g ++ g') := nr rfl
@[simp] theorem TM_length (ns : List Int) (s : Dr) (g : Mem) : (TM ns s g).length = g.length + 3 := nr rfl
theorem keepsT1 {α β : Type} [Enc α] [Enc β] {f : α → List Int → Dr → Option (β × Dr)} {n : Nat} {body : CS}
    (h : ∀ a ns s g b s', f a ns s = some (b, s') → ∃ g', body (some (.ref 2) :: some (enc a) :: List.replicate (n - 2) none) (TM ns s g) = some (.rt (enc b) (TM ns s' (g ++ g')))) : Keeps n body (fnT1 f) := by
  refine KeepsP.keeps ?_
  intro ws M w M' hc hw e
  unfold fnT1 at e
  split at e
  · split at e
    · rename_i x _ a ha
      obtain ⟨ns, s, g, eM, e2⟩ := withTM_some e
      subst eM
      obtain ⟨⟨b, s'⟩, hb, e3⟩ := Option.map_eq_some_iff.mp e2
      cases e3
      obtain ⟨g', hg⟩ := h a ns s g b s' hb
      rw [enc_dec _ _ ha]
      exact ⟨g', .inl hg, Nat.le_refl _, closed_TM hc, enc_closed b _⟩
    · cases e
  · cases e
theorem keepsT2 {α β γ : Type} [Enc α] [Enc β] [Enc γ] {f : α → β → List Int → Dr → Option (γ × Dr)} {n : Nat} {body : CS}
    (h : ∀ a b ns s g c s', f a b ns s = some (c, s') → ∃ g', body (some (.ref 2) :: some (enc a) :: some (enc b) :: List.replicate (n - 3) none) (TM ns s g) = some (.rt (enc c) (TM ns s' (g ++ g')))) : Keeps n body (fnT2 f) := by
  refine KeepsP.keeps ?_
  intro ws M w M' hc hw e
  unfold fnT2 at e
  split at e
  · split at e
    · rename_i x y _ _ a b ha hb
      obtain ⟨ns, s, g, eM, e2⟩ := withTM_some e
      subst eM
      obtain ⟨⟨c, s'⟩, hcc, e3⟩ := Option.map_eq_some_iff.mp e2
      cases e3
      obtain ⟨g', hg⟩ := h a b ns s g c s' hcc
      rw [enc_dec _ _ ha, enc_dec _ _ hb]
      exact ⟨g', .inl hg, Nat.le_refl _, closed_TM hc, enc_closed c _⟩
    · cases e
  · cases e
theorem keepsT3 {α β γ δ : Type} [Enc α] [Enc β] [Enc γ] [Enc δ] {f : α → β → γ → List Int → Dr → Option (δ × Dr)} {n : Nat} {body : CS}
    (h : ∀ a b c ns s g d s', f a b c ns s = some (d, s') → ∃ g', body (some (.ref 2) :: some (enc a) :: some (enc b) :: some (enc c) :: List.replicate (n - 4) none) (TM ns s g) = some (.rt (enc d) (TM ns s' (g ++ g')))) : Keeps n body (fnT3 f) := by
  refine KeepsP.keeps ?_
  intro ws M w M' hc hw e
  unfold fnT3 at e
  split at e
  · split at e
    · rename_i x y z _ _ _ a b c ha hb hz
      obtain ⟨ns, s, g, eM, e2⟩ := withTM_some e
      subst eM
      obtain ⟨⟨d, s'⟩, hcc, e3⟩ := Option.map_eq_some_iff.mp e2
      cases e3
      obtain ⟨g', hg⟩ := h a b c ns s g d s' hcc
      rw [enc_dec _ _ ha, enc_dec _ _ hb, enc_dec _ _ hz]
      exact ⟨g', .inl hg, Nat.le_refl _, closed_TM hc, enc_closed d _⟩
    · cases e
  · cases e

/-! ### lists of encoded values -/
theorem toD_lst {α : Type} [Enc α] (M : Mem) (n : Nat) (as : List α) (h : M[n]? = some (.lst (as.map enc)) ∨ M[n]? = some (.ro (as.map enc))) (hd : dep α ≤ 63) : toD M 64 (.ref n) = some (.list (as.map fun a => dP (enc a))) := by
  have e : mapO (toD M 63) (as.map enc) = some (as.map fun a => dP (enc a)) := mapO_map (fun a => toD_P M 63 _ (okW_mono _ _ (ok a) 63 hd)) as
  rw [toD]
  rcases h with h | h
  · rw [h]; simp only [e]; rfl
  · rw [h]; simp only [e]; rfl
theorem eqvAll_map {α : Type} [Enc α] (hd : dep α ≤ 63) : ∀ as bs : List α, PyData.eqvAll (as.map fun a => dP (enc a)) (bs.map fun a => dP (enc a)) = true ↔ as = bs
  | [], [] => by simp [PyData.eqvAll]
  | [], _ :: _ => by simp [PyData.eqvAll]
  | _ :: _, [] => by simp [PyData.eqvAll]
  | a :: as, b :: bs => by
    rw [List.map_cons, List.map_cons, PyData.eqvAll, Bool.and_eq_true, eqvAll_map hd as bs, eqv_P 63 _ _ (okW_mono _ _ (ok a) 63 hd) (okW_mono _ _ (ok b) 63 hd), eqE]
    simp
theorem eqW_lst {α : Type} [Enc α] [DecidableEq α] (M : Mem) (n m : Nat) (as bs : List α) (h1 : M[n]? = some (.lst (as.map enc))) (h2 : M[m]? = some (.lst (bs.map enc))) (hd : dep α ≤ 63 := by decide) : eqW M (.ref n) (.ref m) = some (decide (as = bs)) := by
  unfold eqW
  rw [toD_lst M n as (.inl h1) hd, toD_lst M m bs (.inl h2) hd]
  show some (PyData.eqv (.list _) (.list _)) = some _
  congr 1
  simp only [PyData.eqv]
  rw [Bool.eq_iff_iff, eqvAll_map hd, decide_eq_true_eq]

/-! ### sequences: a list or a tuple -/
def seqW (M : Mem) : W → Option (Bool × List W)
  | .tup ws => some (false, ws)
  | .ref n => match M[n]? with
    | some (.lst ws) => some (true, ws)
    | some (.ro ws) => some (true, ws)
    | _ => none
  | _ => none
def isScal : W → Bool
  | .non | .bl _ | .int _ | .str _ => true
  | _ => false
def isBl : W → Bool
  | .bl _ => true
  | _ => false
section
variable {M : Mem} {x : W} {b : Bool} {ws : List W}
theorem seqW_cases (h : seqW M x = some (b, ws)) : (x = .tup ws ∧ b = false) ∨ ∃ n, x = .ref n ∧ b = true ∧ (M[n]? = some (.lst ws) ∨ M[n]? = some (.ro ws)) := by
  unfold seqW at h
  split at h
  · cases h; exact .inl ⟨rfl, rfl⟩
  · split at h
    · rename_i e; cases h; exact .inr ⟨_, rfl, rfl, .inl e⟩
    · rename_i e; cases h; exact .inr ⟨_, rfl, rfl, .inr e⟩
    · cases h
  · cases h
theorem get_app {g : Mem} {n : Nat} {mo : MO} (h : M[n]? = some mo) : (M ++ g)[n]? = some mo := by
  rw [List.getElem?_append_left (List.getElem?_eq_some_iff.mp h).1]; exact h
theorem seqW_app {g : Mem} (h : seqW M x = some (b, ws)) : seqW (M ++ g) x = some (b, ws) := by
  rcases seqW_cases h with ⟨rfl, rfl⟩ | ⟨n, rfl, rfl, h | h⟩
  · rfl
  · simp [seqW, get_app h]
  · simp [seqW, get_app h]
theorem isi2_seq (h : seqW M x = some (b, ws)) : gIsi2 "list" "tuple" M x = some (.bl true, M) := by
  rcases seqW_cases h with ⟨rfl, rfl⟩ | ⟨n, rfl, rfl, h | h⟩
  · rfl
  · simp [gIsi2, tyW, h, isTy]
  · simp [gIsi2, tyW, h, isTy]
theorem isiL_seq (h : seqW M x = some (b, ws)) : gIsi "list" M x = some (.bl b, M) := by
  rcases seqW_cases h with ⟨rfl, rfl⟩ | ⟨n, rfl, rfl, h | h⟩
  · rfl
  · simp [gIsi, tyW, h, isTy]
  · simp [gIsi, tyW, h, isTy]
theorem isiT_seq (h : seqW M x = some (b, ws)) : gIsi "tuple" M x = some (.bl (!b), M) := by
  rcases seqW_cases h with ⟨rfl, rfl⟩ | ⟨n, rfl, rfl, h | h⟩
  · rfl
  · simp [gIsi, tyW, h, isTy]
  · simp [gIsi, tyW, h, isTy]
theorem len_seq (h : seqW M x = some (b, ws)) : pLen [x] M = some (.int ws.length, M) := by
  rcases seqW_cases h with ⟨rfl, rfl⟩ | ⟨n, rfl, rfl, h | h⟩
  · rfl
  · simp [h]
  · simp [h]
theorem ix_seq' (h : seqW M x = some (b, ws)) {k : Nat} {w : W} (hk : ws[k]? = some w) : gIx M x (.int k) = some (w, M) := by
  have hlt : k < ws.length := (List.getElem?_eq_some_iff.mp hk).1
  rcases seqW_cases h with ⟨rfl, rfl⟩ | ⟨n, rfl, rfl, h | h⟩
  · simp [ixW_nat hlt, hk]
  · simp [h, ixW_nat hlt, hk]
  · simp [h, ixW_nat hlt, hk]
theorem isi2_scal (h : isScal x = true) : gIsi2 "list" "tuple" M x = some (.bl false, M) := by cases x <;> first | rfl | cases h
theorem isiL_scal (h : isScal x = true) : gIsi "list" M x = some (.bl false, M) := by cases x <;> first | rfl | cases h
theorem isiT_scal (h : isScal x = true) : gIsi "tuple" M x = some (.bl false, M) := by cases x <;> first | rfl | cases h
theorem isiB_scal (h : isScal x = true) : gIsi "bool" M x = some (.bl (isBl x), M) := by cases x <;> first | rfl | cases h
end
theorem mapO_at {α β : Type} {f : α → Option β} : ∀ {as : List α} {bs : List β}, mapO f as = some bs → bs.length = as.length ∧ ∀ (i : Nat) (a : α), as[i]? = some a → ∃ b, bs[i]? = some b ∧ f a = some b
  | [], bs, h => by cases h; exact ⟨rfl, fun i a h => by simp at h⟩
  | a :: as, bs, h => by
    rw [mapO] at h
    split at h
    · rename_i b bs' h1 h2
      cases h
      obtain ⟨l, e⟩ := mapO_at h2
      refine ⟨by simp [l], fun i a' hi => ?_⟩
      cases i with
      | zero => simp at hi; subst hi; exact ⟨b, rfl, h1⟩
      | succ i => simpa using e i a' (by simpa using hi)
    · cases h
theorem rangeW_mem {lo : Int} {n : Nat} {w : W} (h : w ∈ rangeW lo n) : ∃ i, i < n ∧ w = .int (lo + (i : Nat)) := by
  unfold rangeW at h
  obtain ⟨i, hi, rfl⟩ := List.mem_map.mp h
  exact ⟨i, List.mem_range.mp hi, rfl⟩

/-! ### promises of defs that hand back a new list -/
mutual
theorem W.closed_mono {k j : Nat} (h : k ≤ j) : ∀ w : W, w.closed k = true → w.closed j = true
  | .ref n, c => by rw [W.closed] at c ⊢; exact decide_eq_true (Nat.lt_of_lt_of_le (of_decide_eq_true c) h)
  | .tup ws, c => by rw [W.closed] at c ⊢; exact W.closeds_mono h ws c
  | .non, _ => rfl
  | .bl _, _ => rfl
  | .int _, _ => rfl
  | .str _, _ => rfl
theorem W.closeds_mono {k j : Nat} (h : k ≤ j) : ∀ ws : List W, W.closeds k ws = true → W.closeds j ws = true
  | [], _ => rfl
  | w :: ws, c => by
    rw [W.closeds, Bool.and_eq_true] at c ⊢
    exact ⟨W.closed_mono h w c.1, W.closeds_mono h ws c.2⟩
end
theorem closed_mono {k j : Nat} {mo : MO} (c : mo.closed k = true) (h : k ≤ j) : mo.closed j = true := by
  cases mo with
  | lst ws => exact W.closeds_mono h ws c
  | ro ws => exact W.closeds_mono h ws c
  | dT m kvs =>
    rw [MO.closed, List.all_eq_true] at c ⊢
    intro p hp
    have := c p hp
    rw [Bool.and_eq_true] at this ⊢
    exact ⟨W.closed_mono h _ this.1, W.closed_mono h _ this.2⟩
  | dK kvs =>
    rw [MO.closed, List.all_eq_true] at c ⊢
    intro p hp
    have := c p hp
    rw [Bool.and_eq_true] at this ⊢
    exact ⟨W.closed_mono h _ this.1, W.closed_mono h _ this.2⟩
theorem closeds_enc {γ : Type} [Enc γ] (cs : List γ) (k : Nat) : W.closeds k (cs.map enc) = true := by
  induction cs with
  | nil => rfl
  | cons c cs ih => rw [List.map_cons, W.closeds, enc_closed, ih]; rfl
theorem closed_app {M g : Mem} (h : Closed M) (hg : ∀ mo ∈ g, mo.closed (M ++ g).length = true) : Closed (M ++ g) := by
  intro mo hm
  rcases List.mem_append.mp hm with hm | hm
  · exact closed_mono (h mo hm) (by simp)
  · exact hg mo hm
/-- the new list stands at n among what the body has laid -/
theorem keeps_new {γ : Type} [Enc γ] {n : Nat} {body : CS} {F : Fn} (h : ∀ ws M w M', F ws M = some (w, M') → ∃ cs : List γ, w = .ref M.length ∧ M' = M ++ [.lst (cs.map enc)] ∧
    ∃ k g, body (ws.map some ++ List.replicate (n - ws.length) none) M = some (.rt (.ref k) (M ++ g)) ∧ M.length ≤ k ∧ (M ++ g)[k]? = some (.lst (cs.map enc))) : Keeps n body F := by
  intro ws M w M' hc _ e
  obtain ⟨cs, rfl, rfl, k, g, h1, h2, h3⟩ := h ws M w M' e
  have hid : ∀ i < M.length, (fun i => if i < M.length then i else k) i = i := fun i hi => if_pos hi
  refine ⟨fun i => if i < M.length then i else k, M ++ g, .inl ?_, hid, fun i mo hi => ?_, fun i j hi hj e => ?_, by simp, ?_, ?_⟩
  · rw [W.ren, if_neg (Nat.lt_irrefl _)]; exact h1
  · by_cases hl : i < M.length
    · rw [List.getElem?_append_left hl] at hi
      rw [MO.ren_eq hid (hc mo (List.mem_of_getElem? hi))]
      show (M ++ g)[if i < M.length then i else k]? = _
      rw [if_pos hl, List.getElem?_append_left hl]; exact hi
    · have e0 : i = M.length := by
        have := (List.getElem?_eq_some_iff.mp hi).1
        simp at this; omega
      subst e0
      simp at hi
      subst hi
      show (M ++ g)[if M.length < M.length then M.length else k]? = _
      rw [if_neg (Nat.lt_irrefl _), MO.ren_eq hid (mo := .lst (cs.map enc)) (closeds_enc cs _)]
      exact h3
  · simp only at e
    simp at hi hj
    split at e <;> split at e <;> omega
  · exact closed_app hc fun mo hm => by
      rw [List.mem_singleton] at hm
      subst hm
      exact closeds_enc cs _
  · rw [W.closed]; simp
def fnL1 {α γ : Type} [Enc α] [Enc γ] (f : α → Option (List γ)) : Fn := fun ws M => match ws with
  | [x] => match (dec x : Option α) with
    | some a => (f a).map fun c => (.ref M.length, M ++ [.lst (c.map enc)])
    | none => none
  | _ => none
def fnL2 {α β γ : Type} [Enc α] [Enc β] [Enc γ] (f : α → β → Option (List γ)) : Fn := fun ws M => match ws with
  | [x, y] => match (dec x : Option α), (dec y : Option β) with
    | some a, some b => (f a b).map fun c => (.ref M.length, M ++ [.lst (c.map enc)])
    | _, _ => none
  | _ => none
def fnL3 {α β δ γ : Type} [Enc α] [Enc β] [Enc δ] [Enc γ] (f : α → β → δ → Option (List γ)) : Fn := fun ws M => match ws with
  | [x, y, z] => match (dec x : Option α), (dec y : Option β), (dec z : Option δ) with
    | some a, some b, some d => (f a b d).map fun c => (.ref M.length, M ++ [.lst (c.map enc)])
    | _, _, _ => none
  | _ => none
theorem fnL1_eq {α γ : Type} [Enc α] [Enc γ] (f : α → Option (List γ)) (a : α) (M : Mem) : fnL1 f [enc a] M = (f a).map fun c => (.ref M.length, M ++ [.lst (c.map enc)]) := by
  unfold fnL1; simp only [dec_enc]
theorem fnL2_eq {α β γ : Type} [Enc α] [Enc β] [Enc γ] (f : α → β → Option (List γ)) (a : α) (b : β) (M : Mem) : fnL2 f [enc a, enc b] M = (f a b).map fun c => (.ref M.length, M ++ [.lst (c.map enc)]) := by
  unfold fnL2; simp only [dec_enc]
theorem fnL3_eq {α β δ γ : Type} [Enc α] [Enc β] [Enc δ] [Enc γ] (f : α → β → δ → Option (List γ)) (a : α) (b : β) (d : δ) (M : Mem) : fnL3 f [enc a, enc b, enc d] M = (f a b d).map fun c => (.ref M.length, M ++ [.lst (c.map enc)]) := by
  unfold fnL3; simp only [dec_enc]
theorem keepsL1 {α γ : Type} [Enc α] [Enc γ] {f : α → Option (List γ)} {n : Nat} {body : CS}
    (h : ∀ a cs M, f a = some cs → ∃ k g, body (some (enc a) :: List.replicate (n - 1) none) M = some (.rt (.ref k) (M ++ g)) ∧ M.length ≤ k ∧ (M ++ g)[k]? = some (.lst (cs.map enc))) : Keeps n body (fnL1 f) := by
  refine keeps_new (γ := γ) fun ws M w M' e => ?_
  unfold fnL1 at e
  split at e
  · split at e
    · rename_i x _ a ha
      obtain ⟨c, hcc, e2⟩ := Option.map_eq_some_iff.mp e
      cases e2
      rw [enc_dec _ _ ha]
      exact ⟨c, rfl, rfl, h a c M hcc⟩
    · cases e
  · cases e
theorem keepsL2 {α β γ : Type} [Enc α] [Enc β] [Enc γ] {f : α → β → Option (List γ)} {n : Nat} {body : CS}
    (h : ∀ a b cs M, f a b = some cs → ∃ k g, body (some (enc a) :: some (enc b) :: List.replicate (n - 2) none) M = some (.rt (.ref k) (M ++ g)) ∧ M.length ≤ k ∧ (M ++ g)[k]? = some (.lst (cs.map enc))) : Keeps n body (fnL2 f) := by
  refine keeps_new (γ := γ) fun ws M w M' e => ?_
  unfold fnL2 at e
  split at e
  · split at e
    · rename_i x y _ _ a b ha hb
      obtain ⟨c, hcc, e2⟩ := Option.map_eq_some_iff.mp e
      cases e2
      rw [enc_dec _ _ ha, enc_dec _ _ hb]
      exact ⟨c, rfl, rfl, h a b c M hcc⟩
    · cases e
  · cases e
theorem keepsL3 {α β δ γ : Type} [Enc α] [Enc β] [Enc δ] [Enc γ] {f : α → β → δ → Option (List γ)} {n : Nat} {body : CS}
    (h : ∀ a b d cs M, f a b d = some cs → ∃ k g, body (some (enc a) :: some (enc b) :: some (enc d) :: List.replicate (n - 3) none) M = some (.rt (.ref k) (M ++ g)) ∧ M.length ≤ k ∧ (M ++ g)[k]? = some (.lst (cs.map enc))) : Keeps n body (fnL3 f) := by
  refine keeps_new (γ := γ) fun ws M w M' e => ?_
  unfold fnL3 at e
  split at e
  · split at e
    · rename_i x y z _ _ _ a b d ha hb hd
      obtain ⟨c, hcc, e2⟩ := Option.map_eq_some_iff.mp e
      cases e2
      rw [enc_dec _ _ ha, enc_dec _ _ hb, enc_dec _ _ hd]
      exact ⟨c, rfl, rfl, h a b d c M hcc⟩
    · cases e
  · cases e

/-! ### .. with what was laid left open -/
theorem keeps1p {α β : Type} [Enc α] [Enc β] {f : α → Option β} {n : Nat} {body : CS} (h : ∀ a b M, f a = some b → ∃ M2, body (some (enc a) :: List.replicate (n - 1) none) M = some (.rt (enc b) M2) ∧ M <+: M2) : Keeps n body (fn1 f) :=
  keeps1 fun a b M e => by
    obtain ⟨M2, h1, g, rfl⟩ := h a b M e
    exact ⟨g, h1⟩
theorem keeps2p {α β γ : Type} [Enc α] [Enc β] [Enc γ] {f : α → β → Option γ} {n : Nat} {body : CS}
    (h : ∀ a b c M, f a b = some c → ∃ M2, body (some (enc a) :: some (enc b) :: List.replicate (n - 2) none) M = some (.rt (enc c) M2) ∧ M <+: M2) : Keeps n body (fn2 f) :=
  keeps2 fun a b c M e => by
    obtain ⟨M2, h1, g, rfl⟩ := h a b c M e
    exact ⟨g, h1⟩
theorem keeps3p {α β γ δ : Type} [Enc α] [Enc β] [Enc γ] [Enc δ] {f : α → β → γ → Option δ} {n : Nat} {body : CS}
    (h : ∀ a b c d M, f a b c = some d → ∃ M2, body (some (enc a) :: some (enc b) :: some (enc c) :: List.replicate (n - 3) none) M = some (.rt (enc d) M2) ∧ M <+: M2) : Keeps n body (fn3 f) :=
  keeps3 fun a b c d M e => by
    obtain ⟨M2, h1, g, rfl⟩ := h a b c d M e
    exact ⟨g, h1⟩
theorem TM_pre {ns : List Int} {s : Dr} {g M2 : Mem} (h : TM ns s g <+: M2) : ∃ g', M2 = TM ns s (g ++ g') := by
  obtain ⟨g', rfl⟩ := h
  exact ⟨g', rfl⟩
theorem keepsT1p {α β : Type} [Enc α] [Enc β] {f : α → List Int → Dr → Option (β × Dr)} {n : Nat} {body : CS}
    (h : ∀ a ns s g b s', f a ns s = some (b, s') → ∃ M2, body (some (.ref 2) :: some (enc a) :: List.replicate (n - 2) none) (TM ns s g) = some (.rt (enc b) M2) ∧ TM ns s' g <+: M2) : Keeps n body (fnT1 f) :=
  keepsT1 fun a ns s g b s' e => by
    obtain ⟨M2, h1, h2⟩ := h a ns s g b s' e
    obtain ⟨g', rfl⟩ := TM_pre h2
    exact ⟨g', h1⟩
theorem keepsT2p {α β γ : Type} [Enc α] [Enc β] [Enc γ] {f : α → β → List Int → Dr → Option (γ × Dr)} {n : Nat} {body : CS}
    (h : ∀ a b ns s g c s', f a b ns s = some (c, s') → ∃ M2, body (some (.ref 2) :: some (enc a) :: some (enc b) :: List.replicate (n - 3) none) (TM ns s g) = some (.rt (enc c) M2) ∧ TM ns s' g <+: M2) : Keeps n body (fnT2 f) :=
  keepsT2 fun a b ns s g c s' e => by
    obtain ⟨M2, h1, h2⟩ := h a b ns s g c s' e
    obtain ⟨g', rfl⟩ := TM_pre h2
    exact ⟨g', h1⟩
theorem keepsT3p {α β γ δ : Type} [Enc α] [Enc β] [Enc γ] [Enc δ] {f : α → β → γ → List Int → Dr → Option (δ × Dr)} {n : Nat} {body : CS}
    (h : ∀ a b c ns s g d s', f a b c ns s = some (d, s') → ∃ M2, body (some (.ref 2) :: some (enc a) :: some (enc b) :: some (enc c) :: List.replicate (n - 4) none) (TM ns s g) = some (.rt (enc d) M2) ∧ TM ns s' g <+: M2) : Keeps n body (fnT3 f) :=
  keepsT3 fun a b c ns s g d s' e => by
    obtain ⟨M2, h1, h2⟩ := h a b c ns s g d s' e
    obtain ⟨g', rfl⟩ := TM_pre h2
    exact ⟨g', h1⟩
end BF

set_option Elab.async false
set_option linter.all false
set_option autoImplicit false
set_option maxRecDepth 10000
/-! Defs that stand at the top of the text. -/
namespace BF
open PySem PySem.Spec
open PyProof.Rows L2
/-- this def stands under this name -/
def DefAt (K : PySem.W.Frag) (mg : Str → Option Value) (x : Str) (st : Stmt) : Prop := ∃ f fd, Fun K x x st f fd ∧ mg x = some (.ref f)
/-- .. and keeps this promise -/
def Known (P : Program) (w : World) (K : PySem.W.Frag) (mg : Str → Option Value) (base : Heap) (k : Nat) (x : Str) (ps : List Str) (F : Fn) : Prop :=
  ∃ f fd, FnOk P w K mg base CX0 k f fd ps (spF ⟨K, w⟩ ps.length F) ∧ mg x = some (.ref f) ∧ PySem.W.keepIn K (.ref f) = true ∧ Binds K fd ps []
/-- what binding one's arguments by place gives -/
abbrev BindsAll (x : Str) (st : Stmt) (ps : List Str) : Prop := ∀ (kV doc pm : Value) (an : Option Addr) (cdv ct : Value) (us : List Value), us.length = ps.length → bindArgs (PySem.W.fnOf x x (defArgs st) (defBody st) (defScope st) .none kV doc pm an cdv ct) ⟨us, []⟩ = pure (ps.zip us)
section
variable {P : Program} {w : World} {K : PySem.W.Frag} {mg : Str → Option Value} {base : Heap} {x : Str} {st : Stmt} {N ps : List Str} {k : Nat} {body : CS} {G : Fn}
theorem known (D : DefAt K mg x st) (S : FnScope N ps (defScope st)) (hb : BindsAll x st ps) (hk : Keeps N.length body G)
    (der : ∀ (f : Addr) (cdv : Value) (A : Around) (outer : List Env) (s : Shared) (H : Hp) (E : XK), Room k (A.deeper (envOfC x (defScope st) s.heap.objs.size f cdv)) →
      ESs (cxOf CX0 P w K mg base N x (defScope st) f cdv A outer s H E).nox (defBody st) body) : Known P w K mg base (k + 1) x ps G := by
  obtain ⟨f, fd, F, g⟩ := D
  exact ⟨f, fd, fn_ok F S hk (der f), g, F.kp, F.binds hb⟩
/-- a promise of nothing -/
theorem known0 (D : DefAt K mg x st) (S : FnScope N ps (defScope st)) (hb : BindsAll x st ps) (hG : ∀ ws M, G ws M = none) : Known P w K mg base (k + 1) x ps G := by
  obtain ⟨f, fd, F, g⟩ := D
  refine ⟨f, fd, F.ok S (fun vs H Q E h => h.1) (fun cdv A outer s H vs Q E hr h => ?_), g, F.kp, F.binds hb⟩
  obtain ⟨_, _, _, _, _, _, _, _, e, _⟩ := h
  rw [hG] at e
  cases e
theorem defAt {h : Heap} {f : Addr} {oc : Value} {od an : Option Addr} {osl : Array (Option Value)} {kV doc pm cdv ct : Value} (X : K.In h) (G : h.Ns mainGlobals mg)
    (a : PySem.W.nsIn K mainGlobals x = some (some (.ref f))) (l : K.lookup f = some ⟨oc, od, .func (PySem.W.fnOf x x (defArgs st) (defBody st) (defScope st) .none kV doc pm an cdv ct), osl⟩)
    (c : PySem.W.codeIn K cdv x = true) (k : PySem.W.keepIn K (.ref f) = true) : DefAt K mg x st := ⟨_, _, fun_mk l c k, PySem.W.mg_of X G a⟩
end
section
variable {X : Cx} {x : Str} {p pos : Pos} {e : Expr} {es : List Expr} {cs : List CE}
theorem r_callK {F : Fn} {k : Nat} {ps : List Str} (G : Known X.prog X.w X.K X.mg X.base k x ps F) (hr : Room k X.A) (hg : Gl X x)
    (ha : EA X (e :: es) cs) (hn : cs.length = ps.length := by rfl) (hdb : (x == ("__debug__" : Str)) = false := by decide) (he : starEach (e :: es) X.env = (false, eval e X.env) :: starEach es X.env := by rfl) (hpl : (backTo pos (starEach es X.env)).any (·.1) = false := by rfl) :
    EV X (.Call (.Name x p) (e :: es) [] pos) (eN F cs) := by
  obtain ⟨f, fd, G, hm, hk, hb⟩ := G
  exact r_call G hr hg hm hk hb ha hn hdb he hpl
end
/-- the head's part of a law -/
theorem law_head {l : PySem.W.OpenLaw} {w : World} {K : PySem.W.Frag} {h : Heap} {mg : Str → Option Value} {fa f : Addr} {k : Nat} {st : Stmt} {oc : Value} {od an : Option Addr} {osl : Array (Option Value)} {kV doc pm cdv ct : Value} (X : K.In h) (G : h.Ns mainGlobals mg) (hfa : mg "law" = some (.ref fa))
    (a : PySem.W.nsIn K mainGlobals "law" = some (some (.ref f))) (lk : K.lookup f = some ⟨oc, od, .func (PySem.W.fnOf "law" "law" (defArgs st) (defBody st) (defScope st) .none kV doc pm an cdv ct), osl⟩) (c : PySem.W.codeIn K cdv "law" = true) (kp : PySem.W.keepIn K (.ref f) = true)
    (hb : BindsAll "law" st ["script"]) (ok : ∀ (base : Heap) (fd : FuncData), Fun K "law" "law" st fa fd → FnOk l.prog w K mg base CX0 k fa fd ["script"] (spF ⟨K, w⟩ (["script"] : List Str).length lawF)) :
    ∃ fd : FuncData, (∀ (s : Shared) (v : Value), BindsTo s fd ⟨[v], []⟩ [("script", v)]) ∧ ∀ base : Heap, K.In base → base.Ns mainGlobals mg → FnOk l.prog w K mg base CX0 k fa fd ["script"] (spLaw K) := by
  have e := hfa.symm.trans (PySem.W.mg_of X G a)
  cases e
  exact ⟨PySem.W.fnOf "law" "law" (defArgs st) (defBody st) (defScope st) .none kV doc pm an cdv ct, fun s v => .of_eq (hb kV doc pm an cdv ct [v] rfl), fun base _ _ => law_ok rfl (ok base _ (fun_mk lk c kp))⟩
end BF

set_option Elab.async false
set_option linter.all false
set_option autoImplicit false
set_option maxRecDepth 10000
/-! More operations. -/
namespace BF
open PySem PySem.Spec
open PyProof.Rows L2
/-- x += y of ints -/
def gAdd1 (M : Mem) (x y : W) : Option (W × Mem) := match x, y with
  | .int i, .int j => some (.int (i + j), M)
  | _, _ => none
@[simp] theorem gAdd1_int {M : Mem} (i j : Int) : gAdd1 M (.int i) (.int j) = some (.int (i + j), M) := nr rfl
/-- the least of ints -/
def minI : Int → List Int → Int
  | m, [] => m
  | m, x :: xs => minI (if x < m then x else m) xs
theorem minI_spec : ∀ (xs : List Int) (m : Int), minI m xs ∈ m :: xs ∧ ∀ y ∈ m :: xs, minI m xs ≤ y
  | [], m => ⟨List.mem_cons_self, fun y hy => by
      rcases List.mem_cons.mp hy with rfl | h
      · exact Int.le_refl _
      · cases h⟩
  | x :: xs, m => by
    obtain ⟨h1, h2⟩ := minI_spec xs (if x < m then x else m)
    rw [minI]
    refine ⟨?_, fun y hy => ?_⟩
    · rcases List.mem_cons.mp h1 with h | h
      · rw [h]; split
        · exact List.mem_cons_of_mem _ List.mem_cons_self
        · exact List.mem_cons_self
      · exact List.mem_cons_of_mem _ (List.mem_cons_of_mem _ h)
    · have h0 := h2 _ List.mem_cons_self
      rcases List.mem_cons.mp hy with rfl | hy
      · refine Int.le_trans h0 ?_
        split <;> omega
      rcases List.mem_cons.mp hy with rfl | hy
      · refine Int.le_trans h0 ?_
        split <;> omega
      · exact h2 y (List.mem_cons_of_mem _ hy)
theorem minI_eq {m x : Int} {xs : List Int} (h1 : m ∈ x :: xs) (h2 : ∀ y ∈ x :: xs, m ≤ y) : minI x xs = m := by
  obtain ⟨h3, h4⟩ := minI_spec xs x
  have := h2 _ h3
  have := h4 _ h1
  omega
/-- the ints of a list or a tuple -/
def intsAt (M : Mem) : W → Option (List Int)
  | .ref n => match M[n]? with
    | some (.lst ws) => asInts ws
    | some (.ro ws) => asInts ws
    | _ => none
  | _ => none
def pMinL : Fn := fun ws M => match ws with
  | [w] => match intsAt M w with
    | some (m :: ms) => some (.int (minI m ms), M)
    | _ => none
  | _ => none
@[simp] theorem pMinL_eq {M : Mem} (w : W) : pMinL [w] M = match intsAt M w with
    | some (m :: ms) => some (.int (minI m ms), M)
    | _ => none := nr rfl
@[simp] theorem intsAt_eq {M : Mem} (n : Nat) : intsAt M (.ref n) = match M[n]? with
    | some (.lst ws) => asInts ws
    | some (.ro ws) => asInts ws
    | _ => none := nr rfl
def pSum : Fn := fun ws M => match ws with
  | [w] => match intsAt M w with
    | some ms => some (.int ms.sum, M)
    | _ => none
  | _ => none
@[simp] theorem pSum_eq {M : Mem} (w : W) : pSum [w] M = match intsAt M w with
    | some ms => some (.int ms.sum, M)
    | _ => none := nr rfl
@[simp high] theorem pMin_nat {M : Mem} (i j : Nat) : pMin [.int i, .int j] M = some (.int ((min i j : Nat) : Int), M) := by
  rw [pMin_eq]
  congr 3
  split <;> omega
@[simp high] theorem pMax_nat {M : Mem} (i j : Nat) : pMax [.int i, .int j] M = some (.int ((max i j : Nat) : Int), M) := by
  unfold pMax
  simp only
  congr 3
  split <;> omega
@[simp] theorem gLt_nat {M : Mem} (i j : Nat) : gLt M (.int i) (.int j) = some (.bl (decide (i < j)), M) := by
  show some (W.bl (decide ((i : Int) < j)), M) = _
  congr 3
  exact decide_eq_decide.mpr (by omega)
instance : Enc (Option Int) where
  enc o := match o with
    | none => .non
    | some i => .int i
  dec w := match w with
    | .non => some none
    | .int i => some (some i)
    | _ => none
  dec_enc a := by cases a <;> rfl
  enc_dec w a h := by
    split at h
    · cases h; rfl
    · cases h; rfl
    · cases h
  dep := 1
  ok a := by cases a <;> rfl
  eqE a b := by cases a <;> cases b <;> simp [eqP]
@[simp] theorem enc_on : (Enc.enc (none : Option Int) : W) = .non := rfl
@[simp] theorem enc_os (i : Int) : (Enc.enc (some i : Option Int) : W) = .int i := rfl
theorem map_encS (l : List Str) : l.map (Enc.enc : Str → W) = l.map W.str := rfl
@[simp] theorem eqW_strs (M : Mem) (a b : List Str) : eqW M (.tup (a.map W.str)) (.tup (b.map W.str)) = some (decide (a = b)) := eqW_enc (α := List Str) M a b
@[simp] theorem eqW_hist (M : Mem) (a b : List Str) (i j : Nat) : eqW M (.tup [.tup (a.map W.str), .int i]) (.tup [.tup (b.map W.str), .int j]) = some (decide (a = b ∧ i = j)) := by
  have := eqW_enc (α := Hist) M ⟨a, i⟩ ⟨b, j⟩
  rw [show decide (a = b ∧ i = j) = decide ((⟨a, i⟩ : Hist) = ⟨b, j⟩) from decide_eq_decide.mpr (by simp)]
  exact this
theorem map_encI (l : List Int) : l.map (Enc.enc : Int → W) = l.map W.int := rfl
@[simp] theorem small62s : small62 0 = true ∧ small62 1 = true ∧ small62 2 = true ∧ small62 3 = true ∧ small62 4 = true ∧ small62 5 = true ∧ small62 6 = true ∧ small62 7 = true ∧ small62 8 = true ∧ small62 9 = true ∧ small62 10 = true ∧ small62 11 = true ∧ small62 12 = true ∧ small62 13 = true ∧ small62 14 = true ∧ small62 15 = true ∧ small62 16 = true ∧ small62 17 = true ∧ small62 18 = true ∧ small62 19 = true ∧ small62 20 = true ∧ small62 21 = true ∧ small62 22 = true ∧ small62 23 = true ∧ small62 24 = true ∧ small62 25 = true ∧ small62 26 = true ∧ small62 27 = true ∧ small62 28 = true ∧ small62 29 = true ∧ small62 30 = true ∧ small62 31 = true ∧ small62 32 = true ∧ small62 33 = true ∧ small62 34 = true ∧ small62 35 = true ∧ small62 36 = true ∧ small62 37 = true ∧ small62 38 = true ∧ small62 39 = true ∧ small62 40 = true ∧ small62 41 = true ∧ small62 42 = true ∧ small62 43 = true ∧ small62 44 = true ∧ small62 45 = true ∧ small62 46 = true ∧ small62 47 = true ∧ small62 48 = true ∧ small62 49 = true ∧ small62 50 = true ∧ small62 51 = true ∧ small62 52 = true ∧ small62 53 = true ∧ small62 54 = true ∧ small62 55 = true ∧ small62 56 = true ∧ small62 57 = true ∧ small62 58 = true ∧ small62 59 = true ∧ small62 60 = true ∧ small62 61 = true ∧ small62 62 = true ∧ small62 63 = true ∧ small62 64 = true := by
  refine ⟨?_, ?_, ?_, ?_, ?_, ?_, ?_, ?_, ?_, ?_, ?_, ?_, ?_, ?_, ?_, ?_, ?_, ?_, ?_, ?_, ?_, ?_, ?_, ?_, ?_, ?_, ?_, ?_, ?_, ?_, ?_, ?_, ?_, ?_, ?_, ?_, ?_, ?_, ?_, ?_, ?_, ?_, ?_, ?_, ?_, ?_, ?_, ?_, ?_, ?_, ?_, ?_, ?_, ?_, ?_, ?_, ?_, ?_, ?_, ?_, ?_, ?_, ?_, ?_, ?_⟩ <;> rfl
@[simp] theorem small64s : small64 0 = true ∧ small64 1 = true ∧ small64 2 = true ∧ small64 3 = true ∧ small64 4 = true ∧ small64 5 = true ∧ small64 6 = true ∧ small64 7 = true ∧ small64 8 = true ∧ small64 9 = true ∧ small64 10 = true ∧ small64 11 = true ∧ small64 12 = true ∧ small64 13 = true ∧ small64 14 = true ∧ small64 15 = true ∧ small64 16 = true ∧ small64 17 = true ∧ small64 18 = true ∧ small64 19 = true ∧ small64 20 = true ∧ small64 21 = true ∧ small64 22 = true ∧ small64 23 = true ∧ small64 24 = true ∧ small64 25 = true ∧ small64 26 = true ∧ small64 27 = true ∧ small64 28 = true ∧ small64 29 = true ∧ small64 30 = true ∧ small64 31 = true ∧ small64 32 = true := by
  refine ⟨?_, ?_, ?_, ?_, ?_, ?_, ?_, ?_, ?_, ?_, ?_, ?_, ?_, ?_, ?_, ?_, ?_, ?_, ?_, ?_, ?_, ?_, ?_, ?_, ?_, ?_, ?_, ?_, ?_, ?_, ?_, ?_, ?_⟩ <;> rfl
@[simp] theorem ite_sub_nat (a b : Nat) : (if b < a then (a : Int) - b else 0) = ((a - b : Nat) : Int) := by split <;> omega
@[simp high] theorem pMax_sub {M : Mem} (m a b : Nat) : pMax [.int m, .int ((a : Int) - b)] M = some (.int ((max m (a - b) : Nat) : Int), M) := by
  unfold pMax
  simp only
  congr 3
  split <;> omega
/-- a while loop, turn by turn -/
theorem whileL_on {t : CT} {body : CS} {n : Nat} {σ σ' : Sl} {M M1 M' : Mem} (h1 : t σ M = some (true, M1)) (h2 : body σ M1 = some (.nx σ' M')) : whileL t body (n + 1) σ M = whileL t body n σ' M' := by
  rw [whileL, h1]
  simp only [Option.bind_some, if_true, h2]
theorem whileL_off {t : CT} {body : CS} {n : Nat} {σ : Sl} {M M1 : Mem} (h1 : t σ M = some (false, M1)) : whileL t body (n + 1) σ M = some (.nx σ M1) := by
  rw [whileL, h1]
  rfl
section
variable {K : KW}
theorem l_iadd : Lift2 K (rI0 fun i j => .int (i + j)) gAdd1 := lift_int0 (f' := fun i j => .int (i + j)) (fun M x y p h => by
  unfold gAdd1 at h; split at h
  · cases h; exact ⟨_, _, rfl, rfl, rfl⟩
  · cases h) fun _ _ _ _ => .int _
theorem rds_asInts {H : Hp} {loc : List Addr} : ∀ {ns : List Int} {xs : List V}, Rds K H loc xs (ns.map W.int) → xs = ns.map V.int
  | [], [], _ => rfl
  | n :: ns, x :: xs, r => by
    cases r with
    | cons h t =>
      cases h
      rw [rds_asInts t]; rfl
theorem intsAt_seq {H : Hp} {loc : List Addr} {M : Mem} {v : V} {w : W} {ns : List Int} (s : Store K H loc M) (r : Rd K H loc v w) (h : intsAt M w = some ns) : ∃ a, v = .ref a ∧ SqL K H a (ns.map V.int) := by
  unfold intsAt at h
  split at h
  · cases r with
    | ref hn =>
      split at h
      · rename_i zs hz
        obtain ⟨xs, q1, q2⟩ := s.ok _ _ _ hn hz
        have e := rds_asInts (by rw [← asInts_some h]; exact q2)
        subst e
        exact ⟨_, rfl, SqL.of q1⟩
      · rename_i zs hz
        obtain ⟨xs, q1, q2⟩ := s.ok _ _ _ hn hz
        have e := rds_asInts (by rw [← asInts_some h]; exact q2)
        subst e
        exact ⟨_, rfl, q1.sq⟩
      · cases h
  · cases h
theorem n_minL : LiftN K (rMin K) pMinL := by
  intro H loc M ws vs w M' Q s r e aft
  unfold pMinL at e
  split at e
  · split at e
    · rename_i w0 _ m ms hm
      cases e
      match vs, r with
      | [_], .cons r1 .nil =>
        obtain ⟨a, rfl, sq⟩ := intsAt_seq s r1 hm
        refine ⟨a, _, rfl, sq, Nat.zero_lt_succ _, fun z h1 h2 => ?_⟩
        rw [← minI_eq h1 h2]
        exact aft _ H loc s (.int _) .refl (List.prefix_refl _)
    · cases e
  · cases e
theorem n_sum : LiftN K (rSum K) pSum := by
  intro H loc M ws vs w M' Q s r e aft
  unfold pSum at e
  split at e
  · split at e
    · rename_i w0 _ ms hm
      cases e
      match vs, r with
      | [_], .cons r1 .nil =>
        obtain ⟨a, rfl, sq⟩ := intsAt_seq s r1 hm
        exact ⟨a, _, rfl, sq, aft _ H loc s (.int _) .refl (List.prefix_refl _)⟩
    · cases e
  · cases e
end
end BF

set_option Elab.async false
set_option linter.all false
set_option autoImplicit false
set_option maxRecDepth 100000
set_option maxHeartbeats 4000000
/-! A tuple so many times, at any count. -/
namespace BF
open PySem PySem.Spec
open PyProof.Rows L2
theorem mul_none (l : Addr) (items : Array Value) (n : Nat) (dd : Option Addr) (sl : Array (Option Value)) (x : Int) (u : Tok) (c0 : (decide (x < -(2 ^ 63)) || decide (x ≥ 2 ^ 63)) = false) (c1 : (items.isEmpty || x == 1) = false) (c2 : (decide (x ≤ 0) || items.isEmpty) = true) :
    Meets (Builtin.«tuple.__mul__» ⟨[.ref l, .int x u], []⟩) (fun _ R s => s.heap.get? l = some { cls := .type "tuple", dict := dd, data := .seq items n, slots := sl } ∧
      R (.ok (.ret (Value.ref s.heap.objs.size))) { s with heap := s.heap.push { cls := Value.type "tuple", data := Data.seq #[] }, toks := s.toks }) :=
  .of_wp fun prog w A R s h => by
    obtain ⟨hp, g, d, tk, os⟩ := s
    obtain ⟨hl, h⟩ := h
    have f1 := AutoSeq1.idx_int
    wp_walk using wpAny_loadPart' hl
    repeat (first
      | (refine wpAny_ite_false (decide_eq_false (by rw [c0]; exact Bool.false_ne_true)) ?_; wp_walk using wpAny_loadPart' hl)
      | (refine wpAny_ite_false (decide_eq_false (by rw [c1]; exact Bool.false_ne_true)) ?_; wp_walk using wpAny_loadPart' hl)
      | (refine wpAny_ite_true (decide_eq_true c2) ?_; wp_walk using wpAny_loadPart' hl))
    exact ⟨_, rfl, h⟩
theorem mul_once (l : Addr) (items : Array Value) (n : Nat) (dd : Option Addr) (sl : Array (Option Value)) (x : Int) (u : Tok) (c0 : (decide (x < -(2 ^ 63)) || decide (x ≥ 2 ^ 63)) = false) (c1 : (items.isEmpty || x == 1) = true) :
    Meets (Builtin.«tuple.__mul__» ⟨[.ref l, .int x u], []⟩) (fun _ R s => s.heap.get? l = some { cls := .type "tuple", dict := dd, data := .seq items n, slots := sl } ∧
      R (.ok (.ret (Value.ref l))) s) :=
  .of_wp fun prog w A R s h => by
    obtain ⟨hp, g, d, tk, os⟩ := s
    obtain ⟨hl, h⟩ := h
    have f1 := AutoSeq1.idx_int
    wp_walk using wpAny_loadPart' hl
    repeat (first
      | (refine wpAny_ite_false (decide_eq_false (by rw [c0]; exact Bool.false_ne_true)) ?_; wp_walk using wpAny_loadPart' hl)
      | (refine wpAny_ite_true (decide_eq_true c1) ?_; wp_walk using wpAny_loadPart' hl))
    exact ⟨_, rfl, h⟩
def rRepA (K : KW) : R2 := fun x y H Q => ∃ l k xs, x = .ref l ∧ y = .int k ∧ SqT K H l xs ∧ -1000 ≤ k ∧ k ≤ 1000 ∧ xs.length ≤ 1000 ∧ (xs = [] ∨ k = 1 → Q (.ref l) H) ∧ (¬ (xs = [] ∨ k = 1) → ∀ p, H p = none → Q (.ref p) (upd H p (.tup (List.replicate k.toNat xs).flatten)))
section
variable {X : Cx}
theorem op_repA : OpR X (binaryOp .Mult) (rRepA X.KW) := by
  intro pins s σ H x y v u Q I rx ry h
  obtain ⟨l, k, xs, rfl, rfl, hT, h0, h1, hz, q1, q2⟩ := h
  by_cases hk : 2 ≤ k ∧ xs ≠ []
  · exact op_repT pins s σ H _ _ v u Q I rx ry ⟨l, k, xs, rfl, rfl, hT, hk.2, hk.1, h1, hz, q2 (fun z => z.elim hk.2 (fun z => by omega))⟩
  cases rx
  obtain ⟨t, rfl⟩ := ry
  obtain ⟨its, r, ⟨⟨cls, dd, data, sl⟩, ho, hc, n, hd⟩, hs⟩ := I.tuple hT
  simp only at hc hd
  subst hc hd
  have hle : its.length = xs.length := r.length.symm
  have c0 : (decide (k < -(2 ^ 63)) || decide (k ≥ 2 ^ 63)) = false := by
    rw [decide_eq_false (by omega), decide_eq_false (by omega)] <;> rfl
  have hem : its.toArray.isEmpty = decide (xs = []) := by
    cases its with
    | nil => cases xs with
      | nil => rfl
      | cons _ _ => cases hle
    | cons _ _ => cases xs with
      | nil => cases hle
      | cons _ _ => rfl
  by_cases hc1 : xs = [] ∨ k = 1
  · have c1 : (its.toArray.isEmpty || k == 1) = true := by
      rw [hem]
      rcases hc1 with z | z
      · rw [z]; rfl
      · rw [z]; simp
    refine wpAny_binaryOp_repeat_ref (T := "tuple") (U := "int") (by decide) ⟨_, ho, rfl⟩ (fun s' => typeIs_int s' k t) noFill_tuple_mul F.fills_int_mul F.slot_int_rmul repeat_tuple F.slot_int_index.lookup
      (call_meets F.slot_int_rmul (typeIs_int s k t) F.entry_int_rmul (F.args_int_rmul_2 _ _) (int_rmul_tuple k t l its.toArray n dd sl)
        ⟨ho, rfl, ⟨_, ho, rfl⟩, call_meets F.slot_tuple_mul ⟨_, ho, rfl⟩ F.entry_tuple_mul (F.args_tuple_mul_2 _ _) (mul_once l its.toArray n dd sl k t c0 c1) ⟨ho, ?_⟩⟩)
    exact ⟨.ref l, _, I, rfl, q1 hc1⟩
  · have hk0 : k ≤ 0 := by
      by_cases hx : xs = []
      · exact absurd (.inl hx) hc1
      · by_cases h2 : 2 ≤ k
        · exact absurd ⟨h2, hx⟩ hk
        · have : k ≠ 1 := fun z => hc1 (.inr z)
          omega
    have hx : xs ≠ [] := fun z => hc1 (.inl z)
    have c1 : (its.toArray.isEmpty || k == 1) = false := by
      rw [hem, decide_eq_false hx, Bool.false_or]
      exact beq_eq_false_iff_ne.mpr (by omega)
    have c2 : (decide (k ≤ 0) || its.toArray.isEmpty) = true := by rw [decide_eq_true hk0]; rfl
    refine wpAny_binaryOp_repeat_ref (T := "tuple") (U := "int") (by decide) ⟨_, ho, rfl⟩ (fun s' => typeIs_int s' k t) noFill_tuple_mul F.fills_int_mul F.slot_int_rmul repeat_tuple F.slot_int_index.lookup
      (call_meets F.slot_int_rmul (typeIs_int s k t) F.entry_int_rmul (F.args_int_rmul_2 _ _) (int_rmul_tuple k t l its.toArray n dd sl)
        ⟨ho, rfl, ⟨_, ho, rfl⟩, call_meets F.slot_tuple_mul ⟨_, ho, rfl⟩ F.entry_tuple_mul (F.args_tuple_mul_2 _ _) (mul_none l its.toArray n dd sl k t c0 c1 c2) ⟨ho, ?_⟩⟩)
    have qn := q2 hc1
    rw [show k.toNat = 0 by omega] at qn
    refine ⟨.ref s.heap.objs.size, _, I.laid (t' := s.toks) (o := .tup []) (fun b ob q => Heap.get?_push_of_some _ q) (Nat.le_refl _) ?_, rfl, qn _ (I.hok.fresh (Nat.le_refl _))⟩
    exact ⟨Nat.zero_le _, [], .nil, IsTup.new _ _⟩
end
/-- a tuple so many times -/
def gRepA (M : Mem) (x y : W) : Option (W × Mem) := match x, y with
  | .tup a, .int k => if a.length ≤ 1000 ∧ k ≤ 1000 ∧ -1000 ≤ k then some (.tup (List.replicate k.toNat a).flatten, M) else none
  | _, _ => none
@[simp] theorem gRepA_tup {M : Mem} (a : List W) (k : Int) : gRepA M (.tup a) (.int k) = if a.length ≤ 1000 ∧ k ≤ 1000 ∧ -1000 ≤ k then some (.tup (List.replicate k.toNat a).flatten, M) else none := nr rfl
theorem rds_rep {K : KW} {H : Hp} {loc : List Addr} {xs : List V} {ws : List W} (r : Rds K H loc xs ws) : ∀ k : Nat, Rds K H loc (List.replicate k xs).flatten (List.replicate k ws).flatten
  | 0 => .nil
  | k + 1 => by
    rw [List.replicate_succ, List.replicate_succ, List.flatten_cons, List.flatten_cons]
    exact r.append (rds_rep r k)
theorem l_rep {K : KW} : Lift2 K (rRepA K) gRepA := by
  intro H loc M x y v u w M' Q s rx ry e aft
  unfold gRepA at e
  split at e
  · rename_i a k
    split at e
    · rename_i hz
      cases e
      cases ry
      cases rx with
      | tup sq rs =>
        rename_i p xs
        refine ⟨p, k, xs, rfl, rfl, sq, hz.2.2, hz.2.1, by rw [rs.length]; exact hz.1, fun hc => ?_, fun hc l hl => aft_tup s (rds_rep rs k.toNat) hl aft⟩
        refine aft _ H loc s ?_ .refl (List.prefix_refl _)
        have e1 : (List.replicate k.toNat a).flatten = a := by
          rcases hc with hc | hc
          · subst hc
            cases rs
            induction k.toNat with
            | zero => rfl
            | succ n ih => rw [List.replicate_succ, List.flatten_cons, ih]; rfl
          · rw [hc]; simp
        rw [e1]
        exact .tup sq rs
    · cases e
  · cases e
/-- int(x) of an int or a truth value -/
def pInt : Fn := fun ws M => match ws with
  | [.int i] => some (.int i, M)
  | [.bl k] => some (.int (if k then 1 else 0), M)
  | _ => none
@[simp] theorem pInt_bl {M : Mem} (k : Bool) : pInt [.bl k] M = some (.int (if k = true then 1 else 0), M) := nr rfl
theorem n_int {K : KW} : LiftN K (fun xs H Q => (∃ i, xs = [.int i] ∧ Q (.int i) H) ∨ ∃ k, xs = [.bl k] ∧ Q (.int (if k then 1 else 0)) H) pInt := by
  intro H loc M ws vs w M' Q s r e aft
  unfold pInt at e
  split at e
  · cases e
    match vs, r with
    | [_], .cons (.int _) .nil => exact .inl ⟨_, rfl, aft _ H loc s (.int _) .refl (List.prefix_refl _)⟩
  · cases e
    match vs, r with
    | [_], .cons (.bl _) .nil => exact .inr ⟨_, rfl, aft _ H loc s (.int _) .refl (List.prefix_refl _)⟩
  · cases e
end BF

set_option Elab.async false
set_option linter.all false
set_option autoImplicit false
set_option maxRecDepth 100000
/-! The letters of a text; constants of the module; all(..); is of truth values. -/
namespace BF
open PySem PySem.Spec
open PyProof.Rows L2
def charsW (x : Str) : List W := x.cps.toList.map fun c => .str ⟨#[c]⟩
def iStr (e : CE) : CI := fun σ M => (e σ M).bind fun p => match p.1 with
  | .str x => some (charsW x, gdT, p.2)
  | _ => none
@[simp] theorem iStr_eq {σ : Sl} {M : Mem} (e : CE) : iStr e σ M = (e σ M).bind fun p => match p.1 with
  | .str x => some (charsW x, gdT, p.2)
  | _ => none := nr rfl
/-- a letter in a text -/
def gInS (M : Mem) (x y : W) : Option (W × Mem) := match x, y with
  | .str a, .str z => match a.cps.toList with
    | [c] => some (.bl (decide (c ∈ z.cps.toList)), M)
    | _ => none
  | _, _ => none
def gNotInS (M : Mem) (x y : W) : Option (W × Mem) := match x, y with
  | .str a, .str z => match a.cps.toList with
    | [c] => some (.bl (!decide (c ∈ z.cps.toList)), M)
    | _ => none
  | _, _ => none
@[simp] theorem gInS_one {M : Mem} (c : Nat) (z : Str) : gInS M (.str ⟨#[c]⟩) (.str z) = some (.bl (decide (c ∈ z.cps.toList)), M) := nr rfl
@[simp] theorem gNotInS_one {M : Mem} (c : Nat) (z : Str) : gNotInS M (.str ⟨#[c]⟩) (.str z) = some (.bl (!decide (c ∈ z.cps.toList)), M) := nr rfl
/-- truth values only -/
def asBls : List W → Option (List Bool)
  | [] => some []
  | .bl b :: ws => (asBls ws).map (b :: ·)
  | _ :: _ => none
theorem asBls_map : ∀ bs : List Bool, asBls (bs.map W.bl) = some bs
  | [] => rfl
  | b :: bs => by rw [List.map_cons, asBls, asBls_map bs]; rfl
theorem asBls_some : ∀ {ws : List W} {bs : List Bool}, asBls ws = some bs → ws = bs.map W.bl
  | [], bs, h => by cases h; rfl
  | .bl b :: ws, bs, h => by
    rw [asBls] at h
    obtain ⟨cs, h1, rfl⟩ := Option.map_eq_some_iff.mp h
    rw [List.map_cons, ← asBls_some h1]
  | .non :: _, _, h => by cases h
  | .int _ :: _, _, h => by cases h
  | .str _ :: _, _, h => by cases h
  | .tup _ :: _, _, h => by cases h
  | .ref _ :: _, _, h => by cases h
def pAll : Fn := fun ws M => match ws with
  | [.ref n] => match M[n]? with
    | some (.lst ws) => (asBls ws).map fun bs => (.bl (bs.all id), M)
    | _ => none
  | _ => none
@[simp] theorem pAll_ref {M : Mem} (n : Nat) : pAll [.ref n] M = match M[n]? with
    | some (.lst ws) => (asBls ws).map fun bs => (.bl (bs.all id), M)
    | _ => none := nr rfl
def gIsB (M : Mem) (x y : W) : Option (W × Mem) := match x, y with
  | .bl a, .bl b => some (.bl (decide (a = b)), M)
  | _, _ => none
def gNotB (M : Mem) (x y : W) : Option (W × Mem) := match x, y with
  | .bl a, .bl b => some (.bl (!decide (a = b)), M)
  | _, _ => none
@[simp] theorem gIsB_eq {M : Mem} (a b : Bool) : gIsB M (.bl a) (.bl b) = some (.bl (decide (a = b)), M) := nr rfl
@[simp] theorem gNotB_eq {M : Mem} (a b : Bool) : gNotB M (.bl a) (.bl b) = some (.bl (!decide (a = b)), M) := nr rfl
/-- the length of a text -/
def pLenS : Fn := fun ws M => match ws with
  | [.str x] => some (.int x.length, M)
  | _ => none
@[simp] theorem pLenS_eq {M : Mem} (x : Str) : pLenS [.str x] M = some (.int x.length, M) := nr rfl
section
variable {K : KW}
theorem n_lenS : LiftN K (fun xs H Q => ∃ z, xs = [.str z] ∧ z.length ≤ sizeLine ∧ Q (.int z.length) H) pLenS := by
  intro H loc M ws vs w M' Q s r e aft
  unfold pLenS at e
  split at e
  · cases e
    match vs, r with
    | [_], .cons (.str z h1 h2) .nil => exact ⟨z, rfl, by rw [sizeLine_eq]; omega, aft _ H loc s (.int _) .refl (List.prefix_refl _)⟩
  · cases e
theorem l_inS : Lift2 K rInS gInS := by
  intro H loc M x y v u w M' Q s rx ry e aft
  unfold gInS at e
  split at e
  · rename_i a z
    split at e
    · rename_i c hc
      cases e
      cases rx; cases ry
      have : a = ⟨#[c]⟩ := by
        obtain ⟨cs⟩ := a
        congr 1
        exact Array.toList_inj.mp hc
      exact ⟨c, z, by rw [this], rfl, aft _ H loc s (.bl _) .refl (List.prefix_refl _)⟩
    · cases e
  · cases e
theorem l_notInS : Lift2 K rNotInS gNotInS := by
  intro H loc M x y v u w M' Q s rx ry e aft
  unfold gNotInS at e
  split at e
  · rename_i a z
    split at e
    · rename_i c hc
      cases e
      cases rx; cases ry
      have : a = ⟨#[c]⟩ := by
        obtain ⟨cs⟩ := a
        congr 1
        exact Array.toList_inj.mp hc
      exact ⟨c, z, by rw [this], rfl, aft _ H loc s (.bl _) .refl (List.prefix_refl _)⟩
    · cases e
  · cases e
theorem l_isB : Lift2 K rIsB gIsB := by
  intro H loc M x y v u w M' Q s rx ry e aft
  unfold gIsB at e
  split at e
  · cases e
    cases rx; cases ry
    exact ⟨_, _, rfl, rfl, aft _ H loc s (.bl _) .refl (List.prefix_refl _)⟩
  · cases e
theorem l_notB : Lift2 K rNotB gNotB := by
  intro H loc M x y v u w M' Q s rx ry e aft
  unfold gNotB at e
  split at e
  · cases e
    cases rx; cases ry
    exact ⟨_, _, rfl, rfl, aft _ H loc s (.bl _) .refl (List.prefix_refl _)⟩
  · cases e
theorem rds_bls {H : Hp} {loc : List Addr} : ∀ {bs : List Bool} {xs : List V}, Rds K H loc xs (bs.map W.bl) → xs = bs.map V.bl
  | [], [], _ => rfl
  | b :: bs, x :: xs, r => by
    cases r with
    | cons h t =>
      cases h
      rw [rds_bls t]; rfl
theorem n_all : LiftN K (rAll K) pAll := by
  intro H loc M ws vs w M' Q s r e aft
  unfold pAll at e
  split at e
  · split at e
    · rename_i zs hz
      obtain ⟨bs, hb, e⟩ := Option.map_eq_some_iff.mp e
      cases e
      match vs, r with
      | [_], .cons (.ref (a := a) hn) .nil =>
        obtain ⟨xs, q1, q2⟩ := s.ok _ _ _ hn hz
        have e := rds_bls (by rw [← asBls_some hb]; exact q2)
        subst e
        exact ⟨a, bs, rfl, SqL.of q1, aft _ H loc s (.bl _) .refl (List.prefix_refl _)⟩
    · cases e
  · cases e
theorem walk_of_str {H : Hp} {loc : List Addr} {x : Str} (hx : PyData.strOk x = true) : WalkW K H loc (Its x) (charsW x) gdT :=
  fun i H1 loc1 M s ex l _ => ⟨fun w hw => by
    unfold charsW at hw
    rw [List.getElem?_map] at hw
    obtain ⟨c, hc, rfl⟩ := Option.map_eq_some_iff.mp hw
    have hc2 : x.cps[i]? = some c := by rw [← Array.getElem?_toList]; exact hc
    have hi : i < x.cps.size := by
      have := (List.getElem?_eq_some_iff.mp hc).1
      simpa using this
    refine ⟨hi, fun v H2 y => ?_⟩
    obtain ⟨rfl, d, hd, rfl⟩ := y
    rw [hc2] at hd
    cases hd
    have hcl : c < 0x110000 := by
      have h2 := hx
      unfold PyData.strOk at h2
      rw [Array.all_eq_true] at h2
      obtain ⟨h3, h4⟩ := Array.getElem?_eq_some_iff.mp hc2
      have := h2 i h3
      rw [h4] at this
      exact of_decide_eq_true this
    exact ⟨.str _ (by simpa [PyData.strOk] using hcl) (by show 1 ≤ _; decide), s, .refl⟩, fun hl => by
      unfold charsW at hl
      show x.cps.size ≤ i
      simpa using hl⟩
end
section
variable {X : Cx} {tg iter : Expr} {ca : CE}
theorem i_str (h : EV X iter ca) : EI X tg iter (iStr ca) := (pi_str h).mono fun σV H R ⟨loc, σ, M, ws, gd, M', rel, e, aft⟩ => by
  obtain ⟨p, hp, e⟩ := bind_some e
  refine run1 rel hp fun v H1 loc1 rel1 rd1 ex1 l1 => ?_
  split at e
  · rename_i zs hz
    cases e
    rw [hz] at rd1
    cases rd1 with
    | str _ h1 h2 => exact ⟨_, rfl, aft _ H1 loc1 rel1.st ex1 l1 (walk_of_str h1)⟩
  · cases e
/-- a constant of the module -/
def GlobV (mg : Str → Option Value) (x : Str) (v : V) : Prop := ∃ u, mg x = some u ∧ RelV v u
theorem r_globI {x : Str} {i : Int} {pos : Pos} (hg : Gl X x) (hm : GlobV X.mg x (.int i)) (hd : (x == ("__debug__" : Str)) = false := by decide) : EV X (.Name x pos) (eL (.int i)) := by
  obtain ⟨u, h1, h2⟩ := hm
  exact lit_aux (fun _ _ => .int i) (pe_glob hg h1 h2 hd)
theorem r_globS {x z : Str} {pos : Pos} (hg : Gl X x) (hm : GlobV X.mg x (.str z)) (h : PyData.strOk z = true := by decide +kernel) (h2 : z.length ≤ 16777216 := by decide +kernel) (hd : (x == ("__debug__" : Str)) = false := by decide) : EV X (.Name x pos) (eL (.str z)) := by
  obtain ⟨u, h1, h3⟩ := hm
  exact lit_aux (fun _ _ => .str z h h2) (pe_glob hg h1 h3 hd)
end
end BF

set_option Elab.async false
set_option linter.all false
set_option autoImplicit false
set_option maxRecDepth 100000
/-! tuple(range(n)). -/
namespace BF
open PySem PySem.Spec
open PyProof.Rows L2
def pTupRg : Fn := fun ws M => match ws with
  | [.int n] => if n.natAbs ≤ 16777216 then some (.tup (rangeW 0 n.toNat), M) else none
  | _ => none
@[simp] theorem pTupRg_eq {M : Mem} (n : Int) : pTupRg [.int n] M = if n.natAbs ≤ 16777216 then some (.tup (rangeW 0 n.toNat), M) else none := nr rfl
theorem rds_map {K : KW} {H : Hp} {loc : List Addr} {f : Nat → V} {g : Nat → W} (h : ∀ i, Rd K H loc (f i) (g i)) : ∀ l : List Nat, Rds K H loc (l.map f) (l.map g)
  | [] => .nil
  | a :: l => .cons (h a) (rds_map h l)
theorem r_tupRg {X : Cx} {e : Expr} {ca : CE} {p p2 pos pos2 : Pos} (hg : Gl X "tuple") (hm : X.mg "tuple" = none) (hg2 : Gl X "range") (hm2 : X.mg "range" = none) (ha : EV X e ca) (hc : X.calm = true := by rfl)
    (na2 : starEach [e] X.env = (false, eval e X.env) :: starEach [] X.env := by rfl) (na : starEach [.Call (.Name "range" p2) [e] [] pos2] X.env = (false, eval (.Call (.Name "range" p2) [e] [] pos2) X.env) :: starEach [] X.env := by rfl) :
    EV X (.Call (.Name "tuple" p) [.Call (.Name "range" p2) [e] [] pos2] [] pos) (eN pTupRg [ca]) :=
  (pe_tupRg hc hg hm (prg_1 hg2 hm2 ha na2) na).mono fun σV H Q ⟨loc, σ, M, w, M', rel, e, aft⟩ => by
    obtain ⟨q, hq, e⟩ := bind_some e
    obtain ⟨r, hr, hq⟩ := bind_some hq
    obtain ⟨t, ht, hq⟩ := bind_some hq
    cases ht
    cases hq
    refine run1 rel hr fun v H1 loc1 rel1 rd1 ex1 l1 => ?_
    unfold pTupRg at e
    simp only at e
    split at e
    · rename_i n hn
      split at e
      · rename_i hz
        cases e
        obtain ⟨hn1, _⟩ := List.cons.inj hn
        rw [hn1] at rd1
        cases rd1
        refine ⟨n, rfl, ⟨by omega, by omega, by omega, by omega, by omega⟩, fun l hl => ?_⟩
        refine aft_tup rel1.st ?_ hl (aft.after ex1 l1)
        unfold rgV rangeW
        rw [Int.sub_zero]
        exact rds_map (fun i => .int _) _
      · cases e
    · cases e
end BF

set_option Elab.async false
set_option linter.all false
set_option autoImplicit false
set_option maxRecDepth 100000
/-! sum(..) of a list or of a tuple. -/
namespace BF
open PySem PySem.Spec
open PyProof.Rows L2
def rSumT (K : KW) : List V → Hp → VK → Prop := fun vs H Q => ∃ (a : Addr) (ns : List Int), vs = [V.ref a] ∧ SqT K H a (ns.map V.int) ∧ Q (.int ns.sum) H
theorem cr_sumT {X : Cx} (hc : X.calm = true) : CallR X (.builtin "sum") (rSumT X.KW) := by
  intro pins s σ H vs us Q I r h
  obtain ⟨a, ns, rfl, hs, q⟩ := h
  obtain ⟨its, rv, hl, _⟩ := I.tuple hs
  rw [Vals.ref1 r]
  have hi := rv.ints
  obtain ⟨xs, e⟩ := hi.allInts.items
  have hn : numsOf (intItems xs).toList = ns := by rw [← e]; exact hi.numsOf
  rw [nums_intItems] at hn
  rw [e] at hl
  refine PySem.W.ktm_sumG (I.ok.hd hc) hl fun h' tk t' hk => ?_
  rw [preSum_eq, List.take_of_length_le (by simp), hn]
  exact ⟨.int _, H, I.kept hk, ⟨_, rfl⟩, q⟩
theorem cr_sumW {X : Cx} (hc : X.calm = true) : CallR X (.builtin "sum") (fun vs H Q => rSum X.KW vs H Q ∨ rSumT X.KW vs H Q) := by
  intro pins s σ H vs us Q I r h
  rcases h with h | h
  · exact cr_sum hc pins s σ H vs us Q I r h
  · exact cr_sumT hc pins s σ H vs us Q I r h
def pSumW : Fn := fun ws M => match ws with
  | [.tup us] => (asInts us).map fun ns => (.int ns.sum, M)
  | [.ref n] => (intsAt M (.ref n)).map fun ns => (.int ns.sum, M)
  | _ => none
@[simp] theorem pSumW_tup {M : Mem} (us : List W) : pSumW [.tup us] M = (asInts us).map fun ns => (.int ns.sum, M) := nr rfl
@[simp] theorem pSumW_ref {M : Mem} (n : Nat) : pSumW [.ref n] M = (intsAt M (.ref n)).map fun ns => (.int ns.sum, M) := nr rfl
theorem n_sumW {K : KW} : LiftN K (fun vs H Q => rSum K vs H Q ∨ rSumT K vs H Q) pSumW := by
  intro H loc M ws vs w M' Q s r e aft
  unfold pSumW at e
  split at e
  · rename_i us
    obtain ⟨ns, hn, e⟩ := Option.map_eq_some_iff.mp e
    cases e
    match vs, r with
    | [_], .cons (.tup sq rs) .nil =>
      have e := rds_asInts (by rw [← asInts_some hn]; exact rs)
      subst e
      exact .inr ⟨_, ns, rfl, sq, aft _ H loc s (.int _) .refl (List.prefix_refl _)⟩
  · obtain ⟨ns, hn, e⟩ := Option.map_eq_some_iff.mp e
    cases e
    match vs, r with
    | [_], .cons r1 .nil =>
      obtain ⟨a, rfl, sq⟩ := intsAt_seq s r1 hn
      exact .inl ⟨a, ns, rfl, sq, aft _ H loc s (.int _) .refl (List.prefix_refl _)⟩
  · cases e
end BF

set_option Elab.async false
set_option linter.all false
set_option autoImplicit false
set_option maxRecDepth 100000
/-! Dicts whose keys are numbers and texts. -/
namespace BF
open PySem PySem.Spec
open PyProof.Rows L2
theorem hu1 {k : Nat} {A : Around} (hr : Room k A) : A.units + 1 < cLine := by have := hr.un; omega
def keyOf : W → Option Key
  | .int i => some (.inl i)
  | .str x => some (.inr x)
  | _ => none
@[simp] theorem keyOf_keyW (k : Key) : keyOf (keyW k) = some k := by cases k <;> rfl
theorem keyOf_some {w : W} {k : Key} (h : keyOf w = some k) : w = keyW k := by
  cases w <;> simp [keyOf] at h <;> subst h <;> rfl
/-- what stands at the key -/
def valW : List (W × W) → Key → Option W
  | [], _ => none
  | p :: ps, k => if keyOf p.1 = some k then some p.2 else valW ps k
/-- in its place, or at the end -/
def putW (ws : List (W × W)) (k : Key) (w : W) : List (W × W) :=
  if (ws.any fun p => decide (keyOf p.1 = some k)) = true then ws.map fun p => if keyOf p.1 = some k then (p.1, w) else p else ws ++ [(keyW k, w)]
section
variable {K : KW} {H : Hp} {loc : List Addr}
theorem rd_key {v : V} {w : W} {k : Key} (r : Rd K H loc v w) (h : keyOf w = some k) : v = kV k := by
  cases r <;> simp [keyOf] at h <;> subst h <;> rfl
theorem val_rel : ∀ {kvs : List (Key × V)} {ws : List (W × W)} {k : Key}, kvs.map (fun p => keyW p.1) = ws.map (·.1) → Rds K H loc (kvs.map (·.2)) (ws.map (·.2)) →
    (valW ws k = none → valV kvs k = none) ∧ ∀ w, valW ws k = some w → ∃ v, valV kvs k = some v ∧ Rd K H loc v w
  | [], [], k, _, _ => ⟨fun _ => rfl, fun w h => by cases h⟩
  | [], _ :: _, _, h, _ => by cases h
  | _ :: _, [], _, h, _ => by cases h
  | p :: kvs, q :: ws, k, h, r => by
    simp only [List.map_cons, List.cons.injEq] at h
    cases r with
    | cons r1 r2 =>
      obtain ⟨h1, h2⟩ := val_rel (k := k) h.2 r2
      have hk : keyOf q.1 = some p.1 := by rw [← h.1, keyOf_keyW]
      rw [valW, hk]
      by_cases e : p.1 = k
      · rw [if_pos (by rw [e]), valV_pos e]
        exact ⟨fun z => (by cases z), fun w z => (by cases z; exact ⟨_, rfl, r1⟩)⟩
      · rw [if_neg (by simpa using e), valV_neg e]
        exact ⟨h1, h2⟩
end
/-- {} -/
def eDict : CE := fun _ M => some (.ref M.length, M ++ [.dK []])
@[simp] theorem eDict_eq {σ : Sl} {M : Mem} : eDict σ M = some (.ref M.length, M ++ [.dK []]) := nr rfl
/-- d[k] -/
def gGet (M : Mem) (x y : W) : Option (W × Mem) := match x, keyOf y with
  | .ref n, some k => match M[n]? with
    | some (.dK ws) => (valW ws k).map fun w => (w, M)
    | some (.dT .lockF ws) => (valW ws k).map fun w => (w, M)
    | _ => none
  | _, _ => none
section
variable {X : Cx} {a b : Expr} {ca cb : CE} {pos : Pos}
theorem r_dict : EV X (.Dict [] [] pos) eDict := pe_dnewK.mono fun σV H Q ⟨loc, σ, M, w, M', rel, e, aft⟩ => by
  cases e
  intro p hp
  refine aft _ _ (loc ++ [p]) (rel.st.new hp ⟨[], upd_same, rfl, fun _ h => (by cases h), .nil⟩) (.ref (last_get rel.st.len.symm)) (.new hp) (List.prefix_append _ _)
theorem r_get (hu : X.A.units + 1 < cLine) (ha : EV X a ca) (hb : EV X b cb) (hs : NoSl b) : EV X (.Subscript a b pos) (e2 gGet ca cb) := (pe_dget hu ha hb hs).mono fun σV H Q ⟨loc, σ, M, w, M', rel, e, aft⟩ => by
  obtain ⟨p, hp, e⟩ := bind_some e
  obtain ⟨q, hq, e⟩ := bind_some e
  refine run1 rel hp fun v H1 loc1 rel1 rd1 ex1 l1 => run1 rel1 hq fun u H2 loc2 rel2 rd2 ex2 l2 => ?_
  unfold gGet at e
  split at e
  · rename_i n k hn hk
    split at e
    · rename_i ws hw
      obtain ⟨x, hx, e⟩ := Option.map_eq_some_iff.mp e
      cases e
      rw [hn] at rd1
      cases rd1 with
      | ref hl =>
        obtain ⟨kvs, h1, h2, h3, h4⟩ := rel2.st.ok _ _ _ (pre_get l2 hl) hw
        obtain ⟨v2, g1, g2⟩ := (val_rel h2 h4).2 _ hx
        exact ⟨_, v2, rfl, .inl ⟨kvs, k, .inl h1, rd_key rd2 hk, g1.symm⟩, aft _ H2 loc2 rel2.st g2 (ex1.trans ex2) (l1.trans l2)⟩
    · rename_i ws hw
      obtain ⟨x, hx, e⟩ := Option.map_eq_some_iff.mp e
      cases e
      rw [hn] at rd1
      cases rd1 with
      | ref hl =>
        obtain ⟨od, kvs, h1, h2⟩ := rel2.st.ok _ _ _ (pre_get l2 hl) hw
        obtain ⟨v2, g1, g2⟩ := (val_rel h2.keys h2.vs).2 _ hx
        exact ⟨_, v2, rfl, .inl ⟨kvs, k, .inr ⟨od, h1⟩, rd_key rd2 hk, g1.symm⟩, aft _ H2 loc2 rel2.st g2 (ex1.trans ex2) (l1.trans l2)⟩
    · cases e
  · cases e
/-- a display of three texts -/
def eDisp3 (k1 v1 k2 v2 k3 v3 : Str) : CE := fun _ M => some (.ref M.length, M ++ [.dK [(.str k1, .str v1), (.str k2, .str v2), (.str k3, .str v3)]])
@[simp] theorem eDisp3_eq {σ : Sl} {M : Mem} (k1 v1 k2 v2 k3 v3 : Str) : eDisp3 k1 v1 k2 v2 k3 v3 σ M = some (.ref M.length, M ++ [.dK [(.str k1, .str v1), (.str k2, .str v2), (.str k3, .str v3)]]) := nr rfl
theorem upd_again {H : Hp} {p : Addr} {a b : HO} : upd (upd H p a) p b = upd H p b := by
  funext x
  by_cases h : x = p
  · subst h; rw [upd_same, upd_same]
  · rw [upd_ne h, upd_ne h, upd_ne h]
theorem merge3 {k1 k2 k3 : Str} {v1 v2 v3 : V} (h12 : k1 ≠ k2) (h13 : k1 ≠ k3) (h23 : k2 ≠ k3) : mergeK [] [(.inr k1, v1), (.inr k2, v2), (.inr k3, v3)] = [((.inr k1 : Key), v1), (.inr k2, v2), (.inr k3, v3)] := by
  have e12 : ¬ ((Sum.inr k1 : Key) = Sum.inr k2) := fun z => h12 (Sum.inr.inj z)
  have e13 : ¬ ((Sum.inr k1 : Key) = Sum.inr k3) := fun z => h13 (Sum.inr.inj z)
  have e23 : ¬ ((Sum.inr k2 : Key) = Sum.inr k3) := fun z => h23 (Sum.inr.inj z)
  simp [mergeK, putK, h12, h13, h23]
theorem r_disp3 {k1 v1 k2 v2 k3 v3 : Str} {i1 i2 i3 j1 j2 j3 p1 p2 p3 q1 q2 q3} (h12 : k1 ≠ k2 := by decide +kernel) (h13 : k1 ≠ k3 := by decide +kernel) (h23 : k2 ≠ k3 := by decide +kernel)
    (o1 : KeyOk (.inr k1) := by exact ⟨by decide +kernel, by decide +kernel⟩) (o2 : KeyOk (.inr k2) := by exact ⟨by decide +kernel, by decide +kernel⟩) (o3 : KeyOk (.inr k3) := by exact ⟨by decide +kernel, by decide +kernel⟩)
    (w1 : KeyOk (.inr v1) := by exact ⟨by decide +kernel, by decide +kernel⟩) (w2 : KeyOk (.inr v2) := by exact ⟨by decide +kernel, by decide +kernel⟩) (w3 : KeyOk (.inr v3) := by exact ⟨by decide +kernel, by decide +kernel⟩) :
    EV X (.Dict [some (.Constant (.str k1) i1 p1), some (.Constant (.str k2) i2 p2), some (.Constant (.str k3) i3 p3)] [.Constant (.str v1) j1 q1, .Constant (.str v2) j2 q2, .Constant (.str v3) j3 q3] pos) (eDisp3 k1 v1 k2 v2 k3 v3) :=
  (pe_disp (pps_cons pe_str pe_str (pps_cons pe_str pe_str (pps_cons pe_str pe_str pps_nil))) rfl rfl (by simp) (by simp)).mono fun σV H Q ⟨loc, σ, M, w, M', rel, e, aft⟩ => by
    cases e
    intro p hp
    refine ⟨upd_same, [(.inr k1, .str v1), (.inr k2, .str v2), (.inr k3, .str v3)], rfl, by simp, ?_⟩
    rw [upd_again, merge3 h12 h13 h23]
    refine aft _ _ (loc ++ [p]) (rel.st.new hp ⟨_, upd_same, rfl, fun q hq => ?_, .cons (.str _ w1.1 w1.2) (.cons (.str _ w2.1 w2.2) (.cons (.str _ w3.1 w3.2) .nil))⟩) (.ref (last_get rel.st.len.symm)) (.new hp) (List.prefix_append _ _)
    rcases List.mem_cons.mp hq with rfl | hq
    · exact o1
    rcases List.mem_cons.mp hq with rfl | hq
    · exact o2
    rw [List.mem_singleton] at hq
    rw [hq]; exact o3
end
end BF

set_option Elab.async false
set_option linter.all false
set_option autoImplicit false
set_option maxRecDepth 100000
/-! Dicts whose keys are nested tuples. -/
namespace BF
open PySem PySem.Spec
open PyProof.Rows L2
/-- a tuple as such a key -/
def keyT (w : W) : Option NestedKey := match w with
  | .tup ws => match keyNs ws with
    | some ks => if (NestedKey.tup ks).depth ≤ 8 then some (.tup ks) else none
    | none => none
  | _ => none
theorem keyT_some {w : W} {k : NestedKey} (h : keyT w = some k) : keyN w = some k ∧ k.depth ≤ 8 ∧ ∃ ws, w = .tup ws := by
  unfold keyT at h
  split at h
  · split at h
    · rename_i ks hk
      split at h
      · rename_i hd
        cases h
        exact ⟨by rw [keyN, hk]; rfl, hd, _, rfl⟩
      · cases h
    · cases h
  · cases h
/-- what stands at the key -/
def valN (ws : List (W × W)) (k : NestedKey) : Option W := (ws.find? fun p => decide (keyN p.1 = some k)).map (·.2)
/-- in its place, or at the end -/
def putN (ws : List (W × W)) (k : NestedKey) (x w : W) : List (W × W) :=
  if (valN ws k).isSome = true then ws.map fun p => if keyN p.1 = some k then (p.1, w) else p else ws ++ [(x, w)]
def valE (es : NE) (k : NestedKey) : Option V := (es.find? fun e => decide (e.1 = k)).map (·.2.2)
def putE (es : NE) (k : NestedKey) (b : Addr) (v : V) : NE :=
  if (valE es k).isSome = true then es.map fun e => if e.1 = k then (e.1, e.2.1, v) else e else es ++ [(k, b, v)]
theorem paired_get? {α β : Type} {G : α → β → Prop} {l₁ : List α} {l₂ : List β} (h : Paired G l₁ l₂) {i : Nat} {b : β} (e : l₂[i]? = some b) : ∃ a, l₁[i]? = some a ∧ G a b := by
  induction h generalizing i with
  | nil => simp at e
  | cons r t ih =>
    cases i with
    | zero => simp only [List.getElem?_cons_zero, Option.some.injEq] at e; subst e; exact ⟨_, rfl, r⟩
    | succ i => simp only [List.getElem?_cons_succ] at e ⊢; exact ih e
section
variable {X : Cx} {pins : List (Addr × Obj)} {σ : L2.St} {H : Hp} {s : Shared} {loc : List Addr}
mutual
theorem nest_is (I : Inv X pins σ H s) : ∀ {w : W} {v : V} {u : Value} {k : NestedKey}, Rd X.KW H loc v w → keyN w = some k → RelV v u → NestedIs s.heap k u
  | .non, _, _, _, r, e, q => by cases r; cases e; cases q; exact .none
  | .bl b, _, _, _, r, e, q => by cases r; cases e; cases q; exact .bool rfl
  | .int i, _, _, _, r, e, q => by cases r; cases e; obtain ⟨t, rfl⟩ := q; exact .int i t
  | .str x, _, _, _, r, e, q => by cases r; cases e; obtain ⟨t, rfl⟩ := q; exact .text x t
  | .tup ws, _, _, _, r, e, q => by
    cases r with
    | tup sq rs =>
      rw [keyN] at e
      obtain ⟨ks, hk, rfl⟩ := Option.map_eq_some_iff.mp e
      cases (show _ = Value.ref _ from q)
      obtain ⟨its, rv, ⟨o, ho, hc, n, hd⟩, _⟩ := I.tuple sq
      exact .tup ho hc hd (by rw [List.toList_toArray]; exact nest_all I rs hk rv)
  | .ref _, _, _, _, r, e, q => by cases e
theorem nest_all (I : Inv X pins σ H s) : ∀ {ws : List W} {vs : List V} {us : List Value} {ks : List NestedKey}, Rds X.KW H loc vs ws → keyNs ws = some ks → Vals vs us → NestedAll s.heap ks us
  | [], _, _, _, r, e, q => by cases r; cases e; cases q; exact .nil
  | w :: ws, _, _, _, r, e, q => by
    cases r with
    | cons r1 r2 =>
      cases q with
      | cons q1 q2 =>
        rw [keyNs] at e
        split at e
        · rename_i k ks h1 h2
          cases e
          exact .cons (nest_is I r1 h1 q1) (nest_all I r2 h2 q2)
        · cases e
end
theorem nest_key (I : Inv X pins σ H s) {w : W} {v : V} {u : Value} {k : NestedKey} (r : Rd X.KW H loc v w) (h : keyT w = some k) (q : RelV v u) : ∃ a, v = .ref a ∧ u = .ref a ∧ (nestedKind X.prog X.w).is s.heap k a := by
  obtain ⟨h1, h2, ws, rfl⟩ := keyT_some h
  have n := nest_is I r h1 q
  cases r with
  | @tup a xs _ sq rs =>
    cases (show _ = Value.ref _ from q)
    exact ⟨a, rfl, rfl, n, h2⟩
theorem nest_dict (I : Inv X pins σ H s) {es : NE} {ws : List (W × W)} {a : Addr} (n : NestOk X.KW H loc es ws) (e : L2.Rd H a (nestO X.w a es)) :
    es.length ≤ sizeLine ∧ (a == sysModules) = false ∧ ∃ xs, NP es xs ∧ s.heap.DictOfH (nestedKind X.prog X.w) a xs := by
  have ob : ObjOk X.prog X.w H s.heap a (nestO X.w a es) := rd_of I.hok e
  obtain ⟨⟨z, hd, xs, np, o, en, ep, h1, h2, h3, h4, h5⟩, _⟩ := ob
  refine ⟨z, hd, xs, np, o, en, ep, h1, h2, h3, h4, fun x hx => ?_, h5⟩
  obtain ⟨i, hi⟩ := List.getElem?_of_mem hx
  obtain ⟨q, hq, e1, e2, _⟩ := paired_get? np hi
  have k1 : (es.map fun e => some e.1)[i]? = some (some q.1) := by rw [List.getElem?_map, hq]; rfl
  have k2 : (es.map fun e => V.ref e.2.1)[i]? = some (.ref q.2.1) := by rw [List.getElem?_map, hq]; rfl
  obtain ⟨w, hw, rw'⟩ := n.ks.get' k2
  rw [n.keys, List.getElem?_map] at k1
  rw [List.getElem?_map] at hw
  cases hp : ws[i]? with
  | none => rw [hp] at hw; cases hw
  | some p =>
    rw [hp] at k1 hw
    have k3 : keyN p.1 = some q.1 := Option.some.inj k1
    have k4 : p.1 = w := Option.some.inj hw
    rw [← k4] at rw'
    have := nest_is I rw' k3 (u := .ref q.2.1) rfl
    rw [e1, e2] at this
    exact ⟨this, by rw [← e1]; exact n.dep q (List.mem_of_getElem? hq)⟩
theorem np_val {es : NE} {xs : List (NestedKey × Addr × Value)} (r : NP es xs) (k : NestedKey) : RelO (valE es k) ((atKey xs k).map (·.2)) := by
  unfold valE atKey
  induction r with
  | nil => trivial
  | @cons p q ps qs h t ih =>
    obtain ⟨e1, e2, e3⟩ := h
    by_cases e : p.1 = k
    · rw [List.find?_cons_of_pos (by simpa using e), List.find?_cons_of_pos (by rw [← e1]; simpa using e)]
      exact e3
    · rw [List.find?_cons_of_neg (by simpa using e), List.find?_cons_of_neg (by rw [← e1]; simpa using e)]
      exact ih
theorem np_put {es : NE} {xs : List (NestedKey × Addr × Value)} (r : NP es xs) (k : NestedKey) (b : Addr) {v : V} {u : Value} (q : RelV v u) : NP (putE es k b v) (storedH xs k b u) := by
  unfold putE storedH
  have e : (valE es k).isSome = (atKey xs k).isSome := by
    have := np_val r k
    rw [this.isSome_eq, Option.isSome_map]
  rw [e]
  split
  · rename_i hz
    clear e hz
    induction r with
    | nil => exact .nil
    | @cons p x ps qs h t ih =>
      rw [List.map_cons, List.map_cons]
      refine .cons ?_ ih
      obtain ⟨e1, e2, e3⟩ := h
      unfold putAt
      by_cases e : p.1 = k
      · rw [if_pos e, if_pos (by rw [← e1]; exact e)]; exact ⟨e1, e2, q⟩
      · rw [if_neg e, if_neg (by rw [← e1]; exact e)]; exact ⟨e1, e2, e3⟩
  · exact Paired.snoc r ⟨rfl, rfl, q⟩
theorem ok_val {es : NE} {ws : List (W × W)} {K : KW} (n : NestOk K H loc es ws) (k : NestedKey) : (valN ws k = none → valE es k = none) ∧ ∀ w, valN ws k = some w → ∃ v, valE es k = some v ∧ Rd K H loc v w := by
  have h1 := n.keys
  have h4 := n.vs
  clear n
  unfold valN valE
  induction es generalizing ws with
  | nil =>
    cases ws with
    | nil => exact ⟨fun _ => rfl, fun w h => (by cases h)⟩
    | cons _ _ => cases h1
  | cons e es ih =>
    cases ws with
    | nil => cases h1
    | cons p ws =>
      simp only [List.map_cons, List.cons.injEq] at h1 h4
      cases h4 with
      | cons r1 r2 =>
        by_cases he : e.1 = k
        · have hp : keyN p.1 = some k := by rw [← h1.1, he]
          rw [List.find?_cons_of_pos (by simpa using hp), List.find?_cons_of_pos (by simpa using he)]
          exact ⟨fun z => (by cases z), fun w z => (by cases z; exact ⟨_, rfl, r1⟩)⟩
        · have hp : ¬ keyN p.1 = some k := by rw [← h1.1]; simpa using he
          rw [List.find?_cons_of_neg (by simpa using hp), List.find?_cons_of_neg (by simpa using he)]
          exact ih h1.2 r2
theorem rds_map2 {K : KW} {es : NE} {ws : List (W × W)} {k : NestedKey} {v : V} {w : W} (r : Rd K H loc v w) (hk : es.map (fun e => some e.1) = ws.map (fun p => keyN p.1)) (h : Rds K H loc (es.map fun e => e.2.2) (ws.map (·.2))) :
    Rds K H loc ((es.map fun e => if e.1 = k then (e.1, e.2.1, v) else e).map fun e => e.2.2) ((ws.map fun p => if keyN p.1 = some k then (p.1, w) else p).map (·.2)) := by
  induction es generalizing ws with
  | nil =>
    cases ws with
    | nil => exact .nil
    | cons _ _ => cases hk
  | cons e es ih =>
    cases ws with
    | nil => cases hk
    | cons p ws =>
      simp only [List.map_cons, List.cons.injEq] at hk h ⊢
      cases h with
      | cons r1 r2 =>
        refine .cons ?_ (ih hk.2 r2)
        by_cases he : e.1 = k
        · rw [if_pos he, if_pos (by rw [← hk.1, he])]; exact r
        · rw [if_neg he, if_neg (by rw [← hk.1]; simpa using he)]; exact r1
theorem ok_put {K : KW} {es : NE} {ws : List (W × W)} {k : NestedKey} {b : Addr} {v : V} {x w : W} (n : NestOk K H loc es ws) (hx : keyN x = some k) (hd : k.depth ≤ 8) (rx : Rd K H loc (.ref b) x) (rv : Rd K H loc v w) : NestOk K H loc (putE es k b v) (putN ws k x w) := by
  have e : (valE es k).isSome = (valN ws k).isSome := by
    obtain ⟨a1, a2⟩ := ok_val n k
    cases h : valN ws k with
    | none => rw [a1 h]; rfl
    | some y => obtain ⟨v, hv, _⟩ := a2 y h; rw [hv]; rfl
  unfold putE putN
  rw [e]
  split
  · have e1 : (fun e : NestedKey × Addr × V => (if e.1 = k then (e.1, e.2.1, v) else e).1) = fun e => e.1 := by funext e; split <;> rfl
    have e2 : (fun e : NestedKey × Addr × V => (if e.1 = k then (e.1, e.2.1, v) else e).2.1) = fun e => e.2.1 := by funext e; split <;> rfl
    have e3 : (fun p : W × W => (if keyN p.1 = some k then (p.1, w) else p).1) = fun p => p.1 := by funext p; split <;> rfl
    refine ⟨?_, fun q hq => ?_, ?_, rds_map2 rv n.keys n.vs⟩
    · rw [List.map_map, List.map_map]
      have := n.keys
      refine Eq.trans (List.map_congr_left fun e _ => ?_) (this.trans (List.map_congr_left fun p _ => ?_))
      · exact congrArg some (congrFun e1 e)
      · exact congrArg keyN (congrFun e3 p).symm
    · obtain ⟨q0, hq0, rfl⟩ := List.mem_map.mp hq
      have := n.dep q0 hq0
      split <;> exact this
    · have := n.ks
      rw [List.map_map, List.map_map]
      rw [show ((fun e : NestedKey × Addr × V => V.ref e.2.1) ∘ fun e => if e.1 = k then (e.1, e.2.1, v) else e) = fun e => V.ref e.2.1 from funext fun e => congrArg V.ref (congrFun e2 e)]
      rw [show ((fun p : W × W => p.1) ∘ fun p => if keyN p.1 = some k then (p.1, w) else p) = fun p => p.1 from e3]
      exact this
  · refine ⟨?_, fun q hq => ?_, ?_, ?_⟩
    · rw [List.map_append, List.map_append, n.keys]
      simp only [List.map_cons, List.map_nil, hx]
    · rcases List.mem_append.mp hq with hq | hq
      · exact n.dep q hq
      · rw [List.mem_singleton] at hq; subst hq; exact hd
    · rw [List.map_append, List.map_append]
      exact n.ks.append (.cons rx .nil)
    · rw [List.map_append, List.map_append]
      exact n.vs.append (.cons rv .nil)
theorem putE_length (es : NE) (k : NestedKey) (b : Addr) (v : V) : (putE es k b v).length ≤ es.length + 1 := by
  unfold putE
  split <;> simp
theorem nest_new {P : Program} {w : World} {H' : Hp} {h' : Heap} {a : Addr} {es : NE} {xs : List (NestedKey × Addr × Value)} (z : es.length ≤ sizeLine) (hd : (a == sysModules) = false) (np : NP es xs) (dd : h'.DictOfH (nestedKind P w) a xs) : ObjOk P w H' h' a (nestO w a es) := by
  obtain ⟨o, en, ep, h1, h2, h3, h4, _, h5⟩ := dd
  exact ⟨⟨z, hd, xs, np, o, en, ep, h1, h2, h3, h4, h5⟩, ⟨o, h1⟩, fun g1 g2 ⟨z, hd, xs, np, o, en, ep, h1, h2, h3, h4, h5⟩ k => ⟨z, hd, xs, np, o, en, ep, k _ h1, h2, h3, h4, h5⟩⟩
end
end BF

set_option Elab.async false
set_option linter.all false
set_option autoImplicit false
set_option maxRecDepth 100000
/-! Dicts whose keys are nested tuples: the rules. -/
namespace BF
open PySem PySem.Spec
open PyProof.Rows L2
/-- what the dict at a holds at the key y -/
def NGet (K : KW) (H : Hp) (a : Addr) (y : V) (o : Option V) : Prop := ∃ loc es ws x k, L2.Rd H a (nestO K.wd a es) ∧ NestOk K H loc es ws ∧ Rd K H loc y x ∧ keyT x = some k ∧ o = valE es k
/-- a is such a dict -/
def NIs (K : KW) (H : Hp) (a : Addr) : Prop := ∃ loc es ws, L2.Rd H a (nestO K.wd a es) ∧ NestOk K H loc es ws
section
variable {X : Cx} {pins : List (Addr × Obj)} {σ : L2.St} {H : Hp} {s : Shared} {a : Addr} {y v d : V} {u r : Value} {o : Option V} {E : Value → Shared → Prop}
theorem nget_at (I : Inv X pins σ H s) (g : NGet X.KW H a y o) (ry : RelV y u) : ∃ b k xs, u = .ref b ∧ (nestedKind X.prog X.w).is s.heap k b ∧ (a == sysModules) = false ∧ s.heap.DictOfH (nestedKind X.prog X.w) a xs ∧ RelO o ((atKey xs k).map (·.2)) := by
  obtain ⟨loc, es, ws, x, k, h1, h2, h3, h4, rfl⟩ := g
  obtain ⟨b, _, rfl, hk⟩ := nest_key I h3 h4 ry
  obtain ⟨_, hd, xs, np, dd⟩ := nest_dict I h2 h1
  exact ⟨b, k, xs, rfl, hk, hd, dd, np_val np k⟩
theorem room_nest {A : Around} (hu : A.units + 64 < cLine) : (nestedKind X.prog X.w).room A.in1 := by
  show A.units + 1 + 8 < cLine
  omega
theorem n_getItem {Q : Value → Shared → Prop} (hu : X.A.units + 64 < cLine) (I : Inv X pins σ H s) (g : NGet X.KW H a y (some v)) (ry : RelV y u) (h : ∀ w' s', Inv X pins σ H s' → RelV v w' → Q w' s') :
    s.TypeIs (.ref a) "dict" ∧ wpAny (model X.prog X.w) X.A (getItem (.ref a) u) Q E s := by
  obtain ⟨b, k, xs, rfl, hk, hd, dd, ro⟩ := nget_at I g ry
  obtain ⟨w', hw, rw'⟩ := RelO.some_of ro
  obtain ⟨p, hp, hp2⟩ := Option.map_eq_some_iff.mp hw
  refine ⟨dd.typeIs, wpAny_getItem_heap (room_nest hu) hk dd hp ?_⟩
  rw [hp2]
  exact h w' _ (I.tok _) rw'
def rNIn (K : KW) : R2 := fun x z H Q => ∃ a o, z = .ref a ∧ NGet K H a x o ∧ Q (.bl o.isSome) H
def rNNotIn (K : KW) : R2 := fun x z H Q => ∃ a o, z = .ref a ∧ NGet K H a x o ∧ Q (.bl (!o.isSome)) H
theorem op_nin (hu : X.A.units + 64 < cLine) : OpR X (compareOp .In) (rNIn X.KW) := by
  intro pins s σ H x z v u Q I rx rz h
  obtain ⟨a, o, rfl, g, q⟩ := h
  cases (show u = Value.ref a from rz)
  obtain ⟨b, k, xs, rfl, hk, hd, dd, ro⟩ := nget_at I g rx
  refine wpAny_in_heap (room_nest hu) hk hd dd ⟨.bl o.isSome, H, I.tok _, ?_, q⟩
  have := ro.isSome_eq
  rw [Option.isSome_map] at this
  rw [this]
  rfl
theorem op_nnotin (hu : X.A.units + 64 < cLine) : OpR X (compareOp .NotIn) (rNNotIn X.KW) := by
  intro pins s σ H x z v u Q I rx rz h
  obtain ⟨a, o, rfl, g, q⟩ := h
  cases (show u = Value.ref a from rz)
  obtain ⟨b, k, xs, rfl, hk, hd, dd, ro⟩ := nget_at I g rx
  refine wpAny_notIn_heap (room_nest hu) hk hd dd ⟨.bl (!o.isSome), H, I.tok _, ?_, q⟩
  have := ro.isSome_eq
  rw [Option.isSome_map] at this
  rw [this]
  rfl
/-- a[y] = v -/
def rNPut (K : KW) : TSet := fun x y v H Q => ∃ a es k b ws loc z, x = .ref a ∧ y = .ref b ∧ H a = some (nestO K.wd a es) ∧ NestOk K H loc es ws ∧ Rd K H loc y z ∧ keyT z = some k ∧ es.length < sizeLine ∧ Q (upd H a (nestO K.wd a (putE es k b v)))
theorem o_nput (hu : X.A.units + 64 < cLine) : PSet X (rNPut X.KW) := by
  intro pins s σ H o i v ov iv u Q I ro ri rv h
  obtain ⟨a, es, k, b, ws, loc, z, rfl, rfl, e, n, rz, hz, hl, q⟩ := h
  cases (show ov = Value.ref a from ro)
  cases (show iv = Value.ref b from ri)
  obtain ⟨b', eb, eb2, hk⟩ := nest_key I rz hz (u := .ref b) rfl
  cases eb
  obtain ⟨hz2, hd, xs, np, dd⟩ := nest_dict I n (.inl e)
  have hlx : xs.length ≤ sizeLine := by rw [← Paired.length np]; exact hz2
  refine wpAny_setItem_heap (hsz := hlx) (room_nest hu) hk dd fun h' dd' hs => ⟨_, ?_, q⟩
  have hl2 : (putE es k b v).length ≤ sizeLine := by have := putE_length es k b v; omega
  have he : ∃ q, h'.get? a = some q := let ⟨q, _, _, hq, _⟩ := dd'; ⟨q, hq⟩
  exact d_write I (by rw [e]; exact True.intro) hs he (nest_new hl2 hd (np_put np k b rv) dd')
/-- a.get(y, d) -/
theorem n_get2 {Q : Value → Shared → Prop} (hu : X.A.units + 64 < cLine) (I : Inv X pins σ H s) (g : NGet X.KW H a y o) (ry : RelV y u) (rd : RelV d r) (h : ∀ w' s', Inv X pins σ H s' → RelV (o.getD d) w' → Q w' s') :
    wpAny (model X.prog X.w) X.A (call (.builtin "dict.get") [.ref a, u, r]) Q E s := by
  obtain ⟨b, k, xs, rfl, hk, hd, dd, ro⟩ := nget_at I g ry
  exact call_meetsIn PySem.F.slot_dict_get dd.typeIs PySem.F.entry_dict_get (PySem.F.args_dict_get_3 _ _ _) (meetsH_dict_get_default (nestedKind X.prog X.w) a b hd r) ⟨room_nest hu, k, xs, hk, dd, h _ _ (I.tok _) (ro.getD rd)⟩
theorem n_get1 {Q : Value → Shared → Prop} (hu : X.A.units + 64 < cLine) (I : Inv X pins σ H s) (g : NGet X.KW H a y o) (ry : RelV y u) (h : ∀ w' s', Inv X pins σ H s' → RelV (o.getD .non) w' → Q w' s') :
    wpAny (model X.prog X.w) X.A (call (.builtin "dict.get") [.ref a, u]) Q E s := by
  obtain ⟨b, k, xs, rfl, hk, hd, dd, ro⟩ := nget_at I g ry
  exact call_meetsIn PySem.F.slot_dict_get dd.typeIs PySem.F.entry_dict_get (PySem.F.args_dict_get_2 _ _) (meetsH_dict_get (nestedKind X.prog X.w) a b hd) ⟨room_nest hu, k, xs, hk, dd, h _ _ (I.tok _) (ro.getD rfl)⟩
theorem nis_at (I : Inv X pins σ H s) (d : NIs X.KW H a) : s.TypeIs (.ref a) "dict" ∧ (∀ b, Value.ref a = .ref b → ∃ ob, s.heap.get? b = some ob ∧ ob.dict = none) := by
  obtain ⟨loc, es, ws, h1, h2⟩ := d
  obtain ⟨_, hd, xs, np, dd⟩ := nest_dict I h2 h1
  refine ⟨dd.typeIs, fun b q => ?_⟩
  cases q
  obtain ⟨ob, _, _, g1, g2, _⟩ := dd
  exact ⟨ob, g1, g2.2.1⟩
end

/-! ### the plain operations -/
/-- the entries of such a dict, walked or not -/
def nestAt (M : Mem) (n : Nat) : Option (List (W × W)) := match M[n]? with
  | some (.dT .nest ws) => some ws
  | some (.dT .lockN ws) => some ws
  | _ => none
def gGetN (M : Mem) (x y : W) : Option (W × Mem) := match x, keyT y with
  | .ref n, some k => ((nestAt M n).bind fun ws => valN ws k).map fun w => (w, M)
  | _, _ => none
def gInN (M : Mem) (x y : W) : Option (W × Mem) := match y, keyT x with
  | .ref n, some k => (nestAt M n).map fun ws => (.bl (valN ws k).isSome, M)
  | _, _ => none
def gNotInN (M : Mem) (x y : W) : Option (W × Mem) := match y, keyT x with
  | .ref n, some k => (nestAt M n).map fun ws => (.bl (!(valN ws k).isSome), M)
  | _, _ => none
def putNM (M : Mem) (o x w : W) : Option Mem := match o, keyT x with
  | .ref n, some k => match M[n]? with
    | some (.dT .nest ws) => if ws.length < 16777216 then some (M.set n (.dT .nest (putN ws k x w))) else none
    | _ => none
  | _, _ => none
/-- o.get(k, d) -/
def eGetN2 (o k d : CE) : CE := fun σ M => (o σ M).bind fun p => match p.1 with
  | .ref n => if (nestAt p.2 n).isSome = true then (k σ p.2).bind fun q => (d σ q.2).bind fun r => match keyT q.1 with
    | some kk => (nestAt r.2 n).map fun ws => ((valN ws kk).getD r.1, r.2)
    | none => none
    else none
  | _ => none
/-- o.get(k) -/
def eGetN1 (o k : CE) : CE := fun σ M => (o σ M).bind fun p => match p.1 with
  | .ref n => if (nestAt p.2 n).isSome = true then (k σ p.2).bind fun q => match keyT q.1 with
    | some kk => (nestAt q.2 n).map fun ws => ((valN ws kk).getD .non, q.2)
    | none => none
    else none
  | _ => none
def eDictN : CE := fun _ M => some (.ref M.length, M ++ [.dT .nest []])
@[simp] theorem eDictN_eq {σ : Sl} {M : Mem} : eDictN σ M = some (.ref M.length, M ++ [.dT .nest []]) := nr rfl
/-- {k: v} -/
def eNDisp (k v : CE) : CE := fun σ M => (k σ (M ++ [.dT .nest []])).bind fun p => (v σ p.2).bind fun q => match keyT p.1 with
  | some kk => match q.2[M.length]? with
    | some (.dT .nest []) => some (.ref M.length, q.2.set M.length (.dT .nest [(p.1, q.1)]))
    | _ => none
  | none => none
section
variable {K : KW} {H : Hp} {loc : List Addr} {M : Mem}
theorem nestAt_ok (s : Store K H loc M) {n : Nat} {a : Addr} {ws : List (W × W)} (ha : loc[n]? = some a) (h : nestAt M n = some ws) : ∃ es, L2.Rd H a (nestO K.wd a es) ∧ NestOk K H loc es ws := by
  unfold nestAt at h
  split at h
  · rename_i ws' hw
    cases h
    obtain ⟨es, h1, h2⟩ := s.ok n a _ ha hw
    exact ⟨es, .inl h1, h2⟩
  · rename_i ws' hw
    cases h
    obtain ⟨o, es, h1, h2⟩ := s.ok n a _ ha hw
    exact ⟨es, .inr ⟨o, h1⟩, h2⟩
  · cases h
theorem nget_of (s : Store K H loc M) {n : Nat} {a : Addr} {ws : List (W × W)} {y : V} {x : W} {k : NestedKey} (ha : loc[n]? = some a) (h : nestAt M n = some ws) (ry : Rd K H loc y x) (hk : keyT x = some k) :
    ∃ o, NGet K H a y o ∧ (valN ws k = none → o = none) ∧ ∀ w, valN ws k = some w → ∃ v, o = some v ∧ Rd K H loc v w := by
  obtain ⟨es, h1, h2⟩ := nestAt_ok s ha h
  obtain ⟨h3, h4⟩ := ok_val h2 k
  exact ⟨valE es k, ⟨loc, es, ws, x, k, h1, h2, ry, hk, rfl⟩, h3, h4⟩
theorem nget_isSome {o : Option V} {w : Option W} (h1 : w = none → o = none) (h2 : ∀ x, w = some x → ∃ v, o = some v ∧ Rd K H loc v x) : o.isSome = w.isSome := by
  cases w with
  | none => rw [h1 rfl]; rfl
  | some x => obtain ⟨v, rfl, _⟩ := h2 x rfl; rfl
theorem nget_getD {o : Option V} {w : Option W} {d : V} {e : W} (h1 : w = none → o = none) (h2 : ∀ x, w = some x → ∃ v, o = some v ∧ Rd K H loc v x) (h3 : Rd K H loc d e) : Rd K H loc (o.getD d) (w.getD e) := by
  cases w with
  | none => rw [h1 rfl]; exact h3
  | some x => obtain ⟨v, rfl, r⟩ := h2 x rfl; exact r
theorem l_inN : Lift2 K (rNIn K) gInN := by
  intro H loc M x y v u w M' Q s rx ry e aft
  unfold gInN at e
  split at e
  · rename_i n k hk
    obtain ⟨ws, hw, e⟩ := Option.map_eq_some_iff.mp e
    cases e
    cases ry with
    | ref ha =>
      obtain ⟨o, g, g1, g2⟩ := nget_of s ha hw rx hk
      refine ⟨_, o, rfl, g, ?_⟩
      rw [nget_isSome g1 g2]
      exact aft _ H loc s (.bl _) .refl (List.prefix_refl _)
  · cases e
theorem l_notInN : Lift2 K (rNNotIn K) gNotInN := by
  intro H loc M x y v u w M' Q s rx ry e aft
  unfold gNotInN at e
  split at e
  · rename_i n k hk
    obtain ⟨ws, hw, e⟩ := Option.map_eq_some_iff.mp e
    cases e
    cases ry with
    | ref ha =>
      obtain ⟨o, g, g1, g2⟩ := nget_of s ha hw rx hk
      refine ⟨_, o, rfl, g, ?_⟩
      rw [nget_isSome g1 g2]
      exact aft _ H loc s (.bl _) .refl (List.prefix_refl _)
  · cases e
theorem p_nput : LiftP K (rNPut K) putNM := by
  intro H loc M x y z o i v M' Q s rx ry rz e h
  unfold putNM at e
  split at e
  · rename_i n k hk
    split at e
    · rename_i ws hw
      split at e
      · rename_i hl
        cases e
        cases rx with
        | @ref a _ ha =>
          obtain ⟨es, h1, h2⟩ := s.ok n a _ ha hw
          obtain ⟨kn, kd, us, rfl⟩ := keyT_some hk
          cases ry with
          | @tup b xs _ sq rs =>
            have hle : es.length = ws.length := by
              have := congrArg List.length h2.keys
              simpa using this
            refine ⟨a, es, k, b, ws, loc, .tup us, rfl, rfl, h1, h2, .tup sq rs, hk, by rw [hle]; exact hl, ?_⟩
            have ex : Ext K H (upd H a (nestO K.wd a (putE es k b v))) := .upd h1 trivial
            refine h _ loc (s.put ha hw rfl rfl ⟨_, upd_same, (ok_put h2 kn kd (.tup sq rs) rz).mono ex (List.prefix_refl _)⟩) ex (List.prefix_refl _)
      · cases e
    · cases e
  · cases e
end
section
variable {X : Cx} {a b c : Expr} {ca cb cc : CE} {pos apos cpos : Pos}
theorem r_getN (hu : X.A.units + 64 < cLine) (ha : EV X a ca) (hb : EV X b cb) (hs : NoSl b) : EV X (.Subscript a b pos) (e2 gGetN ca cb) := ⟨fun pins s σV H Q I ⟨loc, σ, M, w, M', rel, e, aft⟩ => by
  obtain ⟨p, hp, e⟩ := bind_some e
  obtain ⟨q, hq, e⟩ := bind_some e
  refine subD_of PySem.F.slot_dict_getitem.lookup hs (thn (ha.run pins s σV H (fun x H1 => TC X.KW cb σV H1 fun y H2 => ∃ a v, x = .ref a ∧ NGet X.KW H2 a y (some v) ∧ Q v H2) I ?_) fun u s1 ⟨x, H1, I1, rx, q1⟩ => thn (hb.run pins s1 σV H1 _ I1 q1) fun iv s2 ⟨y, H2, I2, ry, a, v, ex, g, q2⟩ => ?_)
  · refine run1 rel hp fun v H1 loc1 rel1 rd1 ex1 l1 => run1 rel1 hq fun u H2 loc2 rel2 rd2 ex2 l2 => ?_
    unfold gGetN at e
    split at e
    · rename_i n k hn hk
      obtain ⟨z, hz, e⟩ := Option.map_eq_some_iff.mp e
      obtain ⟨ws, hw, hz⟩ := bind_some hz
      cases e
      rw [hn] at rd1
      cases rd1 with
      | ref hl =>
        obtain ⟨o, g, g1, g2⟩ := nget_of rel2.st (pre_get l2 hl) hw rd2 hk
        obtain ⟨v, rfl, rv⟩ := g2 _ hz
        exact ⟨_, v, rfl, g, aft _ H2 loc2 rel2.st rv (ex1.trans ex2) (l1.trans l2)⟩
    · cases e
  · subst ex
    obtain rfl : u = Value.ref a := rx
    exact n_getItem hu I2 g ry fun w' s3 I3 rw' => ⟨v, H2, I3, rw', q2⟩⟩
theorem r_getN2 (hu : X.A.units + 64 < cLine) (ha : EV X a ca) (hb : EV X b cb) (hc : EV X c cc) (m : M2 X a "get" apos b c cpos := by exact ⟨by rfl, by rfl, by rfl, by rfl⟩) : EV X (.Call (.Attribute a "get" apos) [b, c] [] cpos) (eGetN2 ca cb cc) := ⟨fun pins s σV H Q I ⟨loc, σ, M, w, M', rel, e, aft⟩ => by
  obtain ⟨p, hp, e⟩ := bind_some e
  refine wpAny_Call_method m.base m.few m.line PySem.F.plainAttrs_dict PySem.F.slot_dict_get PySem.F.type_dict_get (thn (ha.run pins s σV H (fun x H1 => ∃ a, x = .ref a ∧ NIs X.KW H1 a ∧ TC X.KW cb σV H1 fun y H2 => TC X.KW cc σV H2 fun z H3 => ∃ o, NGet X.KW H3 a y o ∧ Q (o.getD z) H3) I ?_) fun u s1 ⟨x, H1, I1, rx, a, ex, d, q1⟩ => ?_)
  · refine run1 rel hp fun v H1 loc1 rel1 rd1 ex1 l1 => ?_
    split at e
    · rename_i n hn
      split at e
      · rename_i hz
        obtain ⟨ws0, hw0⟩ := Option.isSome_iff_exists.mp hz
        rw [hn] at rd1
        cases rd1 with
        | @ref ad _ hl =>
          obtain ⟨es, h1, h2⟩ := nestAt_ok rel1.st hl hw0
          obtain ⟨q, hq, e⟩ := bind_some e
          obtain ⟨r, hr, e⟩ := bind_some e
          refine ⟨ad, rfl, ⟨loc1, es, ws0, h1, h2⟩, run1 rel1 hq fun y H2 loc2 rel2 rd2 ex2 l2 => run1 rel2 hr fun z H3 loc3 rel3 rd3 ex3 l3 => ?_⟩
          split at e
          · rename_i kk hk
            obtain ⟨ws, hw, e⟩ := Option.map_eq_some_iff.mp e
            cases e
            obtain ⟨o, g, g1, g2⟩ := nget_of rel3.st (pre_get l3 (pre_get l2 hl)) hw (rd2.mono ex3 l3) hk
            exact ⟨o, g, aft _ H3 loc3 rel3.st (nget_getD g1 g2 rd3) ((ex1.trans ex2).trans ex3) ((l1.trans l2).trans l3)⟩
          · cases e
      · cases e
    · cases e
  · subst ex
    obtain rfl : u = Value.ref a := rx
    obtain ⟨t1, t2⟩ := nis_at I1 d
    refine ⟨t1, t2, ?_⟩
    rw [m.trees]
    refine Calls.callWith_builtin rfl (Calls.evalArgs_plain (Calls.spliced_cons (thn (hb.run pins s1 σV H1 _ I1 q1) fun iv s2 ⟨y, H2, I2, ry, q2⟩ =>
      Calls.spliced_cons (thn (hc.run pins s2 σV H2 _ I2 q2) fun fv s3 ⟨z, H3, I3, rz, ov, g, q3⟩ => Calls.spliced_nil ?_))))
    exact n_get2 hu I3 g ry rz fun w' s4 I4 rw' => ⟨_, H3, I4, rw', q3⟩⟩
theorem r_getN1 (hu : X.A.units + 64 < cLine) (ha : EV X a ca) (hb : EV X b cb) (m : M1 X a "get" apos b cpos := by exact ⟨by rfl, by rfl, by rfl, by rfl⟩) : EV X (.Call (.Attribute a "get" apos) [b] [] cpos) (eGetN1 ca cb) := ⟨fun pins s σV H Q I ⟨loc, σ, M, w, M', rel, e, aft⟩ => by
  obtain ⟨p, hp, e⟩ := bind_some e
  refine wpAny_Call_method m.base m.few m.line PySem.F.plainAttrs_dict PySem.F.slot_dict_get PySem.F.type_dict_get (thn (ha.run pins s σV H (fun x H1 => ∃ a, x = .ref a ∧ NIs X.KW H1 a ∧ TC X.KW cb σV H1 fun y H2 => ∃ o, NGet X.KW H2 a y o ∧ Q (o.getD .non) H2) I ?_) fun u s1 ⟨x, H1, I1, rx, a, ex, d, q1⟩ => ?_)
  · refine run1 rel hp fun v H1 loc1 rel1 rd1 ex1 l1 => ?_
    split at e
    · rename_i n hn
      split at e
      · rename_i hz
        obtain ⟨ws0, hw0⟩ := Option.isSome_iff_exists.mp hz
        rw [hn] at rd1
        cases rd1 with
        | @ref ad _ hl =>
          obtain ⟨es, h1, h2⟩ := nestAt_ok rel1.st hl hw0
          obtain ⟨q, hq, e⟩ := bind_some e
          refine ⟨ad, rfl, ⟨loc1, es, ws0, h1, h2⟩, run1 rel1 hq fun y H2 loc2 rel2 rd2 ex2 l2 => ?_⟩
          split at e
          · rename_i kk hk
            obtain ⟨ws, hw, e⟩ := Option.map_eq_some_iff.mp e
            cases e
            obtain ⟨o, g, g1, g2⟩ := nget_of rel2.st (pre_get l2 hl) hw rd2 hk
            exact ⟨o, g, aft _ H2 loc2 rel2.st (nget_getD g1 g2 .non) (ex1.trans ex2) (l1.trans l2)⟩
          · cases e
      · cases e
    · cases e
  · subst ex
    obtain rfl : u = Value.ref a := rx
    obtain ⟨t1, t2⟩ := nis_at I1 d
    refine ⟨t1, t2, ?_⟩
    rw [m.trees]
    refine Calls.callWith_builtin rfl (Calls.evalArgs_plain (Calls.spliced_cons (thn (hb.run pins s1 σV H1 _ I1 q1) fun iv s2 ⟨y, H2, I2, ry, ov, g, q2⟩ => Calls.spliced_nil ?_)))
    exact n_get1 hu I2 g ry fun w' s4 I4 rw' => ⟨_, H2, I4, rw', q2⟩⟩
theorem nest_empty (h : Heap) {w : World} {H' : Hp} {P : Program} (hb : sysModules < h.objs.size) : ObjOk P w H' (h.push { cls := .type "dict", data := .dict #[] }) h.objs.size (nestO w h.objs.size []) :=
  nest_new (Nat.zero_le _) (beq_eq_false_iff_ne.mpr (Ne.symm (Nat.ne_of_lt hb))) .nil (Heap.DictOfH.new h)
theorem new_nest {K : KW} {H : Hp} {loc : List Addr} {M : Mem} {q : Addr} (s : Store K H loc M) (hq : H q = none) : Store K (upd H q (nestO K.wd q [])) (loc ++ [q]) (M ++ [.dT .nest []]) :=
  s.new hq ⟨[], upd_same, ⟨rfl, fun _ h => (by cases h), .nil, .nil⟩⟩
theorem r_dictN : EV X (.Dict [] [] pos) eDictN := ⟨fun pins s σV H Q I ⟨loc, σ, M, w, M', rel, e, aft⟩ => by
  cases e
  have hn := I.hok.fresh (Nat.le_refl s.heap.objs.size)
  refine wpAny_Dict_empty ⟨.ref s.heap.objs.size, _, I.laid (a := s.heap.objs.size) (o := nestO X.w s.heap.objs.size []) (t' := s.toks) (fun _ _ q => Heap.get?_push_of_some _ q) (Nat.le_refl _) (nest_empty s.heap I.big), rfl, ?_⟩
  exact aft _ _ (loc ++ [s.heap.objs.size]) (new_nest rel.st hn) (.ref (last_get rel.st.len.symm)) (.new hn) (List.prefix_append _ _)⟩
theorem r_ndisp (hu : X.A.units + 64 < cLine) (ha : EV X a ca) (hb : EV X b cb) (hz : (evalEachOpt [some a] X.env).zip ((evalEach [b] X.env).map fun v => do let x ← v; standAt pos; pure x) = (pairTrees [some a] [b] X.env pos).map fun p => (some p.1, p.2) := by rfl) :
    EV X (.Dict [some a] [b] pos) (eNDisp ca cb) := ⟨fun pins s σV H Q I ⟨loc, σ, M, w, M', rel, e, aft⟩ => by
  have hn := I.hok.fresh (Nat.le_refl s.heap.objs.size)
  have I1 := I.laid (a := s.heap.objs.size) (o := nestO X.w s.heap.objs.size []) (h' := s.heap.push { cls := .type "dict", data := .dict #[] }) (t' := s.toks) (fun _ _ q => Heap.get?_push_of_some _ q) (Nat.le_refl _) (nest_empty s.heap I.big)
  have rel1 := rel.move (new_nest rel.st hn) (.new hn) (List.prefix_append _ [s.heap.objs.size])
  have hlast : (loc ++ [s.heap.objs.size])[M.length]? = some s.heap.objs.size := last_get rel.st.len.symm
  obtain ⟨p, hp, e⟩ := bind_some e
  obtain ⟨q, hq, e⟩ := bind_some e
  split at e
  · rename_i kk hk
    split at e
    · rename_i hM
      cases e
      rw [arm_eval_Dict, hz, dictDisplay_pairs _ (by intro z; cases z) (by show 1 < 17; decide)]
      refine wpAny_bind (wpAny_standAt (wpAny_bind (wpAny_subDictH (knd := nestedKind X.prog X.w) (show X.A.units + 8 < cLine by omega) (by show 1 ≤ 15; decide) ?_)))
      refine pairTrees_cons_walk (thn (ha.run pins _ σV _ (fun x H1 => TC X.KW cb σV H1 fun y H2 => ∃ loc2 b, Store X.KW H2 loc2 q.2 ∧ loc2[M.length]? = some s.heap.objs.size ∧ x = .ref b ∧ Rd X.KW H2 loc2 x p.1 ∧ Rd X.KW H2 loc2 y q.1 ∧ Ext X.KW H H2 ∧ loc <+: loc2) I1 ?_) fun u s1 ⟨x, H1, I1', rx, q1⟩ => thn (hb.run pins s1 σV H1 _ I1' q1) fun w2 s2 ⟨y, H2, I2, ry, q2⟩ => pairTrees_nil_walk ?_)
      · refine run1 rel1 hp fun v H1 loc1 rel2 rd1 ex1 l1 => run1 rel2 hq fun u H2 loc2 rel3 rd2 ex2 l2 => ?_
        obtain ⟨_, _, us, hus⟩ := keyT_some hk
        have rd1' := rd1.mono ex2 l2
        rw [hus] at rd1 rd1'
        cases rd1 with
        | @tup b xs _ sq rs =>
          refine ⟨loc2, b, rel3.st, pre_get (l1.trans l2) hlast, rfl, by rw [hus]; exact rd1', rd2, (Ext.new hn).trans (ex1.trans ex2), (List.prefix_append _ _).trans (l1.trans l2)⟩
      · obtain ⟨loc2, b, st2, hl2, rfl, rd1, rd2, exA, lA⟩ := q2
        cases (show u = Value.ref b from rx)
        obtain ⟨es, h1, h2⟩ := st2.ok _ _ _ hl2 hM
        have es0 : es = [] := by
          have := congrArg List.length h2.keys
          simpa using this
        subst es0
        obtain ⟨_, hd, xs, np, dd⟩ := nest_dict I2 h2 (.inl h1)
        cases np
        obtain ⟨b', eb, eb2, hki⟩ := nest_key I2 rd1 hk (u := .ref b) rfl
        cases eb
        refine ⟨[(kk, b, w2)], ⟨rfl, rfl, hki, trivial⟩, dd, fun h' tk dd' hs => wpAny_pure ⟨.ref s.heap.objs.size, upd H2 s.heap.objs.size (nestO X.w s.heap.objs.size [(kk, b, y)]), ?_, rfl, ?_⟩⟩
        · have he : ∃ q, h'.get? s.heap.objs.size = some q := let ⟨q, _, _, hq, _⟩ := dd'; ⟨q, hq⟩
          refine d_write I2 (by rw [h1]; exact True.intro) hs he (nest_new (by show 1 ≤ sizeLine; decide) hd (.cons ⟨rfl, rfl, ry⟩ .nil) dd')
        · obtain ⟨kn, kd, us, hus⟩ := keyT_some hk
          have ex : Ext X.KW H2 (upd H2 s.heap.objs.size (nestO X.w s.heap.objs.size [(kk, b, y)])) := .upd h1 trivial
          have ok := (ok_put h2 kn kd rd1 rd2).mono ex (List.prefix_refl _)
          exact aft _ _ loc2 (st2.put hl2 hM rfl rfl ⟨[(kk, b, y)], upd_same, ok⟩) (.ref hl2) (exA.trans ex) lA
    · cases e
  · cases e⟩
end
end BF

set_option Elab.async false
set_option linter.all false
set_option autoImplicit false
set_option maxRecDepth 100000
/-! Walks of dicts; d[k] = v with numbers and texts as keys; sorted(d). -/
namespace BF
open PySem PySem.Spec
open PyProof.Rows L2
/-- a dict is locked, and open again -/
def lkO : MO → Option MO
  | .dK ws => some (.dT .lockF ws)
  | .dT .nest ws => some (.dT .lockN ws)
  | _ => none
def unO : MO → Option MO
  | .dT .lockF ws => some (.dK ws)
  | .dT .lockN ws => some (.dT .nest ws)
  | _ => none
def unM (n : Nat) (M : Mem) : Option Mem := (M[n]?.bind unO).map fun mo => M.set n mo
/-- the memory with the dict locked that c tells, and its id -/
def lkM (c : CE) (σ : Sl) (M : Mem) : Option (Nat × Mem) := match c σ M with
  | some (.ref n, _) => (M[n]?.bind lkO).map fun mo => (n, M.set n mo)
  | _ => none
def eLk (c e : CE) : CE := fun σ M => (lkM c σ M).bind fun l => (e σ l.2).bind fun p => (unM l.1 p.2).map fun M' => (p.1, M')
def sLk (c : CE) (b : CS) : CS := fun σ M => (lkM c σ M).bind fun l => (b σ l.2).bind fun o => match o with
  | .nx σ' M' => (unM l.1 M').map fun M2 => .nx σ' M2
  | .rt w M' => (unM l.1 M').map fun M2 => .rt w M2
  | .bk σ' M' => (unM l.1 M').map fun M2 => .bk σ' M2
  | .ct σ' M' => (unM l.1 M').map fun M2 => .ct σ' M2
/-- the keys of a locked dict -/
def iKeyF (c : CE) : CI := fun σ M => (c σ M).bind fun p => match p.1 with
  | .ref n => match p.2[n]? with
    | some (.dT .lockF ws) => some (ws.map (·.1), gdT, p.2)
    | _ => none
  | _ => none
def iKeyN (c : CE) : CI := fun σ M => (c σ M).bind fun p => match p.1 with
  | .ref n => match p.2[n]? with
    | some (.dT .lockN ws) => some (ws.map (·.1), gdT, p.2)
    | _ => none
  | _ => none
section
variable {K : KW} {H : Hp} {loc : List Addr} {M : Mem} {n : Nat} {a : Addr} {mo mo' : MO}
theorem lk_spec (h : MOk K H loc a mo) (hl : lkO mo = some mo') : ∃ u, H a = some u ∧ Mut (some u) ∧ isMut mo = true ∧ (∀ od, MOk K (upd H a (.frz od u)) loc a mo') := by
  cases mo with
  | lst _ => cases hl
  | ro _ => cases hl
  | dK ws =>
    cases hl
    obtain ⟨kvs, h1, h2, h3, h4⟩ := h
    exact ⟨_, h1, trivial, rfl, fun od => ⟨od, kvs, upd_same, h2, h3, h4.mono (.upd h1 trivial) (List.prefix_refl _)⟩⟩
  | dT m ws =>
    cases m with
    | nest =>
      cases hl
      obtain ⟨es, h1, h2⟩ := h
      exact ⟨_, h1, trivial, rfl, fun od => ⟨od, es, upd_same, h2.mono (.upd h1 trivial) (List.prefix_refl _)⟩⟩
    | lockF => cases hl
    | lockN => cases hl
theorem ext_unlock {o : Obj} {u : HO} (h : H a = some (.frz o u)) (m : Mut (some u)) : ∀ b xs, SqT K H b xs → SqT K (upd H a u) b xs := fun b xs q => by
  rcases q with (q | ⟨v, q⟩) | q
  · refine .inl (.inl ?_)
    rw [upd_ne fun e => ?_]
    · exact q
    · subst e; rw [h] at q; cases q
  · refine .inl (.inr ⟨v, ?_⟩)
    rw [upd_ne fun e => ?_]
    · exact q
    · subst e; rw [h] at q; cases q; exact m
  · exact .inr q
mutual
theorem Rd.moveT {H' : Hp} (e : ∀ b xs, SqT K H b xs → SqT K H' b xs) : ∀ {v : V} {w : W}, Rd K H loc v w → Rd K H' loc v w
  | _, _, .non => .non
  | _, _, .bl b => .bl b
  | _, _, .int i => .int i
  | _, _, .str x h h2 => .str x h h2
  | _, _, .tup h r => .tup (e _ _ h) (Rds.moveT e r)
  | _, _, .ref h => .ref h
theorem Rds.moveT {H' : Hp} (e : ∀ b xs, SqT K H b xs → SqT K H' b xs) : ∀ {vs : List V} {ws : List W}, Rds K H loc vs ws → Rds K H' loc vs ws
  | _, _, .nil => .nil
  | _, _, .cons r rs => .cons (Rd.moveT e r) (Rds.moveT e rs)
end
theorem NestOk.moveT {H' : Hp} {es : NE} {ws : List (W × W)} (e : ∀ b xs, SqT K H b xs → SqT K H' b xs) (h : NestOk K H loc es ws) : NestOk K H' loc es ws := ⟨h.keys, h.dep, h.ks.moveT e, h.vs.moveT e⟩
theorem FlatOk.moveT {H' : Hp} {es : List (Key × V)} {ws : List (W × W)} (e : ∀ b xs, SqT K H b xs → SqT K H' b xs) (h : FlatOk K H loc es ws) : FlatOk K H' loc es ws := ⟨h.keys, h.ok, h.vs.moveT e⟩
/-- other things stand while a lock is taken off -/
theorem MOk.unlock {b : Addr} {o : Obj} {u : HO} (h : H a = some (.frz o u)) (m : Mut (some u)) (hu : ∀ xs, u ≠ .lst xs) (hb : b ≠ a ∨ isOwn mo = false) (ok : MOk K H loc b mo) : MOk K (upd H a u) loc b mo := by
  have e := ext_unlock (K := K) h m
  cases mo with
  | lst ws =>
    obtain ⟨xs, h1, h2⟩ := ok
    have hb : b ≠ a := hb.elim id fun z => (by cases z)
    exact ⟨xs, by rw [upd_ne hb]; exact h1, h2.moveT e⟩
  | ro ws =>
    obtain ⟨xs, h1, h2⟩ := ok
    refine ⟨xs, ?_, h2.moveT e⟩
    rcases h1 with ⟨v, h1⟩ | h1
    · refine .inl ⟨v, ?_⟩
      rw [upd_ne fun z => ?_]
      · exact h1
      · subst z; rw [h] at h1; cases h1; exact hu _ rfl
    · exact .inr h1
  | dK ws =>
    obtain ⟨kvs, h1, h2, h3, h4⟩ := ok
    have hb : b ≠ a := hb.elim id fun z => (by cases z)
    exact ⟨kvs, by rw [upd_ne hb]; exact h1, h2, h3, h4.moveT e⟩
  | dT q ws =>
    have hc : b ≠ a := hb.elim id fun z => (by cases z)
    cases q with
    | nest => obtain ⟨es, h1, h2⟩ := ok; exact ⟨es, by rw [upd_ne hc]; exact h1, h2.moveT e⟩
    | lockF => obtain ⟨o, es, h1, h2⟩ := ok; exact ⟨o, es, by rw [upd_ne hc]; exact h1, h2.moveT e⟩
    | lockN => obtain ⟨o, es, h1, h2⟩ := ok; exact ⟨o, es, by rw [upd_ne hc]; exact h1, h2.moveT e⟩
theorem un_spec {o : Obj} {u : HO} (h : H a = some (.frz o u)) (m : Mut (some u)) (ok : MOk K H loc a mo) (hl : unO mo = some mo') : MOk K (upd H a u) loc a mo' := by
  have e := ext_unlock (K := K) h m
  cases mo with
  | lst _ => cases hl
  | ro _ => cases hl
  | dK _ => cases hl
  | dT q ws =>
    cases q with
    | nest => cases hl
    | lockF =>
      cases hl
      obtain ⟨o', kvs, h1, h2⟩ := ok
      rw [h] at h1; cases h1
      exact ⟨kvs, upd_same, h2.keys, h2.ok, h2.vs.moveT e⟩
    | lockN =>
      cases hl
      obtain ⟨o', es, h1, h2⟩ := ok
      rw [h] at h1; cases h1
      exact ⟨es, upd_same, h2.moveT e⟩
theorem un_own (hl : unO mo = some mo') : isOwn mo = true ∧ isOwn mo' = true := by
  cases mo with
  | lst _ => cases hl
  | ro _ => cases hl
  | dK _ => cases hl
  | dT q ws => cases q <;> cases hl <;> exact ⟨rfl, rfl⟩
theorem Store.unlock {M' : Mem} {o : Obj} {u : HO} (s : Store K H loc M) (ha : loc[n]? = some a) (h : H a = some (.frz o u)) (m : Mut (some u)) (hu : ∀ xs, u ≠ .lst xs) (e : unM n M = some M') : Store K (upd H a u) loc M' := by
  obtain ⟨mo', h1, rfl⟩ := Option.map_eq_some_iff.mp e
  obtain ⟨mo, h2, h3⟩ := bind_some h1
  obtain ⟨o1, o2⟩ := un_own h3
  have hn : n < M.length := (List.getElem?_eq_some_iff.mp h2).1
  refine ⟨by simp [s.len], fun i b q g1 g2 => ?_, fun i j b q r g1 g2 g3 g4 z1 z2 => ?_⟩
  · by_cases hi : n = i
    · subst hi
      rw [ha] at g1; cases g1
      rw [List.getElem?_set_self hn] at g2; cases g2
      exact un_spec h m (s.ok n a mo ha h2) h3
    · rw [List.getElem?_set_ne hi] at g2
      refine MOk.unlock h m hu ?_ (s.ok i b q g1 g2)
      by_cases hb : b = a
      · subst hb
        right
        cases z : isOwn q with
        | false => rfl
        | true => exact absurd (s.apart n i b mo q ha g1 h2 g2 o1 z) hi
      · exact .inl hb
  · have wt : ∀ {x : Nat} {y : MO}, (M.set n mo')[x]? = some y → isOwn y = true → ∃ y', M[x]? = some y' ∧ isOwn y' = true := fun {x y} q z => by
      by_cases hx : n = x
      · subst hx; exact ⟨mo, h2, o1⟩
      · rw [List.getElem?_set_ne hx] at q; exact ⟨y, q, z⟩
    obtain ⟨y1, w1, w2⟩ := wt g3 z1
    obtain ⟨y2, w3, w4⟩ := wt g4 z2
    exact s.apart i j b y1 y2 g1 g2 w1 w3 w2 w4
/-- what is taken: the store with the lock, and what comes of it -/
theorem Store.lock {c : CE} {σ : Sl} {l : Nat × Mem} (s : Store K H loc M) (e : lkM c σ M = some l) : ∃ a u, loc[l.1]? = some a ∧ H a = some u ∧ Mut (some u) ∧ (∀ xs, u ≠ .lst xs) ∧ ∀ od, Store K (upd H a (.frz od u)) loc l.2 ∧ Ext K H (upd H a (.frz od u)) := by
  unfold lkM at e
  split at e
  · rename_i n M0 hc
    obtain ⟨mo', h1, rfl⟩ := Option.map_eq_some_iff.mp e
    obtain ⟨mo, h2, h3⟩ := bind_some h1
    obtain ⟨a, ha, ok⟩ := s.at h2
    obtain ⟨u, hu, mu, mm, q⟩ := lk_spec ok h3
    refine ⟨a, u, ha, hu, mu, fun xs z => ?_, fun od => ⟨s.put0 ha h2 mm (q od), .upd hu mu⟩⟩
    subst z
    cases mo with
    | lst _ => cases h3
    | ro _ => cases h3
    | dK ws => obtain ⟨kvs, g1, _⟩ := ok; rw [hu] at g1; cases g1
    | dT m ws =>
      cases m with
      | nest => obtain ⟨es, g1, _⟩ := ok; rw [hu] at g1; cases g1
      | lockF => cases h3
      | lockN => cases h3
  · cases e
theorem ext_back {H' : Hp} {od : Obj} {u : HO} (hu : H a = some u) (mu : Mut (some u)) (ex : Ext K (upd H a (.frz od u)) H') : H' a = some (.frz od u) ∧ Ext K H (upd H' a u) := by
  have h1 : H' a = some (.frz od u) := ex.frz _ _ _ upd_same
  refine ⟨h1, fun b xs q => ext_unlock (K := K) h1 mu b xs (ex.tup _ _ ((Ext.upd hu mu).tup _ _ q)), fun b o v q => ?_⟩
  have hb : b ≠ a := fun z => by
    subst z
    rw [hu] at q; cases q; exact mu
  rw [upd_ne hb]
  exact ex.frz _ _ _ (by rw [upd_ne hb]; exact q)
end
section
variable {X : Cx} {e : Expr} {st : Stmt} {c ce : CE} {cs : CS}
theorem r_lock (c : CE) (h : EV X e ce) : EV X e (eLk c ce) := (pe_lock h).mono fun σV H Q ⟨loc, σ, M, w, M', rel, ev, aft⟩ => by
  obtain ⟨l, hl, ev⟩ := bind_some ev
  obtain ⟨p, hp, ev⟩ := bind_some ev
  obtain ⟨M2, hM, ev⟩ := Option.map_eq_some_iff.mp ev
  cases ev
  obtain ⟨a, u, ha, hu, mu, nl, q⟩ := rel.st.lock hl
  refine ⟨a, u, hu, mu, fun od => ?_⟩
  obtain ⟨st1, ex1⟩ := q od
  refine ⟨loc, σ, l.2, p.1, p.2, ⟨st1, rel.len, fun i w hi => ?_⟩, hp, fun v H' loc' s' r' ex l' => ?_⟩
  · obtain ⟨v, g1, g2⟩ := rel.sl i w hi
    exact ⟨v, g1, g2.mono ex1 (List.prefix_refl _)⟩
  · obtain ⟨h1, exB⟩ := ext_back hu mu ex
    exact ⟨h1, aft v _ loc' (s'.unlock (pre_get l' ha) h1 mu nl hM) (r'.moveT (ext_unlock h1 mu)) exB l'⟩
theorem s_lock (c : CE) (h : ES X st cs) : ES X st (sLk c cs) := (ps_lock h).mono fun D σV H ⟨loc, σ, M, o, rel, ev, aft⟩ => by
  obtain ⟨l, hl, ev⟩ := bind_some ev
  obtain ⟨o1, ho, ev⟩ := bind_some ev
  obtain ⟨a, u, ha, hu, mu, nl, q⟩ := rel.st.lock hl
  refine ⟨a, u, hu, mu, fun od => ?_⟩
  obtain ⟨st1, ex1⟩ := q od
  have sl : ∀ (i : Nat) (w : W), σ[i]? = some (some w) → ∃ v, σV[i]? = some (some v) ∧ Rd X.KW (upd H a (.frz od u)) loc v w := fun i w hi => by
    obtain ⟨v, g1, g2⟩ := rel.sl i w hi
    exact ⟨v, g1, g2.mono ex1 (List.prefix_refl _)⟩
  refine ⟨loc, σ, l.2, o1, ⟨st1, rel.len, sl⟩, ho, ?_⟩
  have move : ∀ {σ' : Sl} {M' M2 : Mem} {σV' : L2.St} {H' : Hp} {loc' : List Addr}, unM l.1 M' = some M2 → Rel X.KW loc' σ' M' σV' H' → Ext X.KW (upd H a (.frz od u)) H' → loc <+: loc' → H' a = some (.frz od u) ∧ Rel X.KW loc' σ' M2 σV' (upd H' a u) ∧ Ext X.KW H (upd H' a u) := fun {σ' M' M2 σV' H' loc'} hM r ex l' => by
    obtain ⟨h1, exB⟩ := ext_back hu mu ex
    exact ⟨h1, ⟨r.st.unlock (pre_get l' ha) h1 mu nl hM, r.len, fun i w hi => (by
      obtain ⟨v, g1, g2⟩ := r.sl i w hi
      exact ⟨v, g1, g2.moveT (ext_unlock h1 mu)⟩)⟩, exB⟩
  cases o1 with
  | nx σ' M' =>
    obtain ⟨M2, hM, ev⟩ := Option.map_eq_some_iff.mp ev
    cases ev
    intro σV' H' loc' r ex l'
    obtain ⟨h1, r2, exB⟩ := move hM r ex l'
    exact ⟨h1, aft σV' _ loc' r2 exB l'⟩
  | bk σ' M' =>
    obtain ⟨M2, hM, ev⟩ := Option.map_eq_some_iff.mp ev
    cases ev
    intro σV' H' loc' r ex l'
    obtain ⟨h1, r2, exB⟩ := move hM r ex l'
    exact ⟨h1, aft σV' _ loc' r2 exB l'⟩
  | ct σ' M' =>
    obtain ⟨M2, hM, ev⟩ := Option.map_eq_some_iff.mp ev
    cases ev
    intro σV' H' loc' r ex l'
    obtain ⟨h1, r2, exB⟩ := move hM r ex l'
    exact ⟨h1, aft σV' _ loc' r2 exB l'⟩
  | rt w M' =>
    obtain ⟨M2, hM, ev⟩ := Option.map_eq_some_iff.mp ev
    cases ev
    intro v H' loc' s' r' ex l'
    obtain ⟨h1, exB⟩ := ext_back hu mu ex
    exact ⟨h1, aft v _ loc' (s'.unlock (pre_get l' ha) h1 mu nl hM) (r'.moveT (ext_unlock h1 mu)) exB l'⟩
end

/-! ### walks -/
/-- the keys of the locked dict at d, keyed by nested tuples -/
def ItkN (w : World) (d : Addr) (o : Obj) (es : NE) : It :=
  ⟨fun i H => H d = some (.frz o (nestO w d es)) ∧ i < es.length, fun i H x H' => H' = H ∧ ∃ e, es[i]? = some e ∧ x = .ref e.2.1, fun i H => H d = some (.frz o (nestO w d es)) ∧ es.length ≤ i⟩
section
variable {X : Cx} {pins : List (Addr × Obj)} {σ : L2.St} {H : Hp} {s : Shared} {d : Addr} {o : Obj} {es : NE}
theorem frzN (I : Inv X pins σ H s) (h : H d = some (.frz o (nestO X.w d es))) : (d == sysModules) = false ∧ s.heap.get? d = some o ∧ o.ExactDict ∧ ∃ (en : Array DictEntry) (ep : Nat), o.data = .dict en ep ∧ en.size = es.length ∧
    ∀ (i : Nat) (e : NestedKey × Addr × V), es[i]? = some e → ∃ t : DictEntry, en[i]? = some t ∧ t.key = .ref e.2.1 := by
  obtain ⟨hd, ⟨z, hs, xs, np, o', en, ep, h1, h2, h3, h4, h5⟩, _⟩ := I.hok d _ h
  rw [hd] at h1
  cases h1
  have hl : en.size = xs.length := by rw [← Array.length_toList, h4, List.length_map]
  refine ⟨hs, hd, h2, en, ep, h3, by rw [hl]; exact (Paired.length np).symm, fun i e he => ?_⟩
  obtain ⟨x, hx, e1, e2, _⟩ := paired_get np he
  refine ⟨entryN X.w x, ?_, by rw [e2]; rfl⟩
  rw [← Array.getElem?_toList, h4, List.getElem?_map, hx]; rfl
end
theorem turn_keysN {P : Program} {w : World} {K : PySem.W.Frag} {tg : Expr} {d : Addr} {o : Obj} {en : Array DictEntry} {ep : Nat} {es : NE} (it : Addr) (hod : o.data = .dict en ep) : Turn P w K tg (ItkN w d o es) [it] it (fun i h => h.IsKeyIter it d i es.length ep) where
  mem := by simp
  obj := fun i h st b hb => by
    obtain rfl : b = it := by simpa using hb
    obtain ⟨oi, e1, e2, e3⟩ := st
    exact ⟨oi, e1, fun v q => by rw [e3] at q; cases q⟩
  keep := fun i h h' st k => st.at fun q e => k it (by simp) q e
  item := by
    intro X hP hw hK hc i pins s σ H E I hf st hg
    subst hP hw hK
    obtain ⟨hd, hi⟩ := hg
    obtain ⟨f0, f1, f2, f3, f4, f5⟩ := hf it (by simp)
    obtain ⟨_, g1, g2, en', ep', g3, g4, g5⟩ := frzN I hd
    obtain ⟨rfl, rfl⟩ := dict_ep hod g3
    obtain ⟨e, he⟩ : ∃ e, es[i]? = some e := ⟨_, List.getElem?_eq_getElem hi⟩
    obtain ⟨t, ht, hk⟩ := g5 i e he
    refine next_key_item st g1 g3 g4 ht fun h' st' sb => ?_
    obtain ⟨oi, e1, e2, e3⟩ := id st'
    refine ⟨t.key, rfl, go_of (s := { s with heap := h' }) e1 e2 e3 (by decide) ⟨.ref e.2.1, H, I.turned (t' := s.toks) (fun b ob hb q => (sb.2 b hb).trans q) f0 f1 f3 f4 f5, hk, ⟨rfl, e, he, rfl⟩, st', fun b hb => (hf b hb).1⟩⟩
  done := by
    intro X hP hw hK hc i pins s σ H E I hf st hg
    subst hP hw hK
    obtain ⟨hd, hi⟩ := hg
    obtain ⟨f0, f1, f2, f3, f4, f5⟩ := hf it (by simp)
    obtain ⟨_, g1, g2, en', ep', g3, g4, _⟩ := frzN I hd
    obtain ⟨rfl, rfl⟩ := dict_ep hod g3
    exact next_key_end (I.ok.hd hc) st g1 g3 g4 hi fun h' eb => ⟨rfl, I.turned (t' := s.toks) (fun b ob hb q => eb b ob hb q) f0 f1 f3 f4 f5⟩
  self := fun A i s Q E st h => wpAny_pyIter_keyiter st h
def iKeysN (w : World) (td : TE) : TI := fun σ H R => td σ H fun x H1 => ∃ d o es, x = .ref d ∧ H1 d = some (.frz o (nestO w d es)) ∧ R (ItkN w d o es) H1
section
variable {X : Cx} {tg e : Expr} {td : TE} {ce : CE}
theorem pi_keysN (he : PE X e td) : PI X tg e (iKeysN X.w td) := by
  refine ⟨fun pins s σ H R I h => ?_⟩
  refine thn (he.run pins s σ H _ I h) fun u s1 ⟨x, H1, I1, rx, d, o, es, ex, hd, q⟩ => ?_
  subst ex
  obtain rfl : u = Value.ref d := rx
  obtain ⟨hs, g1, g2, en, ep, g3, g4, _⟩ := frzN I1 hd
  refine iter_keys hs g1 g2 g3 (pi_one (tk := s1.toks) I1 _ (turn_keysN _ g3) ⟨_, Heap.get?_push_size _ rfl, rfl, ?_⟩ q)
  rw [g4] <;> rfl
theorem walk_of_keysN {K : KW} {H : Hp} {loc : List Addr} {d : Addr} {o : Obj} {es : NE} {ws : List (W × W)} (hd : H d = some (.frz o (nestO K.wd d es))) (n : NestOk K H loc es ws) : WalkW K H loc (ItkN K.wd d o es) (ws.map (·.1)) gdT :=
  fun i H1 loc1 M s ex l _ => by
    have hl : es.length = ws.length := by have := congrArg List.length n.keys; simpa using this
    refine ⟨fun w hw => ?_, fun hi => ⟨ex.frz _ _ _ hd, by rw [hl]; simpa using hi⟩⟩
    obtain ⟨v, h1, h2⟩ := n.ks.get hw
    rw [List.getElem?_map] at h1
    obtain ⟨e, he, rfl⟩ := Option.map_eq_some_iff.mp h1
    refine ⟨⟨ex.frz _ _ _ hd, (List.getElem?_eq_some_iff.mp he).1⟩, fun x H2 y => ?_⟩
    obtain ⟨rfl, e', he', rfl⟩ := y
    rw [he] at he'; cases he'
    exact ⟨h2.mono ex l, s, .refl⟩
theorem walk_of_keysF {K : KW} {H : Hp} {loc : List Addr} {d : Addr} {o : Obj} {kvs : List (Key × V)} {ws : List (W × W)} (hd : H d = some (.frz o (.dK kvs))) (n : FlatOk K H loc kvs ws) : WalkW K H loc (Itk d o kvs) (ws.map (·.1)) gdT :=
  fun i H1 loc1 M s ex l _ => by
    have hl : kvs.length = ws.length := by have := congrArg List.length n.keys; simpa using this
    refine ⟨fun w hw => ?_, fun hi => ⟨ex.frz _ _ _ hd, by rw [hl]; simpa using hi⟩⟩
    rw [← n.keys, List.getElem?_map] at hw
    obtain ⟨p, hp, rfl⟩ := Option.map_eq_some_iff.mp hw
    refine ⟨⟨ex.frz _ _ _ hd, (List.getElem?_eq_some_iff.mp hp).1⟩, fun x H2 y => ?_⟩
    obtain ⟨rfl, k, v, he', rfl⟩ := y
    rw [hp] at he'; cases he'
    refine ⟨?_, s, .refl⟩
    have := n.ok _ (List.mem_of_getElem? hp)
    cases k with
    | inl i => exact .int i
    | inr z => exact .str z this.1 this.2
theorem i_keyN (h : EV X e ce) : EI X tg e (iKeyN ce) := (pi_keysN h).mono fun σV H R ⟨loc, σ, M, ws, gd, M', rel, ev, aft⟩ => by
  obtain ⟨p, hp, ev⟩ := bind_some ev
  refine run1 rel hp fun v H1 loc1 rel1 rd1 ex1 l1 => ?_
  split at ev
  · rename_i n hn
    rw [hn] at rd1
    cases rd1 with
    | @ref a _ ha =>
      split at ev
      · rename_i zs hz
        cases ev
        obtain ⟨o, es, h1, h2⟩ := rel1.st.ok n a _ ha hz
        exact ⟨a, o, es, rfl, h1, aft _ H1 loc1 rel1.st ex1 l1 (walk_of_keysN h1 h2)⟩
      · cases ev
  · cases ev
theorem i_keyF (h : EV X e ce) : EI X tg e (iKeyF ce) := (pi_keys h).mono fun σV H R ⟨loc, σ, M, ws, gd, M', rel, ev, aft⟩ => by
  obtain ⟨p, hp, ev⟩ := bind_some ev
  refine run1 rel hp fun v H1 loc1 rel1 rd1 ex1 l1 => ?_
  split at ev
  · rename_i n hn
    rw [hn] at rd1
    cases rd1 with
    | @ref a _ ha =>
      split at ev
      · rename_i zs hz
        cases ev
        obtain ⟨o, kvs, h1, h2⟩ := rel1.st.ok n a _ ha hz
        exact ⟨a, o, rfl, .inl ⟨kvs, h1, aft _ H1 loc1 rel1.st ex1 l1 (walk_of_keysF h1 h2)⟩⟩
      · cases ev
  · cases ev
end
end BF

set_option Elab.async false
set_option linter.all false
set_option autoImplicit false
set_option maxRecDepth 100000
/-! d[k] = v, sorted(d), max of three, x in a list. -/
namespace BF
open PySem PySem.Spec
open PyProof.Rows L2
theorem hu65 {k : Nat} {A : Around} (hr : Room k A) : A.units + 65 < cLine := by have := hr.un; omega
def putF (M : Mem) (o x w : W) : Option Mem := match o, keyOf x with
  | .ref n, some k => match M[n]? with
    | some (.dK ws) => if ws.length < 16777216 then some (M.set n (.dK (putW ws k w))) else none
    | _ => none
  | _, _ => none
def rDPut : TSet := fun x y v H Q => ∃ a kvs k, x = .ref a ∧ y = kV k ∧ H a = some (.dK kvs) ∧ kvs.length < sizeLine ∧ Q (upd H a (.dK (putK kvs k v)))
theorem o_dput {X : Cx} (hu : X.A.units + 1 < cLine) : PSet X rDPut := by
  intro pins s σ H o i v ov iv u Q I ro ri rv h
  obtain ⟨a, kvs, k, rfl, rfl, e, hl, q⟩ := h
  cases (show ov = Value.ref a from ro)
  exact d_setItem hu I (DPut.k e hl) ri rv fun s' I' => ⟨_, I', q⟩
section
variable {K : KW} {H : Hp} {loc : List Addr}
theorem key_any {kvs : List (Key × V)} {ws : List (W × W)} (h : kvs.map (fun p => keyW p.1) = ws.map (·.1)) (k : Key) : (kvs.any fun kv => decide (kv.1 = k)) = ws.any fun p => decide (keyOf p.1 = some k) := by
  induction kvs generalizing ws with
  | nil =>
    cases ws with
    | nil => rfl
    | cons _ _ => cases h
  | cons p kvs ih =>
    cases ws with
    | nil => cases h
    | cons q ws =>
      simp only [List.map_cons, List.cons.injEq] at h
      rw [List.any_cons, List.any_cons, ih h.2, ← h.1, keyOf_keyW]
      congr 1
      exact decide_eq_decide.mpr ⟨fun z => by rw [z], fun z => Option.some.inj z⟩
theorem put_rel {kvs : List (Key × V)} {ws : List (W × W)} {k : Key} {v : V} {w : W} (hk : kvs.map (fun p => keyW p.1) = ws.map (·.1)) (h : Rds K H loc (kvs.map (·.2)) (ws.map (·.2))) (r : Rd K H loc v w) :
    (putK kvs k v).map (fun p => keyW p.1) = (putW ws k w).map (·.1) ∧ Rds K H loc ((putK kvs k v).map (·.2)) ((putW ws k w).map (·.2)) := by
  unfold putK putW
  rw [key_any hk k]
  split
  · rename_i hz
    clear hz
    induction kvs generalizing ws with
    | nil =>
      cases ws with
      | nil => exact ⟨rfl, .nil⟩
      | cons _ _ => cases hk
    | cons p kvs ih =>
      cases ws with
      | nil => cases hk
      | cons q ws =>
        simp only [List.map_cons, List.cons.injEq] at hk h
        cases h with
        | cons r1 r2 =>
          obtain ⟨i1, i2⟩ := ih hk.2 r2
          have e : keyOf q.1 = some p.1 := by rw [← hk.1, keyOf_keyW]
          simp only [List.map_cons, e, Option.some.injEq]
          by_cases z : p.1 = k
          · rw [if_pos z, if_pos z]
            exact ⟨List.cons_eq_cons.mpr ⟨hk.1, i1⟩, .cons r i2⟩
          · rw [if_neg z, if_neg z]
            exact ⟨List.cons_eq_cons.mpr ⟨hk.1, i1⟩, .cons r1 i2⟩
  · rw [List.map_append, List.map_append, List.map_append, List.map_append, hk]
    exact ⟨rfl, h.append (.cons r .nil)⟩
theorem putK_ok {kvs : List (Key × V)} {k : Key} {v : V} (h : ∀ p ∈ kvs, KeyOk p.1) (hk : KeyOk k) : ∀ p ∈ putK kvs k v, KeyOk p.1 := by
  unfold putK
  split
  · intro p hp
    obtain ⟨q, hq, rfl⟩ := List.mem_map.mp hp
    have := h q hq
    split <;> exact this
  · intro p hp
    rcases List.mem_append.mp hp with hp | hp
    · exact h p hp
    · rw [List.mem_singleton] at hp; subst hp; exact hk
theorem rd_keyOk {v : V} {w : W} {k : Key} (r : Rd K H loc v w) (h : keyOf w = some k) : KeyOk k := by
  cases r with
  | int i => cases h; trivial
  | str x h1 h2 => cases h; exact ⟨h1, h2⟩
  | _ => cases h
theorem p_dput : LiftP K rDPut putF := by
  intro H loc M x y z o i v M' Q s rx ry rz e h
  unfold putF at e
  split at e
  · rename_i n k hk
    split at e
    · rename_i ws hw
      split at e
      · rename_i hl
        cases e
        cases rx with
        | @ref a _ ha =>
          obtain ⟨kvs, h1, h2, h3, h4⟩ := s.ok n a _ ha hw
          have hle : kvs.length = ws.length := by have := congrArg List.length h2; simpa using this
          refine ⟨a, kvs, k, rfl, rd_key ry hk, h1, by rw [hle]; exact hl, ?_⟩
          have ex : Ext K H (upd H a (.dK (putK kvs k v))) := .upd h1 trivial
          obtain ⟨q1, q2⟩ := put_rel (k := k) h2 h4 rz
          exact h _ loc (s.put ha hw rfl rfl ⟨_, upd_same, q1, putK_ok h3 (rd_keyOk ry hk), q2.mono ex (List.prefix_refl _)⟩) ex (List.prefix_refl _)
      · cases e
    · cases e
  · cases e
/-- sorted(d), the keys ascending as they stand -/
def pSortD : Fn := fun ws M => match ws with
  | [.ref n] => match M[n]? with
    | some (.dK kvs) => match asInts (kvs.map (·.1)) with
      | some ks => if ks.length < 64 ∧ ks.Pairwise (· ≤ ·) then some (.ref M.length, M ++ [.lst (ks.map W.int)]) else none
      | none => none
    | _ => none
  | _ => none
def rSortD : List V → Hp → VK → Prop := fun xs H Q => ∃ (a : Addr) (kvs : List (Key × V)) (ks : List Int), xs = [.ref a] ∧ L2.Rd H a (.dK kvs) ∧ kvs.map (·.1) = ks.map Sum.inl ∧ ks.length < 64 ∧
    ∀ (ys : List Int) (p : Addr), ys.Perm ks → ys.Pairwise (· ≤ ·) → H p = none → Q (.ref p) (upd H p (.lst (ys.map V.int)))
theorem cr_sortD {X : Cx} (hc : X.calm = true) : CallR X (.builtin "sorted") rSortD := call_sortedDI hc
theorem keysI : ∀ {kvs : List (Key × V)} {ks : List Int}, kvs.map (fun p => keyW p.1) = ks.map W.int → kvs.map (·.1) = ks.map Sum.inl
  | [], [], _ => rfl
  | [], _ :: _, h => by cases h
  | _ :: _, [], h => by cases h
  | p :: kvs, k :: ks, h => by
    simp only [List.map_cons, List.cons.injEq] at h ⊢
    refine ⟨?_, keysI h.2⟩
    have := h.1
    cases hp : p.1 with
    | inl i => rw [hp] at this; cases this; rfl
    | inr z => rw [hp] at this; cases this
theorem n_sortD : LiftN K rSortD pSortD := by
  intro H loc M ws vs w M' Q s r e aft
  unfold pSortD at e
  split at e
  · split at e
    · rename_i zs hz
      split at e
      · rename_i ks hks
        split at e
        · rename_i hc
          cases e
          match vs, r with
          | [_], .cons (.ref (a := a) hn) .nil =>
            obtain ⟨kvs, h1, h2, h3, h4⟩ := s.ok _ _ _ hn hz
            refine ⟨a, kvs, ks, rfl, .inl h1, keysI (by rw [h2, asInts_some hks]), hc.1, fun ys p hp hs hH => ?_⟩
            have e1 : ys = ks := List.Perm.eq_of_pairwise (fun a b _ _ h1 h2 => Int.le_antisymm h1 h2) hs hc.2 hp
            subst e1
            exact aft_lst s (rds_ints ys) hH aft
        · cases e
      · cases e
    · cases e
  · cases e
/-- max of three -/
def pMax3 : Fn := fun ws M => match ws with
  | [.int i, .int j, .int k] => some (.int (if (if i < j then j else i) < k then k else (if i < j then j else i)), M)
  | _ => none
@[simp] theorem pMax3_eq {M : Mem} (i j k : Int) : pMax3 [.int i, .int j, .int k] M = some (.int (if (if i < j then j else i) < k then k else (if i < j then j else i)), M) := nr rfl
theorem n_max3 : LiftN K (rNuC3 nuMax3) pMax3 := by
  intro H loc M ws vs w M' Q s r e aft
  unfold pMax3 at e
  split at e
  · rename_i i j k
    cases e
    match vs, r with
    | [_, _, _], .cons (.int _) (.cons (.int _) (.cons (.int _) .nil)) =>
      refine ⟨_, _, _, V.int (if (if i < j then j else i) < k then k else (if i < j then j else i)), rfl, ?_, aft _ H loc s (.int _) .refl (List.prefix_refl _)⟩
      have h2 : ∀ a b : Int, nuMax2 (.int a) (.int b) = some (.int (if a < b then b else a)) := fun a b => by
        show some (if decide (a < b) = true then V.int b else V.int a) = _
        by_cases h : a < b <;> simp [h]
      show (nuMax2 (.int i) (.int j)).bind _ = _
      rw [h2, Option.bind_some, h2]
  · cases e
/-! ### in a list -/
def gInD (M : Mem) (x y : W) : Option (W × Mem) := match toD M 64 x, toD M 64 y with
  | some d, some (.list ds) => some (.bl (ds.any fun z => PyData.eqv z d), M)
  | _, _ => none
def gNotInD (M : Mem) (x y : W) : Option (W × Mem) := match toD M 64 x, toD M 64 y with
  | some d, some (.list ds) => some (.bl (!ds.any fun z => PyData.eqv z d), M)
  | _, _ => none
theorem in_aux {M : Mem} {x y : W} {v u : V} {d : PyData} {ds : List PyData} (s : Store K H loc M) (rx : Rd K H loc v x) (ry : Rd K H loc u y) (h1 : toD M 64 x = some d) (h2 : toD M 64 y = some (.list ds)) :
    Dp K H v d ∧ Dp K H u (.list ds) ∧ SeqAt.shaped d = true ∧ SeqAt.shaped (.list ds) = true := by
  obtain ⟨g1, g2, g3⟩ := toD_ok s 64 v x d rx h1
  obtain ⟨g4, g5, g6⟩ := toD_ok s 64 u y _ ry h2
  exact ⟨g1, g4, by rw [SeqAt.shaped, g2, decide_eq_true g3]; rfl, by rw [SeqAt.shaped, g5, decide_eq_true g6]; rfl⟩
theorem l_inD : Lift2 K (rInD K) gInD := by
  intro H loc M x y v u w M' Q s rx ry e aft
  unfold gInD at e
  split at e
  · rename_i d ds h1 h2
    cases e
    obtain ⟨g1, g2, g3, g4⟩ := in_aux s rx ry h1 h2
    exact ⟨d, ds, g1, g2, g3, g4, aft _ H loc s (.bl _) .refl (List.prefix_refl _)⟩
  · cases e
theorem l_notInD : Lift2 K (rNotInD K) gNotInD := by
  intro H loc M x y v u w M' Q s rx ry e aft
  unfold gNotInD at e
  split at e
  · rename_i d ds h1 h2
    cases e
    obtain ⟨g1, g2, g3, g4⟩ := in_aux s rx ry h1 h2
    exact ⟨d, ds, g1, g2, g3, g4, aft _ H loc s (.bl _) .refl (List.prefix_refl _)⟩
  · cases e
end
open Enc in
theorem any_enc {α : Type} [Enc α] [DecidableEq α] (hd : dep α ≤ 63) (a : α) : ∀ as : List α, ((as.map fun b => dP (enc b)).any fun z => PyData.eqv z (dP (enc a))) = decide (a ∈ as)
  | [] => rfl
  | b :: as => by
    rw [List.map_cons, List.any_cons, any_enc hd a as, eqv_P 63 _ _ (okW_mono _ _ (ok b) 63 hd) (okW_mono _ _ (ok a) 63 hd), Bool.eq_iff_iff, Bool.or_eq_true, eqE, decide_eq_true_eq, decide_eq_true_eq, List.mem_cons]
    exact ⟨fun h => h.elim (fun z => .inl z.symm) .inr, fun h => h.elim (fun z => .inl z.symm) .inr⟩
open Enc in
theorem gInD_enc {α : Type} [Enc α] [DecidableEq α] (M : Mem) (n : Nat) (as : List α) (a : α) (h : M[n]? = some (.lst (as.map enc))) (hd : dep α ≤ 63 := by decide) : gInD M (enc a) (.ref n) = some (.bl (decide (a ∈ as)), M) := by
  unfold gInD
  rw [toD_lst M n as (.inl h) hd, toD_P M 64 _ (okW_mono _ _ (ok a) 64 (by omega))]
  simp only [any_enc hd]
open Enc in
theorem gNotInD_enc {α : Type} [Enc α] [DecidableEq α] (M : Mem) (n : Nat) (as : List α) (a : α) (h : M[n]? = some (.lst (as.map enc))) (hd : dep α ≤ 63 := by decide) : gNotInD M (enc a) (.ref n) = some (.bl (!decide (a ∈ as)), M) := by
  unfold gNotInD
  rw [toD_lst M n as (.inl h) hd, toD_P M 64 _ (okW_mono _ _ (ok a) 64 (by omega))]
  simp only [any_enc hd]
end BF

set_option Elab.async false
set_option linter.all false
set_option autoImplicit false
set_option maxRecDepth 100000
/-! enumerate of lists and of tuples. -/
namespace BF
open PySem PySem.Spec
open PyProof.Rows L2
set_option maxHeartbeats 1000000 in
theorem enum_new {v : Value} {o : Obj} {H : Heap → Prop} (B : Begins v o H) : Meets (Builtin.«enumerate.__new__» ⟨[.type "enumerate", v], []⟩) (fun _ R s => H s.heap ∧ R (.ok (.ret (.ref (s.heap.push o).objs.size))) { s with heap := (s.heap.push o).push { cls := .type "enumerate", data := .fields #[.none, .bool false, .ref s.heap.objs.size, rawInt 0, .none, .none] } }) :=
  .of_wp fun prog w A R s h => by
    obtain ⟨hp, g, d, tk, os⟩ := s
    obtain ⟨h1, h2⟩ := h
    have h3 := sub_enumerate
    have it0 : ∀ {A' : Around} {E Q : Value → Shared → Prop}, Q (.ref hp.objs.size) ⟨hp.push o, g, d, tk, os⟩ → wpAny (model prog w) A' (pyIter v) Q E ⟨hp, g, d, tk, os⟩ := fun q => B.iter prog w _ _ _ _ h1 q
    wp_walk using it0
    refine wpAny_stack_any fun st => wpAny_pure ?_
    split
    · rename_i c _ _ _ _ _
      cases (c == Value.type "enumerate") <;> (wp_walk using it0; exact ⟨_, rfl, h2⟩)
    · wp_walk using it0
      exact ⟨_, rfl, h2⟩
theorem enum_call {prog : Program} {w : World} {A : Around} {E : Value → Shared → Prop} {s : Shared} {v : Value} {o : Obj} {H : Heap → Prop} {Q : Value → Shared → Prop} (B : Begins v o H) (h1 : H s.heap)
    (h : ∀ h', IsEnum h' (s.heap.objs.size + 1) s.heap.objs.size 0 .none → h'.get? s.heap.objs.size = some o → (∀ b q, s.heap.get? b = some q → h'.get? b = some q) → Q (.ref (s.heap.objs.size + 1)) { s with heap := h' }) :
    wpAny (model prog w) A (call (.type "enumerate") [v]) Q E s := by
  refine callType_new F.called_enumerate (by decide) (F.typeCall_enumerate_1 _) (F.newCall_enumerate_1 _) (fun obj => F.args_object_init_2 obj _) F.entry_enumerate_new (enum_new B) ⟨h1, ?_⟩
  have hz : (s.heap.push o).objs.size = s.heap.objs.size + 1 := Heap.size_push ..
  show _ ∧ _
  rw [hz]
  have he := Heap.get?_push_size (s.heap.push o) (o := { cls := .type "enumerate", data := .fields #[.none, .bool false, .ref s.heap.objs.size, rawInt 0, .none, .none] }) rfl
  rw [hz] at he
  exact ⟨⟨_, he, rfl⟩, h _ he (Heap.get?_push_of_some _ (Heap.get?_push_size _ B.free)) fun b q x => Heap.get?_push_of_some _ (Heap.get?_push_of_some _ x)⟩
/-- the tuple at a, each item in a new pair -/
def IteT (K : PySem.W.Frag) (a : Addr) : It :=
  ⟨fun i H => ∃ (xs : List V) (x : V), SqT K H a xs ∧ xs[i]? = some x, fun i H v H' => ∃ T x, v = .ref T ∧ H T = none ∧ H' = upd H T (.tup [.int (i : Nat), x]) ∧ ∀ xs, SqT K H a xs → xs[i]? = some x, fun i H => ∃ xs : List V, SqT K H a xs ∧ xs.length ≤ i⟩
theorem turn_enumT {P : Program} {w : World} {K : PySem.W.Frag} {elts : List Expr} {kk : Nat} {tpos : Pos} (a e it : Addr) :
    Turn P w K (.Tuple elts kk tpos) (IteT K a) [e, it] e (fun i h => (∃ old, IsEnum h e it ((i : Nat) : Int) old) ∧ h.IsTupleIter it a i ∧ e ≠ it ∧ a ≠ it ∧ a ≠ e) where
  mem := by simp
  obj := fun i h st b hb => by
    obtain ⟨⟨old, he⟩, ⟨o, g1, g2, g3⟩, _⟩ := st
    rcases List.mem_cons.mp hb with rfl | hb
    · exact ⟨_, he, fun v q => nomatch q⟩
    · rw [List.mem_singleton] at hb
      subst hb
      exact ⟨o, g1, fun v q => by rw [g3] at q; cases q⟩
  keep := fun i h h' st k => ⟨let ⟨old, he⟩ := st.1; ⟨old, k e (by simp) _ he⟩, st.2.1.at fun o q => k it (by simp) o q, st.2.2⟩
  item := by
    intro X hP hw hK hc i pins s σ H E I hf st hg
    subst hP hw hK
    obtain ⟨⟨old, he⟩, hit, hne, ha1, ha2⟩ := st
    obtain ⟨xs, x, hq, hx⟩ := hg
    obtain ⟨its, rv, p, hz⟩ := I.tuple hq
    obtain ⟨u, hu, ru⟩ := rv.get hx
    have hlt : i < its.toArray.size := by have := (List.getElem?_eq_some_iff.mp hu).1; simpa using this
    have l1 : e < s.heap.objs.size := Heap.lt_size he
    have l2 : it < s.heap.objs.size := by obtain ⟨_, q, _⟩ := hit; exact Heap.lt_size q
    refine wpAny_pyNext_enum_itemD (Draws.tuple (prog := X.prog) (w := X.w) (A := X.A.in1) (I.ok.hd hc) it a ha1 its.toArray) he ⟨hit, p⟩ hlt hne (fun hm => ?_) fun y h' tk hy ho hst hT hsz hk => ?_
    · rcases List.mem_cons.mp hm with q | hm
      · exact hne q
      · exact ha2 (List.mem_singleton.mp hm).symm
    have ey : y = u := by
      have : its.toArray[i]? = some u := by simpa using hu
      rw [this] at hy; exact (Option.some.inj hy).symm
    subst ey
    refine ⟨_, rfl, wpAny_letOwnedTupleGo_enum (s := { s with heap := h', toks := tk + 1 }) ho fun h'' he' sb => ?_⟩
    have hT2 : h''.get? s.heap.objs.size = some { cls := .type "tuple", data := .seq #[.int i tk, y] } := (sb.2 _ (Nat.ne_of_gt l1)).trans hT
    have new : ObjOk X.prog X.w (upd H s.heap.objs.size (.tup [.int (i : Nat), x])) h'' s.heap.objs.size (.tup [.int (i : Nat), x]) := ⟨by show 2 ≤ sizeLine; decide, [.int i tk, y], .cons ⟨_, rfl⟩ (.cons ru .nil), ⟨_, hT2, rfl, _, rfl⟩⟩
    have I1 := I.turnedNew (t' := tk + 1) (ch := [e, it]) (fun b ob hb q => (sb.2 b (fun z => hb (by simp [z]))).trans (hk b ob (fun z => hb (by simp [z])) (fun z => hb (by simp [z])) q)) hf (Nat.le_refl _) new
    refine ⟨.ref s.heap.objs.size, _, I1, rfl, ⟨_, x, rfl, I.hok.fresh (Nat.le_refl _), rfl, fun ys hy => by rw [I.tuple_inj hy hq]; exact hx⟩, ⟨⟨y, ?_⟩, hst.1.at fun o q => (sb.2 it (Ne.symm hne)).trans q, hne, ha1, ha2⟩, fun b hb => ?_⟩
    · have e1 : ((i + 1 : Nat) : Int) = (i : Int) + 1 := by omega
      rw [e1]; exact he'
    · have hb' : b < s.heap.objs.size := by
        rcases List.mem_cons.mp hb with z | hb
        · rw [z]; exact l1
        · rw [List.mem_singleton.mp hb]; exact l2
      rw [upd_ne (Nat.ne_of_lt hb')]
      exact (hf b hb).1
  done := by
    intro X hP hw hK hc i pins s σ H E I hf st hg
    subst hP hw hK
    obtain ⟨⟨old, he⟩, hit, hne, ha1, ha2⟩ := st
    obtain ⟨xs, hq, hx⟩ := hg
    obtain ⟨its, rv, p, hz⟩ := I.tuple hq
    obtain ⟨f0, f1, f2, f3, f4, f5⟩ := hf it (by simp)
    have hl := rv.length
    have hT : s.TypeIs (.ref e) "enumerate" := ⟨_, he, rfl⟩
    unfold pyNext
    refine wpAny_bind (wpAny_attempt (wpAny_callSpecial?_slot (name := Str.ofString "__next__") hT F.slot_enumerate_next (wpAny_call_entry F.slot_enumerate_next hT F.entry_enumerate_next ?_ (F.args_enumerate_next_1 _))))
    show wpAny _ _ (field (.ref e) 2 >>= _) _ _ _
    refine wpAny_bind (wpAny_field he rfl (x := .ref it) rfl ?_)
    refine wpAny_bind (wpAny_nextOf_tuple_end (I.ok.hd hc) hit p (Array.getElem?_eq_none (by simp; omega)) fun h' x he' hx' => ?_)
    obtain ⟨o, ho, hcl⟩ := hx'
    exact wpAny_bind (wpAny_isInstance (T := "StopIteration") (b := true) ⟨o, ho, hcl⟩ isSubtype_stop (wpAny_pure ⟨rfl, I.turned (t' := s.toks) (fun b o hb q => he' b o hb q) f0 f1 f3 f4 f5⟩))
  self := fun A i s Q E st h => let ⟨⟨_, he⟩, _⟩ := st; wpAny_pyIter_enum he h
def iEnumTT (K : PySem.W.Frag) (ta : TA) : TI := fun σ H R => ta σ H fun vs H1 => ∃ a xs, vs = [.ref a] ∧ SqT K H1 a xs ∧ R (IteT K a) H1
theorem pi_enumT {X : Cx} {e : Expr} {ta : TA} {p pos tpos : Pos} {elts : List Expr} {kk : Nat} (hg : Gl X "enumerate") (hm : X.mg "enumerate" = none) (ha : PA X [e] ta) (hs : starEach [e] X.env = [(false, eval e X.env)] := by rfl) :
    PI X (.Tuple elts kk tpos) (.Call (.Name "enumerate" p) [e] [] pos) (iEnumTT X.K ta) := by
  refine ⟨fun pins s σ H R I h => Call_ (ld_blt I hg hm boot_enumerate (PyProof.Rows.callWith_type1 (thn (ha.run pos pins s σ H _ I h) fun us s1 ⟨vs, H1, I1, r1, q1⟩ => ?_) hs rfl))⟩
  obtain ⟨a, xs, ex, hq, q⟩ := q1
  subst ex
  cases r1 with
  | cons r rr =>
    cases rr
    cases r
    obtain ⟨its, rv, p', hz⟩ := I1.tuple hq
    have la : a < s1.heap.objs.size := by obtain ⟨o, ho, _⟩ := id p'; exact Heap.lt_size ho
    refine enum_call (begins_tuple a its.toArray) p' fun h' he hit hk => wpAny_pyIter_enum he ?_
    refine ⟨s1.heap.objs.size + 1, [s1.heap.objs.size + 1, s1.heap.objs.size], _, _, H1, rfl, I1.kept (t' := s1.toks) hk, turn_enumT a (s1.heap.objs.size + 1) s1.heap.objs.size, ⟨⟨.none, he⟩, ⟨_, hit, rfl, rfl⟩, Nat.succ_ne_self _, Nat.ne_of_lt la, Nat.ne_of_lt (Nat.lt_succ_of_lt la)⟩, fun b hb => ?_, q⟩
    have hle : s1.heap.objs.size ≤ b := by
      rcases List.mem_cons.mp hb with z | hb
      · rw [z]; exact Nat.le_add_right _ _
      · rw [List.mem_singleton.mp hb]; exact Nat.le_refl _
    exact I1.fpOk hle (I1.hok.fresh hle)
theorem enumW_get {ws : List W} {i : Nat} {w : W} (h : (enumW ws)[i]? = some w) : ∃ x, ws[i]? = some x ∧ w = .tup [.int (i : Nat), x] := by
  unfold enumW at h
  rw [List.getElem?_map, List.getElem?_zipIdx] at h
  cases q : ws[i]? with
  | none => rw [q] at h; cases h
  | some x => rw [q] at h; cases h; exact ⟨x, rfl, by simp⟩
theorem enumW_length (ws : List W) : (enumW ws).length = ws.length := by simp [enumW]
section
variable {K : KW} {H : Hp} {loc : List Addr}
theorem walk_of_enumT {a : Addr} {xs : List V} {ws : List W} (sq : SqT K H a xs) (r : Rds K H loc xs ws) : WalkW K H loc (IteT K a) (enumW ws) gdT :=
  fun i H1 loc1 M s ex l _ => ⟨fun w hw => by
    obtain ⟨x, hx, rfl⟩ := enumW_get hw
    obtain ⟨v, h1, h2⟩ := r.get hx
    refine ⟨⟨xs, v, ex.tup _ _ sq, h1⟩, fun y H2 q => ?_⟩
    obtain ⟨T, v', rfl, hT, rfl, f⟩ := q
    have e1 := f xs (ex.tup _ _ sq)
    rw [h1] at e1; cases e1
    have ex2 : Ext K H1 (upd H1 T (.tup [.int (i : Nat), v])) := .new hT
    exact ⟨.tup (SqT.of upd_same) (.cons (.int _) (.cons (h2.mono (ex.trans ex2) l) .nil)), s.newT hT, ex2⟩, fun hl => ⟨xs, ex.tup _ _ sq, by rw [r.length]; rw [enumW_length] at hl; exact hl⟩⟩
theorem walk_of_enumL {a : Addr} {n : Nat} {ws : List W} (hn : loc[n]? = some a) : WalkW K H loc (Ite K a) (enumW ws) (fun M' => decide (M'[n]? = some (.lst ws))) :=
  fun i H1 loc1 M s ex l hg => by
    have hg := of_decide_eq_true hg
    obtain ⟨xs, h1, r⟩ := s.ok n a _ (pre_get l hn) hg
    refine ⟨fun w hw => ?_, fun hl => ⟨xs, SqL.of h1, by rw [r.length]; rw [enumW_length] at hl; exact hl⟩⟩
    obtain ⟨x, hx, rfl⟩ := enumW_get hw
    obtain ⟨v, h2, h3⟩ := r.get hx
    refine ⟨⟨xs, v, SqL.of h1, h2⟩, fun y H2 q => ?_⟩
    obtain ⟨T, v', rfl, hT, rfl, f⟩ := q
    have e1 := f xs (SqL.of h1)
    rw [h2] at e1; cases e1
    have ex2 : Ext K H1 (upd H1 T (.tup [.int (i : Nat), v])) := .new hT
    exact ⟨.tup (SqT.of upd_same) (.cons (.int _) (.cons (h3.mono ex2 (List.prefix_refl _)) .nil)), s.newT hT, ex2⟩
end
section
variable {X : Cx} {e : Expr} {ce : CE} {p pos tpos : Pos} {elts : List Expr} {kk : Nat}
theorem i_enumT (hg : Gl X "enumerate") (hm : X.mg "enumerate" = none) (h : EA X [e] [ce]) (hs : starEach [e] X.env = [(false, eval e X.env)] := by rfl) : EI X (.Tuple elts kk tpos) (.Call (.Name "enumerate" p) [e] [] pos) (iEnumT ce) :=
  (pi_enumT hg hm h hs).mono fun σV H R ⟨loc, σ, M, ws, gd, M', rel, ev, aft⟩ => by
    obtain ⟨q, hq, ev⟩ := bind_some ev
    refine runA (p := ([q.1], q.2)) rel (by simp only [eArgs, hq, Option.bind_some]) fun vs H1 loc1 rel1 rd1 ex1 l1 => ?_
    split at ev
    · rename_i zs hz
      cases ev
      rw [hz] at rd1
      match vs, rd1 with
      | [_], .cons (.tup (a := a) (xs := xs) sq rs) .nil => exact ⟨a, xs, rfl, sq, aft _ H1 loc1 rel1.st ex1 l1 (walk_of_enumT sq rs)⟩
    · cases ev
theorem i_enumL (hg : Gl X "enumerate") (hm : X.mg "enumerate" = none) (h : EA X [e] [ce]) (hs : starEach [e] X.env = [(false, eval e X.env)] := by rfl) : EI X (.Tuple elts kk tpos) (.Call (.Name "enumerate" p) [e] [] pos) (iEnumL ce) :=
  (pi_enum hg hm h hs).mono fun σV H R ⟨loc, σ, M, ws, gd, M', rel, ev, aft⟩ => by
    obtain ⟨q, hq, ev⟩ := bind_some ev
    refine runA (p := ([q.1], q.2)) rel (by simp only [eArgs, hq, Option.bind_some]) fun vs H1 loc1 rel1 rd1 ex1 l1 => ?_
    split at ev
    · rename_i n hn
      split at ev
      · rename_i zs hz
        cases ev
        rw [hn] at rd1
        match vs, rd1 with
        | [_], .cons (.ref (a := a) ha) .nil =>
          obtain ⟨xs, h1, _⟩ := rel1.st.ok n a _ ha hz
          exact ⟨a, xs, rfl, SqL.of h1, aft _ H1 loc1 rel1.st ex1 l1 (walk_of_enumL ha)⟩
      · cases ev
    · cases ev
end
end BF

set_option Elab.async false
set_option linter.all false
set_option autoImplicit false
set_option maxRecDepth 100000
/-! sorted(list of tuples) that stands in order. -/
namespace BF
open PySem PySem.Spec
open PyProof.Rows L2
/-- what is asked of the items -/
def inOrd (ds : List PyData) : Bool := (ds.all fun d => ds.all fun e => PySem.W.alike d e) && ((ds.all fun d => match d with | .tuple (_ :: _) => true | _ => false) || (match ds with | [.tuple []] => true | _ => false)) && decide (ds.Pairwise fun a b => PySem.W.dataLe false id a b = true)
theorem sorts_one {prog : Program} {w : World} {A : Around} {s : Shared} {vs : List Value} (e : PySem.W.EachIs (fun v d => ∃ as, Reads s.heap v d as) vs [.tuple []]) : PySem.W.SortsAt prog w A s (PySem.W.dataKind s.heap [.tuple []]) vs := by
  have al : PySem.W.AllAlike [PyData.tuple []] := by
    intro d hd d' hd'
    rw [List.mem_singleton] at hd hd'
    subst hd; subst hd'; rfl
  have hl := e.length
  refine ⟨fun v hv => ?_, PyProof.Rows.tuples' false, fun E x y a b Q ha hb hq => ?_, fun h2 => ?_⟩
  · obtain ⟨d, hd, as, r⟩ := e.left v hv
    exact ⟨_, PySem.W.dataKind_some al hd r⟩
  · obtain ⟨d, as, hd, ra, rfl⟩ := PySem.W.dataKind_inv ha
    obtain ⟨d', as', hd', rb, rfl⟩ := PySem.W.dataKind_inv hb
    rw [List.mem_singleton] at hd hd'
    subst hd; subst hd'
    have hq' : Q false s := hq
    cases ra with
    | @tuple l o xs n _ _ h1 h2 h3 h4 =>
      cases rb with
      | @tuple l' o' xs' n' _ _ k1 k2 k3 k4 =>
        have z1 : xs.toList = [] := List.length_eq_zero_iff.mp (PySem.SeqAt.ReadsAll.length _ _ _ h4)
        have z2 : xs'.toList = [] := List.length_eq_zero_iff.mp (PySem.SeqAt.ReadsAll.length _ _ _ k4)
        refine PySem.W.kat_lt h1 h3 k1 k3 ?_
        rw [z1]
        have y1 : xs.size = 0 := by rw [← Array.length_toList, z1]; rfl
        have y2 : xs'.size = 0 := by rw [← Array.length_toList, z2]; rfl
        rw [y1, y2]
        exact hq'
  · rw [hl] at h2
    exact absurd h2 (by simp)
theorem vals_of_each : ∀ {out : List Value} {vs : List V} {ds : List PyData}, vs.length = ds.length → PySem.W.EachIs (fun u (p : V × PyData) => RelV p.1 u) out (vs.zip ds) → Vals vs out
  | _, [], _, _, h => by cases h; exact .nil
  | _, v :: vs, [], hl, _ => by cases hl
  | _, v :: vs, d :: ds, hl, h => by
    cases h with
    | cons h1 h2 => exact .cons h1 (vals_of_each (by simpa using hl) h2)
theorem each_zip {X : Cx} {pins : List (Addr × Obj)} {σ : L2.St} {H : Hp} {s : Shared} (I : Inv X pins σ H s) : ∀ {us : List Value} {vs : List V} {ds : List PyData}, Vals vs us → L2.DpAll X.K H vs ds → vs.length = ds.length ∧ PySem.W.EachIs (fun u (p : V × PyData) => RelV p.1 u) us (vs.zip ds) ∧ PySem.W.EachIs (fun u (p : V × PyData) => ∃ as, Reads s.heap u p.2 as) us (vs.zip ds)
  | _, _, _, .nil, .nil => ⟨rfl, .nil, .nil⟩
  | _, _, _, .cons r1 r2, .cons h1 h2 => by
    obtain ⟨e1, e2, e3⟩ := each_zip I r2 h2
    exact ⟨by simp [e1], .cons r1 e2, .cons (L2.Dp.reads I _ _ _ h1 r1) e3⟩
theorem each_snd {R : Value → PyData → Prop} : ∀ {us : List Value} {ps : List (V × PyData)}, PySem.W.EachIs (fun u (p : V × PyData) => R u p.2) us ps → PySem.W.EachIs R us (ps.map (·.2))
  | _, [], .nil => .nil
  | _, _ :: _, .cons h1 h2 => .cons h1 (each_snd h2)
def rSortT (K : PySem.W.Frag) : List V → Hp → VK → Prop := fun xs H Q => ∃ (a : Addr) (vs : List V) (ds : List PyData), xs = [.ref a] ∧ L2.SqL K H a vs ∧ L2.DpAll K H vs ds ∧ inOrd ds = true ∧ (∀ d ∈ ds, d.depth ≤ 60) ∧
    ∀ p : Addr, H p = none → Q (.ref p) (upd H p (.lst vs))
theorem call_sortT {X : Cx} (hu : X.A.units + 65 < cLine) : CallR X (.builtin "sorted") (rSortT X.K) := by
  intro pins s σ H xs us Q I r q
  obtain ⟨a, vs, ds, ex, hd, hds, ho, hdep, q⟩ := q
  subst ex
  obtain ⟨u, eu, rx⟩ := vals1 r
  subst eu
  cases rx
  obtain ⟨its, rv, ⟨o, n, g1, g2, _, g3⟩, hz⟩ := I.list hd
  obtain ⟨el, er, ed⟩ := each_zip I rv hds
  have hlist : s.heap.IsList a its.toArray := ⟨o, g1, g2, n, g3⟩
  have e2 : (vs.zip ds).map (·.2) = ds := List.map_snd_zip (by omega)
  have hil : its.length = vs.length := by rw [rv.length]
  have hsz : vs.length ≤ 16777216 := by have := hz; rw [sizeLine_eq] at this; exact this
  unfold inOrd at ho
  rw [Bool.and_eq_true, Bool.and_eq_true, decide_eq_true_eq] at ho
  obtain ⟨⟨al, ty⟩, pw⟩ := ho
  have hal : PySem.W.AllAlike ds := fun d hd d' hd' => List.all_eq_true.mp (List.all_eq_true.mp al d hd) d' hd'
  -- what the call leaves
  have fin : ∀ out : List Value, Vals vs out → EP X pins σ Q (.ref (s.heap.objs.size + 1)) { s with heap := sortedAll s.heap its out.toArray } := fun out ho => by
    obtain ⟨e', he'⟩ := PyProof.Rows.sortedAll_at s.heap its out.toArray
    have old : ∀ b o, s.heap.get? b = some o → (sortedAll s.heap its out.toArray).get? b = some o := fun b o h => PyProof.Rows.sortedAll_old h
    exact ⟨.ref (s.heap.objs.size + 1), upd H (s.heap.objs.size + 1) (.lst vs), I.laid (t' := s.toks) old (Nat.le_succ _)
      (show ObjOk X.prog X.w _ _ _ (.lst vs) from ⟨hz, out, e', ho, he'⟩), rfl, q _ (I.hok.fresh (Nat.le_succ _))⟩
  rw [Bool.or_eq_true] at ty
  rcases ty with ty | ty
  · have hk : PySem.W.Sortable ((vs.zip ds).map (·.2)) := .inl fun d hd => by
      rw [e2] at hd
      have := List.all_eq_true.mp ty d hd
      match d, this with
      | .tuple (x :: r), _ => exact ⟨x, r, rfl⟩
    refine PySem.W.sorted_data (enc := fun p : V × PyData => p.2) hlist er ed (by rw [e2]; exact hal) hk (by simp; rw [sizeLine_eq]; omega) (fun b hb => ?_) fun out hlo eo => ?_
    · have hm : b.2 ∈ ds := by rw [← e2]; exact List.mem_map.mpr ⟨b, hb, rfl⟩
      have := hdep _ hm
      omega
    · have ms : (vs.zip ds).mergeSort (PySem.W.dataLe false fun p : V × PyData => p.2) = vs.zip ds := by
        refine List.mergeSort_of_pairwise ?_
        have : ((vs.zip ds).map (·.2)).Pairwise fun a b => PySem.W.dataLe false id a b = true := by rw [e2]; exact pw
        exact List.pairwise_map.mp this
      rw [ms] at eo
      exact fin out (vals_of_each el eo)
  · have h1 : ds = [.tuple []] := by
      match ds, ty with
      | [.tuple []], _ => rfl
    subst h1
    have hv1 : vs.length = 1 := el
    obtain ⟨v, rfl⟩ : ∃ v, vs = [v] := List.length_eq_one_iff.mp hv1
    obtain ⟨u, rfl⟩ : ∃ u, its = [u] := List.length_eq_one_iff.mp (by rw [hil]; rfl)
    have ed' := each_snd (R := fun u d => ∃ as, Reads s.heap u d as) ed
    have ed2 : PySem.W.EachIs (fun x d => ∃ as, Reads (PySem.W.sortingHeap (PySem.W.copyHeap s.heap [u]) (s.heap.objs.size + 1) [u]) x d as) [u] [.tuple []] := by
      cases ed' with
      | cons h1 h2 =>
        obtain ⟨as, r⟩ := h1
        exact .cons ⟨as, PyProof.Rows.Reads.keeps (fun _ _ => PySem.W.sorting_copy_old) r⟩ .nil
    obtain ⟨hp, hhp⟩ : ∃ hp, hp = PySem.W.sortingHeap (PySem.W.copyHeap s.heap [u]) (s.heap.objs.size + 1) [u] := ⟨_, rfl⟩
    rw [← hhp] at ed2
    have so := sorts_one (prog := X.prog) (w := X.w) (A := X.A.in1.in1) (s := { s with heap := hp }) ed2
    refine PySem.W.sorted_vals (κ := PySem.W.dataKind hp [.tuple []]) hlist (by rw [← hhp]; exact so) (by rw [sizeLine_eq]; simp) ?_
    obtain ⟨z, hz'⟩ : ∃ z, PySem.W.sortVals (PySem.W.dataKind hp [.tuple []]) false [u] [u] = [z] := List.length_eq_one_iff.mp (PySem.W.sortVals_length false rfl)
    have hm := PySem.W.sortVals_mem (κ := PySem.W.dataKind hp [.tuple []]) false (ks := [u]) (vs := [u]) (v := z) (by rw [hz']; exact List.mem_singleton.mpr rfl)
    rw [List.mem_singleton] at hm
    rw [hz', hm]
    exact fin [u] rv
/-- sorted(l), the items in order as they stand -/
def pSortT : Fn := fun ws M => match ws with
  | [.ref n] => match M[n]? with
    | some (.lst xs) => match mapO (toD M 60) xs with
      | some ds => if inOrd ds = true then some (.ref M.length, M ++ [.lst xs]) else none
      | none => none
    | _ => none
  | _ => none
theorem toDs_ok {K : KW} {H : Hp} {loc : List Addr} {M : Mem} (s : Store K H loc M) : ∀ {vs : List V} {ws : List W} {ds : List PyData}, Rds K H loc vs ws → Paired (fun a b => toD M 60 a = some b) ws ds → L2.DpAll K H vs ds ∧ ∀ d ∈ ds, d.depth ≤ 60
  | _, _, _, .nil, .nil => ⟨.nil, fun _ h => (by cases h)⟩
  | _, _, _, .cons a b, .cons c d => by
    obtain ⟨g1, _, g3⟩ := toD_ok s 60 _ _ _ a c
    obtain ⟨g4, g5⟩ := toDs_ok s b d
    exact ⟨.cons g1 g4, fun x hx => (List.mem_cons.mp hx).elim (fun e => e ▸ g3) (g5 x)⟩
theorem n_sortT {K : KW} : LiftN K (rSortT K) pSortT := by
  intro H loc M ws vs w M' Q s r e aft
  unfold pSortT at e
  split at e
  · split at e
    · rename_i zs hz
      split at e
      · rename_i ds hds
        split at e
        · rename_i ho
          cases e
          match vs, r with
          | [_], .cons (.ref (a := a) hn) .nil =>
            obtain ⟨xs, q1, q2⟩ := s.ok _ _ _ hn hz
            obtain ⟨g1, g2⟩ := toDs_ok s q2 (mapO_get hds)
            exact ⟨a, xs, ds, rfl, SqL.of q1, g1, ho, g2, fun l hl => aft_lst s q2 hl aft⟩
        · cases e
      · cases e
    · cases e
  · cases e
end BF

set_option Elab.async false
set_option linter.all false
set_option autoImplicit false
set_option maxRecDepth 100000
/-! Small sets of nested tuples: made of a list, sorted. -/
namespace BF
open PySem PySem.Spec
open PyProof.Rows L2
abbrev IsN (P : Program) (w : World) (hp : Heap) (k : NestedKey) (b : Addr) : Prop := (nestedKind P w).is hp k b
section
variable {P : Program} {w : World} {A : Around} {E : Value → Shared → Prop} {s : Shared}
theorem isN_stays {hp hp' : Heap} {k : NestedKey} {b : Addr} (z : IsN P w hp k b) (hk : ∀ c o, hp.get? c = some o → hp'.get? c = some o) : IsN P w hp' k b :=
  (PySem.nestedKind_stays).stays (fun c o _ _ hc _ => hk c o hc) z
theorem isN_beside {hp hp' : Heap} {k : NestedKey} {b c : Addr} {o : Obj} {en : Array (Int × Value)} {ee : Nat} {tb : SetTable} (z : IsN P w hp k b) (ho : hp.get? c = some o) (hd : o.data = .set en ee tb) (hs : Heap.SameBut c hp hp') : IsN P w hp' k b :=
  (PySem.nestedKind_stays).stays (fun d u vs n hu hv => by
    have hne : d ≠ c := by
      intro e
      rw [e, ho] at hu
      cases hu
      rw [hd] at hv
      cases hv
    exact (hs.2 d hne).trans hu) z
/-! ### what the search asks of them -/
def OfAt (P : Program) (w : World) (n : Nat) (s : Shared) (v : Value) : Prop := ∀ (A : Around) (E : Value → Shared → Prop) (Q : Bool → Shared → Prop), Q false s → wpAny (model P w) A (ofAClassStatement n v) Q E s
def ByAt (P : Program) (w : World) (n : Nat) (s : Shared) (v : Value) : Prop := ∀ (A : Around) (E : Value → Shared → Prop) (Q : Bool → Shared → Prop), (∀ r, Q r s) → wpAny (model P w) A (hashByValue n v) Q E s
mutual
theorem ofA_key : ∀ (k : NestedKey) (v : Value) (n : Nat) (s : Shared), NestedIs s.heap k v → k.depth ≤ n → OfAt P w n s v
  | .none, _, n, s, z, _ => by
    cases z
    intro A E Q h
    cases n <;> exact wpAny_pure h
  | .num i, _, n, s, z, _ => by
    cases z <;> (intro A E Q h; cases n <;> exact wpAny_pure h)
  | .text y, _, n, s, z, _ => by
    cases z
    intro A E Q h
    cases n <;> exact wpAny_pure h
  | .tup ks, _, n, s, z, hn => by
    cases z with
    | @tup b o vs m _ ho hc hd hk =>
      simp only [NestedKey.depth] at hn
      cases n with
      | zero => omega
      | succ n =>
        have all := ofA_keys ks vs.toList n s hk (by omega)
        intro A E Q h
        unfold ofAClassStatement
        refine wpAny_bind (wpAny_typeOf (T := "tuple") ⟨o, ho, hc⟩ ?_)
        dsimp only
        have et : (("tuple" : String) == "tuple") = true := by decide
        simp only [et, if_true, Bool.not_true, Bool.false_eq_true, if_false]
        try refine wpAny_bind (wpAny_pure ?_)
        try simp only [Bool.not_true, Bool.false_eq_true, if_false]
        show wpAny _ _ (seqItems? (.ref b) >>= _) _ _ s
        refine wpAny_bind (wpAny_seqItems ho hd ?_)
        dsimp only
        refine wpAny_bind ?_
        rw [← Array.forIn_toList]
        refine wpAny_forIn_list _ (fun left r s' => r.1 = none ∧ s' = s ∧ ∀ u ∈ left, OfAt P w n s u) _ ?_ ?_ _ _ ⟨rfl, rfl, all⟩
        · rintro u left r s' ⟨hr, rfl, hall⟩
          refine wpAny_bind (hall u List.mem_cons_self _ _ _ ?_)
          simp only [Bool.false_eq_true, if_false]
          exact wpAny_pure ⟨rfl, rfl, fun x hx => hall x (List.mem_cons_of_mem _ hx)⟩
        · rintro ⟨r1, r2⟩ s' ⟨hr, rfl, _⟩
          simp only at hr
          subst hr
          exact wpAny_pure h
theorem ofA_keys : ∀ (ks : List NestedKey) (vs : List Value) (n : Nat) (s : Shared), NestedAll s.heap ks vs → NestedKey.depthAll ks ≤ n → ∀ v ∈ vs, OfAt P w n s v
  | [], _, n, s, z, _, v, hv => by cases z; cases hv
  | k :: ks, _, n, s, z, hn, v, hv => by
    cases z with
    | cons z1 z2 =>
      simp only [NestedKey.depthAll] at hn
      rcases List.mem_cons.mp hv with e | hv
      · rw [e]; exact ofA_key k _ n s z1 (by omega)
      · exact ofA_keys ks _ n s z2 (by omega) v hv
end
mutual
theorem byA_key : ∀ (k : NestedKey) (v : Value) (n : Nat) (s : Shared), NestedIs s.heap k v → k.depth ≤ n → ByAt P w n s v
  | .none, _, n, s, z, _ => by
    cases z
    intro A E Q h
    cases n <;> exact wpAny_pure (h _)
  | .num i, _, n, s, z, _ => by
    cases z <;> (intro A E Q h; cases n <;> exact wpAny_pure (h _))
  | .text y, _, n, s, z, _ => by
    cases z
    intro A E Q h
    cases n <;> exact wpAny_pure (h _)
  | .tup ks, _, n, s, z, hn => by
    cases z with
    | @tup b o vs m _ ho hc hd hk =>
      simp only [NestedKey.depth] at hn
      cases n with
      | zero => omega
      | succ n =>
        have all := byA_keys ks vs.toList n s hk (by omega)
        intro A E Q h
        unfold hashByValue
        refine wpAny_bind (wpAny_specialOf (T := "tuple") ⟨o, ho, hc⟩ F.slot_tuple_hash.lookup ?_)
        show wpAny _ _ (seqItems? (.ref b) >>= _) _ _ s
        refine wpAny_bind (wpAny_seqItems ho hd ?_)
        refine wpAny_bind ?_
        show wpAny _ _ (forIn vs _ _) _ _ s
        rw [← Array.forIn_toList]
        refine wpAny_forIn_list _ (fun left r s' => r.1 = none ∧ s' = s ∧ ∀ u ∈ left, ByAt P w n s u) _ ?_ ?_ _ _ ⟨rfl, rfl, all⟩
        · rintro u left r s' ⟨hr, rfl, hall⟩
          refine wpAny_bind (hall u List.mem_cons_self _ _ _ fun c => ?_)
          cases c
          · simp only [Bool.not_false, if_true]
            refine wpAny_pure ?_
            exact wpAny_pure (h _)
          · simp only [Bool.not_true, Bool.false_eq_true, if_false]
            exact wpAny_pure ⟨rfl, rfl, fun x hx => hall x (List.mem_cons_of_mem _ hx)⟩
        · rintro ⟨r1, r2⟩ s' ⟨hr, rfl, _⟩
          simp only at hr
          subst hr
          exact wpAny_pure (h _)
theorem byA_keys : ∀ (ks : List NestedKey) (vs : List Value) (n : Nat) (s : Shared), NestedAll s.heap ks vs → NestedKey.depthAll ks ≤ n → ∀ v ∈ vs, ByAt P w n s v
  | [], _, n, s, z, _, v, hv => by cases z; cases hv
  | k :: ks, _, n, s, z, hn, v, hv => by
    cases z with
    | cons z1 z2 =>
      simp only [NestedKey.depthAll] at hn
      rcases List.mem_cons.mp hv with e | hv
      · rw [e]; exact byA_key k _ n s z1 (by omega)
      · exact byA_keys ks _ n s z2 (by omega) v hv
end
theorem seenN {k : NestedKey} {b : Addr} {Q : Bool → Shared → Prop} (hk : IsN P w s.heap k b) {ys : List Value} (hy : ∀ y ∈ ys, ∃ j c, y = Value.ref c ∧ IsN P w s.heap j c) (h : Q false s) : wpAny (model P w) A (searchCouldBeSeen (.ref b) ys) Q E s := by
  unfold searchCouldBeSeen
  refine wpAny_bind ?_
  refine wpAny_forIn_list _ (fun left r s' => r.1 = none ∧ s' = s ∧ ∀ y ∈ left, ∃ j c, y = Value.ref c ∧ IsN P w s.heap j c) _ ?_ ?_ _ _ ⟨rfl, rfl, hy⟩
  · rintro u left r s' ⟨hr, rfl, hall⟩
    obtain ⟨j, c, rfl, hc⟩ := hall u List.mem_cons_self
    have left' : ∀ y ∈ left, ∃ j c, y = Value.ref c ∧ IsN P w s'.heap j c := fun y hy => hall y (List.mem_cons_of_mem _ hy)
    dsimp only
    by_cases hv : (b == c || (carriedByValue (.ref b) && carriedByValue (.ref c))) = true
    · refine wp_if_pos hv ?_
      exact wpAny_pure ⟨rfl, rfl, left'⟩
    · refine wp_if_neg hv ?_
      refine wpAny_bind ((nestedKind P w).quiet hk ?_)
      simp only [Bool.not_true, Bool.false_eq_true, if_false]
      refine wpAny_bind ((nestedKind P w).quiet hc ?_)
      simp only [Bool.not_true, Bool.false_eq_true, if_false]
      refine wpAny_bind (ofA_key _ _ 8 _ hk.1 hk.2 _ _ _ ?_)
      simp only [Bool.false_eq_true, if_false]
      refine wpAny_bind (ofA_key _ _ 8 _ hc.1 hc.2 _ _ _ ?_)
      simp only [Bool.false_eq_true, if_false]
      exact wpAny_pure ⟨rfl, rfl, left'⟩
  · rintro ⟨r1, r2⟩ s' ⟨hr, rfl, _⟩
    simp only at hr
    subst hr
    exact wpAny_pure h
/-! ### the set -/
def nrows (w : World) (ps : List (Addr × NestedKey)) : List (Int × Value) := ps.map fun p => (p.2.hash w, Value.ref p.1)
structure SetN (P : Program) (w : World) (hp : Heap) (c : Addr) (ps : List (Addr × NestedKey)) (en : Array (Int × Value)) (ee : Nat) (tb : SetTable) : Prop where
  obj : ∃ o, hp.get? c = some o ∧ o.ExactSet ∧ o.data = .set en ee tb
  rws : en.toList = nrows w ps
  tok : TabOk tb (ps.map fun p => p.2.hash w)
  dis : (ps.map (·.2)).Nodup
  ek : ∀ p ∈ ps, IsN P w hp p.2 p.1
  ld : w.params.followText "set-order" = true ∨ tb.led = true
  room : ps.length * 5 < tb.mask * 3
  few : ps.length ≤ 60
variable {c : Addr} {ps : List (Addr × NestedKey)} {en : Array (Int × Value)} {ee : Nat} {tb : SetTable}
theorem SetN.size (R : SetN P w s.heap c ps en ee tb) : en.size = ps.length := by
  rw [← Array.length_toList, R.rws]
  exact List.length_map _
theorem SetN.fits (R : SetN P w s.heap c ps en ee tb) : tb.fits en.size = true := by
  have z1 := R.tok.sz
  rw [List.length_map] at z1
  have z2 := R.size
  have z3 := R.room
  unfold SetTable.fits SetTable.fill
  rw [R.tok.dm, Bool.and_eq_true, beq_iff_eq, decide_eq_true_eq]
  exact ⟨by omega, by show tb.place.size + 0 ≤ tb.mask; omega⟩
theorem SetN.at (R : SetN P w s.heap c ps en ee tb) {i : Nat} {p : Addr × NestedKey} (hi : ps[i]? = some p) : en[i]? = some (p.2.hash w, Value.ref p.1) := by
  rw [← Array.getElem?_toList, R.rws, nrows, List.getElem?_map, hi]
  rfl
theorem SetN.stands (R : SetN P w s.heap c ps en ee tb) : ¬ tb.gaveWay = true := by
  unfold SetTable.gaveWay
  rw [mask_odd R.tok.mok]
  decide
/-- from the n-th step of its way on, the search meets the key, or the free slot -/
theorem seekN (R : SetN P w s.heap c ps en ee tb) {x : Addr} {k : NestedKey} (hx : IsN P w s.heap k x) (hu : A.units + 8 < cLine) {m : Nat} (hm : m < 10 * SetTable.turns tb.mask)
    (hfree : way tb.mask (k.hash w) m ∉ tb.place.toList) (hfull : ∀ n, n < m → way tb.mask (k.hash w) n ∈ tb.place.toList) {Q : SetFound → Shared → Prop}
    (qin : k ∈ ps.map (·.2) → Q (.there none) s) (qout : k ∉ ps.map (·.2) → Q (.free (way tb.mask (k.hash w) m) false) s) :
    ∀ (fuel n : Nat) (from_ : Option SetTable.Probe), from_.getD (tb.probeStart (k.hash w)) = nth tb.mask (runAt tb.mask (SetTable.bits (k.hash w) % (tb.mask + 1)) (SetTable.bits (k.hash w))) n → n ≤ m → m - n < fuel →
      (∀ (i : Nat) p, ps[i]? = some p → p.2 = k → ∃ n', n ≤ n' ∧ n' < m ∧ tb.place.toList[i]? = some (way tb.mask (k.hash w) n')) →
      wpAny (model P w) A (setSearchFrom c (.ref x) (k.hash w) true fuel from_) Q E s
  | 0, n, _, _, _, hf, _ => absurd hf (Nat.not_lt_zero _)
  | fuel + 1, n, from_, hfr, hn, hf, reach => by
    obtain ⟨o, ho, hex, hd⟩ := R.obj
    rw [L2.setSearchFrom_succ]
    refine wpAny_bind (wpAny_setState_of ho hd R.fits ?_)
    dsimp only
    refine wp_if_neg R.stands ?_
    try refine wpAny_bind (wpAny_pure ?_)
    obtain ⟨p0, hp0⟩ : ∃ p0, p0 = runAt tb.mask (SetTable.bits (k.hash w) % (tb.mask + 1)) (SetTable.bits (k.hash w)) := ⟨_, rfl⟩
    rw [← hp0] at hfr
    have clean : ∀ (q : Nat) (p : SetTable.Probe), p.dummy = none → (nth tb.mask p q).dummy = none := by
      intro q
      induction q with
      | zero => intro p h; exact h
      | succ q ih =>
        intro p h
        refine ih (adv tb.mask p) ?_
        unfold adv
        split <;> exact h
    have d0 : (nth tb.mask p0 n).dummy = none := clean n p0 (by rw [hp0]; rfl)
    have on : ∀ q, nth tb.mask (nth tb.mask p0 n) q = nth tb.mask p0 (n + q) := fun q => (nth_add tb.mask n p0 q).symm
    have onj : ∀ q, (nth tb.mask (nth tb.mask p0 n) q).j = way tb.mask (k.hash w) (n + q) := fun q => by rw [on, hp0]
    have spec := go_spec tb R.tok.ris R.tok.dm (fun i => (en[i]?.map (·.1)).getD 0) (k.hash w) (10 * SetTable.turns tb.mask) (m - n) _ d0 (by omega)
      (fun q hq => by rw [onj]; exact hfull (n + q) (by omega)) (by rw [onj, show n + (m - n) = m by omega]; exact hfree)
    have hashOf : ∀ (i : Nat) p, ps[i]? = some p → (fun i => (en[i]?.map (·.1)).getD 0) i = p.2.hash w := fun i p hi => by
      simp only [R.at hi, Option.map_some, Option.getD_some]
    rcases spec with ⟨q, i, hq, hi, _, hno, hpr⟩ | ⟨hno, hpr⟩
    · have hpr2 : tb.probe (fun i => (en[i]?.map (·.1)).getD 0) (k.hash w) (from_.getD (tb.probeStart (k.hash w))) = some (.candidate (way tb.mask (k.hash w) (n + q)) i (nth tb.mask p0 (n + (q + 1)))) := by
        rw [hfr, ← onj, ← on]
        exact hpr
      rw [hpr2]
      dsimp only
      rw [onj] at hi
      have il : i < ps.length := by
        have z1 : i < tb.place.toList.length := (List.getElem?_eq_some_iff.mp hi).1
        have z2 := R.tok.sz
        rw [List.length_map] at z2
        rw [Array.length_toList] at z1
        omega
      obtain ⟨p, hp⟩ : ∃ p, ps[i]? = some p := ⟨_, List.getElem?_eq_getElem il⟩
      have pm : p ∈ ps := List.mem_of_getElem? hp
      have hpk := R.ek p pm
      have behind : wpAny (model P w) A (L2.searchRest c (.ref x) (k.hash w) true fuel en tb (way tb.mask (k.hash w) (n + q)) i (nth tb.mask p0 (n + (q + 1)))) Q E s := by
        unfold L2.searchRest
        rw [R.at hp]
        dsimp only
        refine wpAny_bind (wpAny_holding ((nestedKind P w).eqBool hu hpk hx ?_))
        refine wpAny_bind (wpAny_setState_of ho hd R.fits ?_)
        dsimp only
        by_cases same : p.2 = k
        · refine wp_if_pos (by simp [same]) ?_
          exact wpAny_pure (qin (List.mem_map.mpr ⟨p, pm, same⟩))
        · refine wp_if_neg (by simp [same]) ?_
          try refine wpAny_bind (wpAny_pure ?_)
          rw [L2.sameMem]
          dsimp only
          have live : tb.slot (way tb.mask (k.hash w) (n + q)) = .live i := slot_live R.tok.ris hi
          simp only [if_true, live, R.at hp]
          refine wpAny_bind (wpAny_isSame_ref_self (wpAny_bind (wpAny_pure ?_)))
          simp only [if_true]
          refine wp_if_neg (by simp [same]) ?_
          refine seekN R hx hu hm hfree hfull qin qout fuel (n + (q + 1)) _ (by rw [Option.getD_some, hp0]) (by omega) (by omega) fun i1 p1 h1 hk1 => ?_
          obtain ⟨n', a1, a2, a3⟩ := reach i1 p1 h1 hk1
          refine ⟨n', ?_, a2, a3⟩
          refine Classical.byContradiction fun z => ?_
          by_cases zz : n' = n + q
          · rw [zz] at a3
            have live2 := slot_live R.tok.ris a3
            rw [live] at live2
            injection live2 with live2
            rw [← live2, hp] at h1
            exact same ((congrArg Prod.snd (Option.some.inj h1)).trans hk1)
          · exact hno (n' - n) i1 (by omega) (by rw [onj, show n + (n' - n) = n' by omega]; exact a3) ((hashOf i1 p1 h1).trans (by rw [hk1]))
      by_cases hl : tb.led = true
      · refine wp_if_neg (by simp [hl]) ?_
        try refine wpAny_bind (wpAny_pure ?_)
        exact behind
      · refine wp_if_pos (by simp [hl]) ?_
        refine wpAny_bind (seenN hx (fun y hy => ?_) ?_)
        · obtain ⟨u, hu1, hu2⟩ := List.mem_map.mp hy
          have hu3 : u ∈ en ∧ u.1 = k.hash w := by simpa using hu1
          have hu4 : u ∈ en.toList := by simpa using hu3.1
          rw [R.rws] at hu4
          obtain ⟨p2, hp2, e2⟩ := List.mem_map.mp hu4
          exact ⟨p2.2, p2.1, by rw [← hu2, ← e2], R.ek p2 hp2⟩
        · refine wp_if_neg (by decide) ?_
          try refine wpAny_bind (wpAny_pure ?_)
          exact behind
    · have hpr2 : tb.probe (fun i => (en[i]?.map (·.1)).getD 0) (k.hash w) (from_.getD (tb.probeStart (k.hash w))) = some (.empty (way tb.mask (k.hash w) m) none) := by
        have ew : way tb.mask (k.hash w) m = (nth tb.mask (nth tb.mask p0 n) (m - n)).j := by rw [onj, show n + (m - n) = m by omega]
        rw [hfr, ew]
        exact hpr
      rw [hpr2]
      dsimp only
      refine wpAny_pure (qout fun hmem => ?_)
      obtain ⟨p1, hp1, hk1⟩ := List.mem_map.mp hmem
      obtain ⟨i1, hi1⟩ := List.getElem?_of_mem hp1
      obtain ⟨n', a1, a2, a3⟩ := reach i1 p1 hi1 hk1
      exact hno (n' - n) i1 (by omega) (by rw [onj, show n + (n' - n) = n' by omega]; exact a3) ((hashOf i1 p1 hi1).trans (by rw [hk1]))
/-- the search as an adding asks for it -/
theorem searchN (R : SetN P w s.heap c ps en ee tb) {x : Addr} {k : NestedKey} (hx : IsN P w s.heap k x) (hu : A.units + 8 < cLine) {Q : SetFound → Shared → Prop}
    (qin : k ∈ ps.map (·.2) → Q (.there none) s)
    (qout : ∀ m, k ∉ ps.map (·.2) → way tb.mask (k.hash w) m ∉ tb.place.toList → (∀ n, n < m → way tb.mask (k.hash w) n ∈ tb.place.toList) → Q (.free (way tb.mask (k.hash w) m) false) s) :
    wpAny (model P w) A (setSearch c (.ref x) (k.hash w) true) Q E s := by
  have z1 := R.room
  obtain ⟨m, m1, m2, m3⟩ := R.tok.first (by rw [List.length_map]; omega) (k.hash w)
  have big : m < 100000 := by
    have m1' := m1
    unfold SetTable.turns at m1'
    rcases R.tok.mok with e | e | e <;> rw [e] at m1' <;> omega
  unfold setSearch
  refine seekN R hx hu m1 m2 m3 qin (fun z => qout m z m2 m3) 100000 0 none rfl (Nat.zero_le _) (by omega) fun i p hp hk => ?_
  have hi : (ps.map fun p => p.2.hash w)[i]? = some (k.hash w) := by rw [List.getElem?_map, hp, ← hk]; rfl
  have il : i < tb.place.toList.length := by
    have z2 : i < ps.length := (List.getElem?_eq_some_iff.mp hp).1
    have z3 := R.tok.sz
    rw [List.length_map] at z3
    rw [Array.length_toList]
    omega
  obtain ⟨n, n1, n2⟩ := R.tok.before m2 hi (List.getElem?_eq_getElem il)
  exact ⟨n, Nat.zero_le _, n1, by rw [List.getElem?_eq_getElem il, n2]⟩
theorem nrows_put (ps : List (Addr × NestedKey)) (i : Nat) (x : Addr) (k : NestedKey) : nrows w (ps.take i ++ (x, k) :: ps.drop i) = (nrows w ps).take i ++ (k.hash w, Value.ref x) :: (nrows w ps).drop i := by
  simp only [nrows, List.map_append, List.map_cons, List.map_take, List.map_drop]
/-- in another order -/
theorem nrows_pick (ps : List (Addr × NestedKey)) (en : Array (Int × Value)) (ord : Array Nat) (h : en.toList = nrows w ps) (hp : ord.toList.Perm (List.range ps.length)) :
    ∃ ps2, (ord.filterMap (en[·]?)).toList = nrows w ps2 ∧ ps2.Perm ps ∧ (ps2.map fun p => p.2.hash w) = ord.toList.map fun i => (en.map (·.1)).getD i 0 := by
  have sz : en.size = ps.length := by rw [← Array.length_toList, h, nrows, List.length_map]
  have get : ∀ i, en[i]? = (ps[i]?).map fun p : Addr × NestedKey => (p.2.hash w, Value.ref p.1) := fun i => by rw [← Array.getElem?_toList, h, nrows, List.getElem?_map]
  have main : ∀ l : List Nat, (∀ i ∈ l, i < ps.length) → l.filterMap (fun i => en[i]?) = nrows w (l.filterMap fun i => ps[i]?) ∧ ((l.filterMap fun i => ps[i]?).map fun p => p.2.hash w) = l.map fun i => (en.map (·.1)).getD i 0 := by
    intro l
    induction l with
    | nil => intro _; exact ⟨rfl, rfl⟩
    | cons i l ih =>
      intro hl
      obtain ⟨e1, e2⟩ := ih fun j hj => hl j (List.mem_cons_of_mem _ hj)
      have hi := hl i List.mem_cons_self
      have pi := List.getElem?_eq_getElem hi
      have ei := get i
      rw [pi, Option.map_some] at ei
      rw [List.filterMap_cons_some ei, List.filterMap_cons_some pi, e1, List.map_cons, List.map_cons, e2]
      refine ⟨rfl, ?_⟩
      have : (en.map (·.1)).getD i 0 = (ps[i]).2.hash w := by
        rw [Array.getD_eq_getD_getElem?, Array.getElem?_map, ei]; rfl
      rw [this]
  obtain ⟨m1, m2⟩ := main ord.toList fun i hi => List.mem_range.mp (hp.mem_iff.mp hi)
  refine ⟨ord.toList.filterMap fun i => ps[i]?, by simpa using m1, ?_, m2⟩
  have whole : ∀ n, n ≤ ps.length → (List.range n).filterMap (fun i => ps[i]?) = ps.take n := by
    intro n
    induction n with
    | zero => intro _; rfl
    | succ n ih =>
      intro hn
      rw [List.range_succ, List.filterMap_append, ih (by omega), List.take_add_one, List.getElem?_eq_getElem (show n < ps.length by omega)]
      simp [List.getElem?_eq_getElem (show n < ps.length by omega)]
  have := hp.filterMap fun i => ps[i]?
  rw [whole _ (Nat.le_refl _), List.take_length] at this
  exact this
/-- a larger table -/
theorem relayN {o : Obj} (ho : s.heap.get? c = some o) (hex : o.ExactSet) (hd : o.data = .set en ee tb) (hr : en.toList = nrows w ps) (hs : tb.place.size = en.size) (hdm : tb.dummies = #[]) (hle : en.size ≤ tb.mask) (nd : (ps.map (·.2)).Nodup)
    (ks : ∀ p ∈ ps, IsN P w s.heap p.2 p.1) (ld : w.params.followText "set-order" = true ∨ tb.led = true) (few : ps.length ≤ 60) {want W : Nat} (w1 : SetTable.sizeAbove want - 1 = W) (w2 : MaskOk W) (w3 : SetTable.sizeAbove want ≤ 128) (w4 : ps.length * 5 < W * 3) {Q : Unit → Shared → Prop}
    (q : ∀ hp' ps' en' ee' tb', Heap.SameBut c s.heap hp' → SetN P w hp' c ps' en' ee' tb' → ps'.Perm ps → Q () { s with heap := hp' }) : wpAny (model P w) A (setRelay c want) Q E s := by
  have sz : en.size = ps.length := by rw [← Array.length_toList, hr, nrows, List.length_map]
  have fit : tb.fits en.size = true := by
    unfold SetTable.fits SetTable.fill
    rw [hdm, Bool.and_eq_true, beq_iff_eq, decide_eq_true_eq]
    exact ⟨hs, by show tb.place.size + 0 ≤ tb.mask; omega⟩
  obtain ⟨tb', ord, e, pm, T, em, el, epl, ed⟩ := relaid_ok tb (hs := en.map (·.1)) (wanted := want) w1 w2 (by rw [Array.size_map, sz]; omega)
  rw [Array.size_map, sz] at pm
  obtain ⟨ps2, r1, r2, r3⟩ := nrows_pick ps en ord hr pm
  rw [← r3] at T
  have s2 : (ord.filterMap (en[·]?)).size = en.size := by rw [← Array.length_toList, r1, nrows, List.length_map, r2.length_eq, sz]
  rw [L2.setRelay_eq]
  refine wpAny_bind (wpAny_setState_of ho hd fit ?_)
  dsimp only
  refine wp_if_neg (by rw [sizeLine_eq]; omega) ?_
  try refine wpAny_bind (wpAny_pure ?_)
  rw [e]
  dsimp only
  refine wpAny_bind ?_
  refine wp_if_neg (by rw [s2]; simp) ?_
  try refine wpAny_bind (wpAny_pure ?_)
  refine wpAny_pure ?_
  dsimp only
  refine wpAny_storeSet_of ho hd ?_ (by rw [s2, sz, sizeLine_eq]; omega)
  have sb : Heap.SameBut c s.heap (s.heap.update c (Obj.putSet (ord.filterMap (en[·]?)) tb')) := Heap.SameBut.update ..
  exact q _ ps2 (ord.filterMap (en[·]?)) (ee + 1) tb' sb ⟨⟨_, store_at ho hd, ⟨hex.1, hex.2.1, hex.2.2⟩, rfl⟩, r1, T, (r2.map (·.2)).nodup_iff.mpr nd, fun p hp => isN_beside (ks p (r2.mem_iff.mp hp)) ho hd sb, by rw [el]; exact ld, by rw [r2.length_eq, em]; exact w4, by rw [r2.length_eq]; exact few⟩ r2
/-- one more -/
theorem addN (R : SetN P w s.heap c ps en ee tb) {x : Addr} {k : NestedKey} (hx : IsN P w s.heap k x) (hu : A.units + 8 < cLine) (hsm : k ∉ ps.map (·.2) → ps.length ≤ 59) {Q : Bool → Shared → Prop}
    (q : ∀ b hp' ps' en' ee' tb', Heap.SameBut c s.heap hp' → SetN P w hp' c ps' en' ee' tb' → (k ∈ ps.map (·.2) → ps' = ps) → (k ∉ ps.map (·.2) → ps'.Perm ((x, k) :: ps)) → Q b { s with heap := hp' }) :
    wpAny (model P w) A (setAddHashed c (.ref x) (k.hash w)) Q E s := by
  obtain ⟨o, ho, hex, hd⟩ := R.obj
  have z1 := R.size
  have z2 := R.room
  unfold setAddHashed
  refine wpAny_holding ?_
  rw [show (100000 : Nat) = 99999 + 1 from rfl, L2.setAddHashedIn_succ]
  refine wpAny_bind (wpAny_setState_of ho hd R.fits ?_)
  dsimp only
  refine wp_if_neg (by simp [byScan, Value.scannable]) ?_
  try refine wpAny_bind (wpAny_pure ?_)
  refine wpAny_bind (searchN R hx hu (fun hm => ?_) fun m hm hfree hfull => ?_)
  · dsimp only
    exact wpAny_pure (q false s.heap ps en ee tb (Heap.SameBut.refl c s.heap) R (fun _ => rfl) fun z => absurd hm z)
  · dsimp only
    have hsm := hsm hm
    refine wpAny_bind (wpAny_setState_of ho hd R.fits ?_)
    dsimp only
    obtain ⟨p1, p2, p3, p4, p5, p6, p7, p8, p9⟩ := R.tok.put hfree hfull
    generalize hpt : tb.put (way tb.mask (k.hash w) m) = pt at p1 p3 p4 p5 p6 p7 p8 p9 ⊢
    obtain ⟨tb1, i⟩ := pt
    dsimp only at p1 p3 p4 p5 p6 p7 p8 p9 ⊢
    subst p1
    have hin : (SetTable.insertAt en (SetTable.below tb.place (way tb.mask (k.hash w) m)) (k.hash w, Value.ref x)).toList = nrows w (ps.take (SetTable.below tb.place (way tb.mask (k.hash w) m)) ++ (x, k) :: ps.drop (SetTable.below tb.place (way tb.mask (k.hash w) m))) := by
      rw [SetTable.toList_insertAt, nrows_put, R.rws]
    generalize SetTable.below tb.place (way tb.mask (k.hash w) m) = i at p2 p3 hin ⊢
    have pm := put_perm ps i (x, k)
    have hlen : (ps.take i ++ (x, k) :: ps.drop i).length = ps.length + 1 := pm.length_eq
    have hhs : (ps.take i ++ (x, k) :: ps.drop i).map (fun p => p.2.hash w) = (ps.map fun p => p.2.hash w).take i ++ k.hash w :: (ps.map fun p => p.2.hash w).drop i := by
      simp only [List.map_append, List.map_cons, List.map_take, List.map_drop]
    rw [← hhs] at p3
    have nd1 : ((ps.take i ++ (x, k) :: ps.drop i).map (·.2)).Nodup := by
      refine (pm.map (·.2)).nodup_iff.mpr ?_
      rw [List.map_cons]
      exact List.nodup_cons.mpr ⟨hm, R.dis⟩
    have hes : (SetTable.insertAt en i (k.hash w, Value.ref x)).size = ps.length + 1 := by
      rw [← Array.length_toList, hin, nrows, List.length_map, hlen]
    generalize SetTable.insertAt en i (k.hash w, Value.ref x) = en1 at hin hes ⊢
    generalize ps.take i ++ (x, k) :: ps.drop i = ps1 at pm hlen p3 nd1 hin
    have goal : ∀ tb2 : SetTable, TabOk tb2 (ps1.map fun p => p.2.hash w) → tb2.mask = tb.mask → tb2.led = tb.led → tb2.fill = ps.length + 1 →
        wpAny (model P w) A (storeSet c en1 tb2 >>= fun _ => if (!false && tb2.tooFull) = true then (do setRelay c (SetTable.grown (en.size + 1)); pure true) else pure true) Q E s := fun tb2 t1 t2 t3 t4 => by
      refine wpAny_bind ?_
      refine wpAny_storeSet_of ho hd ?_ (by rw [hes, sizeLine_eq]; omega)
      have sb : Heap.SameBut c s.heap (s.heap.update c (Obj.putSet en1 tb2)) := Heap.SameBut.update ..
      have ho1 := store_at (es' := en1) (t' := tb2) ho hd
      generalize s.heap.update c (Obj.putSet en1 tb2) = hp1 at sb ho1 ⊢
      have keys1 : ∀ p ∈ ps1, IsN P w hp1 p.2 p.1 := fun p hp => by
        rcases List.mem_cons.mp (pm.mem_iff.mp hp) with e | hp
        · rw [e]; exact isN_beside hx ho hd sb
        · exact isN_beside (R.ek p hp) ho hd sb
      have ld1 : w.params.followText "set-order" = true ∨ tb2.led = true := by rw [t3]; exact R.ld
      by_cases hf : tb2.tooFull = true
      · have full : (ps.length + 1) * 5 ≥ tb.mask * 3 := by
          have h := hf
          unfold SetTable.tooFull at h
          rw [decide_eq_true_eq, t4, t2] at h
          exact h
        have two : (tb.mask = 7 ∧ ps.length = 4) ∨ (tb.mask = 31 ∧ ps.length = 18) := by
          rcases R.tok.mok with e | e | e
          · left; rw [e] at full z2; exact ⟨e, by omega⟩
          · right; rw [e] at full z2; exact ⟨e, by omega⟩
          · exfalso; rw [e] at full; omega
        have at1 : tb2.place.size = en1.size := by
          have h := t1.sz
          rw [List.length_map, hlen] at h
          rw [h, hes]
        refine wp_if_pos (by rw [hf]; rfl) ?_
        rw [z1]
        have lay : ∀ W : Nat, SetTable.sizeAbove (SetTable.grown (ps.length + 1)) - 1 = W → MaskOk W → SetTable.sizeAbove (SetTable.grown (ps.length + 1)) ≤ 128 → (ps.length + 1) * 5 < W * 3 →
            wpAny (model P w) A (do setRelay c (SetTable.grown (ps.length + 1)); pure true) Q E { s with heap := hp1 } := fun W w1 w2 w3 w4 => by
          refine wpAny_bind (relayN (s := { s with heap := hp1 }) ho1 ⟨hex.1, hex.2.1, hex.2.2⟩ rfl hin at1 t1.dm (by rw [hes, t2]; rcases two with ⟨e, e2⟩ | ⟨e, e2⟩ <;> omega) nd1 keys1 ld1 (by rw [hlen]; omega) w1 w2 w3 (by rw [hlen]; exact w4) ?_)
          intro hp2 ps2 en2 ee2 tb3 sb2 R2 pm2
          exact wpAny_pure (q true hp2 ps2 en2 ee2 tb3 (sb.trans sb2) R2 (fun z => absurd z hm) fun _ => pm2.trans pm)
        rcases two with ⟨_, e2⟩ | ⟨_, e2⟩
        · exact lay 31 (by rw [e2, size_20]) (.inr (.inl rfl)) (by rw [e2, size_20]; decide) (by omega)
        · exact lay 127 (by rw [e2, size_76]) (.inr (.inr rfl)) (by rw [e2, size_76]; decide) (by omega)
      · have nf : tb2.tooFull = false := by simpa using hf
        have rest : ps1.length * 5 < tb2.mask * 3 := by
          have h := nf
          unfold SetTable.tooFull at h
          rw [decide_eq_false_iff_not, t4, t2] at h
          rw [hlen, t2]
          omega
        refine wp_if_neg (by rw [nf]; decide) ?_
        exact wpAny_pure (q true hp1 ps1 en1 (ee + 1) tb2 sb ⟨⟨_, ho1, ⟨hex.1, hex.2.1, hex.2.2⟩, rfl⟩, hin, t1, nd1, keys1, ld1, rest, by rw [hlen]; omega⟩ (fun z => absurd z hm) fun _ => pm)
    rw [List.length_map] at p9
    have t7 : tb1.mask = tb.mask := p4
    by_cases hpl : tb1.plain = true
    · refine wp_if_pos hpl ?_
      refine wpAny_bind (byA_key _ _ 8 _ hx.1 hx.2 _ _ _ fun r => ?_)
      cases r
      · exact goal { tb1 with plain := false } ⟨p3.ris, p3.dm, p3.sz, p3.mok, p3.bd, p3.reach⟩ t7 p5 p9
      · exact goal tb1 p3 t7 p5 p9
    · refine wp_if_neg hpl ?_
      refine wpAny_bind (wpAny_pure ?_)
      exact goal tb1 p3 t7 p5 p9
/-! ### set(list) -/
/-- what the set has of the first i -/
structure GotN (ks : List (Addr × NestedKey)) (i : Nat) (ps : List (Addr × NestedKey)) : Prop where
  sub : ∀ p ∈ ps, p ∈ ks.take i
  all : ∀ p ∈ ks.take i, p.2 ∈ ps.map (·.2)
theorem gotN_same {ks ps : List (Addr × NestedKey)} {i : Nat} {p : Addr × NestedKey} (g : GotN ks i ps) (h : ks[i]? = some p) (hm : p.2 ∈ ps.map (·.2)) : GotN ks (i + 1) ps := by
  have et : ks.take (i + 1) = ks.take i ++ [p] := by rw [List.take_add_one, h]; rfl
  constructor
  · intro r hr
    rw [et]
    exact List.mem_append_left _ (g.sub r hr)
  · intro r hr
    rw [et, List.mem_append, List.mem_singleton] at hr
    rcases hr with hr | rfl
    · exact g.all r hr
    · exact hm
theorem gotN_more {ks ps ps' : List (Addr × NestedKey)} {i : Nat} {p : Addr × NestedKey} (g : GotN ks i ps) (h : ks[i]? = some p) (pm : ps'.Perm (p :: ps)) : GotN ks (i + 1) ps' := by
  have et : ks.take (i + 1) = ks.take i ++ [p] := by rw [List.take_add_one, h]; rfl
  constructor
  · intro r hr
    rw [et, List.mem_append, List.mem_singleton]
    rcases List.mem_cons.mp (pm.mem_iff.mp hr) with rfl | hr
    · exact .inr rfl
    · exact .inl (g.sub r hr)
  · intro r hr
    rw [(pm.map (·.2)).mem_iff, List.map_cons, List.mem_cons]
    rw [et, List.mem_append, List.mem_singleton] at hr
    rcases hr with hr | rfl
    · exact .inr (g.all r hr)
    · exact .inl rfl
theorem short_of {α : Type} [DecidableEq α] : ∀ {l D : List α}, l.Nodup → (∀ x ∈ l, x ∈ D) → l.length ≤ D.length
  | [], _, _, _ => Nat.zero_le _
  | x :: l, D, hn, hs => by
    rw [List.nodup_cons] at hn
    have hx := hs x List.mem_cons_self
    have := short_of (l := l) (D := D.erase x) hn.2 fun y hy => (List.mem_erase_of_ne (by intro e; subst e; exact hn.1 hy)).mpr (hs y (List.mem_cons_of_mem _ hy))
    rw [List.length_erase_of_mem hx] at this
    have := List.length_pos_of_mem hx
    rw [List.length_cons]
    omega
theorem SetN.carry {hp hp' : Heap} (R : SetN P w hp c ps en ee tb) (ha : ∀ o, hp.get? c = some o → hp'.get? c = some o) (ht : ∀ p ∈ ps, IsN P w hp' p.2 p.1) : SetN P w hp' c ps en ee tb :=
  ⟨let ⟨o, ho, r⟩ := R.obj; ⟨o, ha o ho, r⟩, R.rws, R.tok, R.dis, ht, R.ld, R.room, R.few⟩
theorem setN_new {hp : Heap} (ho : hp.get? c = some { cls := .type "set", dict := none, data := .set #[] 0 (.fresh 0 0 (!w.params.followText "set-order")) }) : SetN P w hp c [] #[] 0 (.fresh 0 0 (!w.params.followText "set-order")) := by
  refine ⟨⟨_, ho, ⟨rfl, rfl, rfl⟩, rfl⟩, rfl, ⟨List.Pairwise.nil, rfl, rfl, .inl rfl, fun x hx => (by cases hx), fun i h j hi => (by simp at hi)⟩, List.nodup_nil, fun p hp => (by cases hp), ?_, (show 0 < 7 * 3 by decide), by simp⟩
  show _ ∨ (!w.params.followText "set-order") = true
  cases w.params.followText "set-order"
  · exact .inr rfl
  · exact .inl rfl
/-- the loop that takes one item after another -/
theorem fillN {I : Addr} {fp wr : List Addr} {G : Array GenState → Array GenState → Prop} {n : Nat} {Pv : Nat → Value → Prop} {St : Nat → Shared → Prop} {R : Result → Shared → Prop}
    (W : WalksS P w A.in1 I fp wr G n Pv St) (S : Addr) (outside : S ∉ fp) (ks : List (Addr × NestedKey)) (D : List NestedKey) (hn : n = ks.length) (hD : D.length ≤ 60) (hks : ∀ p ∈ ks, p.2 ∈ D) (val : ∀ i v, Pv i v → ∃ p, ks[i]? = some p ∧ v = .ref p.1)
    (h0 : Heap) (key0 : ∀ p ∈ ks, IsN P w h0 p.2 p.1) (S0 : h0.get? S = none) (w0 : ∀ b ∈ wr, h0.get? b = none) (hu : A.in1.units + 8 < cLine) :
    ∀ (left i : Nat) (s : Shared), n - i = left → i ≤ n → St i s → (∀ b o, h0.get? b = some o → s.heap.get? b = some o) → (∃ ps en ee tb, SetN P w s.heap S ps en ee tb ∧ GotN ks i ps) →
      (∀ s' ps en ee tb, Moved (S :: wr) G s s' → SetN P w s'.heap S ps en ee tb → GotN ks n ps → (∀ b o, h0.get? b = some o → s'.heap.get? b = some o) → R (.ok (.ret .none)) s') →
      codeAny (model P w) A (.builtin "set.update.loop" ⟨[.ref S, .ref I], []⟩) R s := by
  have offW : S ∉ wr := fun z => outside (W.sub _ z)
  have wide : ∀ b ∈ wr, b ∈ S :: wr := fun b hb => List.mem_cons_of_mem _ hb
  have still : ∀ {s s' : Shared}, Moved wr G s s' → (∀ b o, h0.get? b = some o → s.heap.get? b = some o) → ∀ b o, h0.get? b = some o → s'.heap.get? b = some o := fun mv hk b o e =>
    mv.heap b o (fun hb => by rw [w0 b hb] at e; cases e) (hk b o e)
  intro left
  induction left with
  | zero =>
    intro i s hleft hi hst hk ⟨ps, en, ee, tb, RS, g⟩ fin
    obtain rfl : i = n := by omega
    refine codeAny_builtin F.entry_set_update_loop ?_
    rw [Around.under_plainId F.plain_set_update_loop _]
    show wpAny _ A.in1 (pyNext (.ref I) >>= _) _ _ s
    refine wpAny_bind (W.done s _ _ hst fun s' mv => ?_)
    have hk' := still mv hk
    exact wpAny_pure (fin s' ps en ee tb (mv.mono wide) (RS.carry (fun o e => mv.heap S o offW e) fun p hp => isN_stays (key0 p (List.mem_of_mem_take (g.sub p hp))) hk') g hk')
  | succ left ih =>
    intro i s hleft hi hst hk ⟨ps, en, ee, tb, RS, g⟩ fin
    have hlt : i < n := by omega
    refine codeAny_builtin F.entry_set_update_loop ?_
    rw [Around.under_plainId F.plain_set_update_loop _]
    show wpAny _ A.in1 (pyNext (.ref I) >>= _) _ _ s
    refine wpAny_bind (W.item i s _ _ hlt hst fun v s' hPv hst' mv => ?_)
    obtain ⟨p, hp, rfl⟩ := val i v hPv
    have hk' := still mv hk
    have RS' : SetN P w s'.heap S ps en ee tb := RS.carry (fun o e => mv.heap S o offW e) fun q hq => isN_stays (key0 q (List.mem_of_mem_take (g.sub q hq))) hk'
    have hx : IsN P w s'.heap p.2 p.1 := isN_stays (key0 p (List.mem_of_getElem? hp)) hk'
    show wpAny _ A.in1 (holding [Value.ref p.1] (setAdd S (.ref p.1)) >>= _) _ _ s'
    refine wpAny_bind (wpAny_holding ?_)
    unfold setAdd
    refine wpAny_holding ?_
    refine wpAny_bind ((nestedKind P w).pyHash hu hx ?_)
    have room : p.2 ∉ ps.map (·.2) → ps.length ≤ 59 := fun z => by
      have nd : (p.2 :: ps.map (·.2)).Nodup := List.nodup_cons.mpr ⟨z, RS.dis⟩
      have := short_of (D := D) nd fun x hx => by
        rcases List.mem_cons.mp hx with rfl | hx
        · exact hks p (List.mem_of_getElem? hp)
        · obtain ⟨q, hq, rfl⟩ := List.mem_map.mp hx
          exact hks q (List.mem_of_mem_take (g.sub q hq))
      rw [List.length_cons, List.length_map] at this
      omega
    refine addN (s := { s' with toks := s'.toks + (nestedKind P w).draws p.2 }) RS' hx hu room fun b hp' ps' en' ee' tb' sb RS2 c1 c2 => ?_
    have g' : GotN ks (i + 1) ps' := by
      by_cases z : p.2 ∈ ps.map (·.2)
      · rw [c1 z]; exact gotN_same g hp z
      · exact gotN_more g hp (c2 z)
    have hk2 : ∀ b o, h0.get? b = some o → hp'.get? b = some o := fun b o e => (sb.2 b (fun z => by rw [z, S0] at e; cases e)).trans (hk' b o e)
    refine wpAny_pure ⟨plainId_quiet F.plain_set_update_loop _, ih (i + 1) _ (by omega) hlt (W.frame _ s' _ _ hst' (Nat.le_add_right _ _) fun b hb o e => ?_) hk2 ⟨ps', en', ee', tb', RS2, g'⟩ fun s'' ps2 en2 ee2 tb2 mv2 RS3 g3 hk3 => ?_⟩
    · have : b ≠ S := fun z => outside (z ▸ hb)
      rw [sb.2 b this]; exact e
    · refine fin s'' ps2 en2 ee2 tb2 (Moved.trans W.gtrans ((mv.mono wide).then_heap (Nat.le_add_right _ _) fun b o hb e => ?_) mv2) RS3 g3 hk3
      have : b ≠ S := fun z => hb (by rw [z]; exact List.mem_cons_self)
      rw [sb.2 b this]; exact e
set_option maxHeartbeats 3200000 in
/-- set(list) -/
theorem call_setN {l : Addr} {items : Array Value} (ks : List (Addr × NestedKey)) (D : List NestedKey) {Q : Value → Shared → Prop} (hh : A.handled = none) (hl : s.heap.IsList l items) (hit : items.toList = ks.map fun p => Value.ref p.1)
    (hk : ∀ p ∈ ks, IsN P w s.heap p.2 p.1) (hD : D.length ≤ 60) (hks : ∀ p ∈ ks, p.2 ∈ D) (hu : A.units + 20 < cLine)
    (fin : ∀ (hp : Heap) (tk : Nat) ps en ee tb, SetN P w hp s.heap.objs.size ps en ee tb → GotN ks ks.length ps → (∀ b o, s.heap.get? b = some o → hp.get? b = some o) → Q (.ref s.heap.objs.size) { s with heap := hp, toks := tk }) :
    wpAny (model P w) A (call (.type "set") [.ref l]) Q E s := by
  have isz : items.size = ks.length := by rw [← Array.length_toList, hit, List.length_map]
  obtain ⟨kls, tl, hmro⟩ := F.called_set.mro
  have hmade := F.called_set.made
  have hsub := F.called_set.sub
  refine wpAny_call (codeAny_of_tree ?_)
  show wpAny _ _ (callAny (.type "set") _) _ _ _
  refine wpAny_pure ⟨Code.quiet_builtin _ (by decide +kernel), codeAny_builtin F.entry_type_call ?_⟩
  rw [Around.under_plain (weight_type_call_type "set" [.ref l] []) rfl]
  have a1 := F.called_set.notType
  have a2 := F.called_set.canCreate
  have a3 := F.typeCall_set_1 (.ref l)
  repeat (any_goals (first | assumption | wp_step))
  refine codeAny_mono (code_set_led1 (.ref l) (E := E) (Q₁ := fun obj s1 => obj = .ref s.heap.objs.size ∧ s1 = { s with heap := s.heap.push { cls := .type "set", dict := none, data := .set #[] 0 (.fresh 0 0 (!w.params.followText "set-order")) } }) ⟨rfl, rfl⟩) fun r s1 hr => ?_
  cases r with
  | error e => exact hr
  | ok fl =>
    cases fl with
    | ret obj =>
      obtain ⟨rfl, rfl⟩ := hr
      have hS : (s.heap.push { cls := .type "set", dict := none, data := .set #[] 0 (.fresh 0 0 (!w.params.followText "set-order")) }).get? s.heap.objs.size = some { cls := .type "set", dict := none, data := .set #[] 0 (.fresh 0 0 (!w.params.followText "set-order")) } := Heap.get?_push_size _ rfl
      have hT : Shared.TypeIs { s with heap := s.heap.push { cls := .type "set", dict := none, data := .set #[] 0 (.fresh 0 0 (!w.params.followText "set-order")) } } (.ref s.heap.objs.size) "set" := ⟨_, hS, rfl⟩
      have hli := F.called_set.init.lookup
      have hbi := F.called_set.init.bind (.ref s.heap.objs.size)
      repeat (any_goals (first | assumption | wp_step))
      refine codeAny_mono (codeAny_call_builtin (R := wants (fun r s2 => r = .none ∧ ∃ hp tk ps en ee tb, s2 = { s with heap := hp, toks := tk } ∧ SetN P w hp s.heap.objs.size ps en ee tb ∧ GotN ks ks.length ps ∧
          (∀ b o, s.heap.get? b = some o → hp.get? b = some o)) E) F.called_set.init.plain F.entry_set_init (check_set_init_1 hT ?_)) fun r2 s2 hr2 => ?_
      · obtain ⟨ol, hol, hcl, nl, hdl⟩ := hl
        obtain ⟨ocls, odict, odata, oslots⟩ := ol
        simp only at hcl hdl
        subst hcl; subst hdl
        have hol2 : (s.heap.push { cls := .type "set", dict := none, data := .set #[] 0 (.fresh 0 0 (!w.params.followText "set-order")) }).get? l = some { cls := .type "list", dict := odict, data := .seq items nl, slots := oslots } := Heap.get?_push_of_some _ hol
        have b1 := F.sub_list_set
        have b2 := F.sub_list_frozenset
        have b3 : (Value.type "list" == Value.type "dict") = false := by decide
        have list1 : (s.heap.push { cls := .type "set", dict := none, data := .set #[] 0 (.fresh 0 0 (!w.params.followText "set-order")) }).IsList l items := ⟨_, hol2, rfl, nl, rfl⟩
        unfold Builtin.«set.__init__» noKeywords Builtin.Frozenset.updateFrom
        generalize hPI : pyIter = PI
        wp_walk
        subst hPI
        refine wpAny_pyIter_list (s := { s with heap := s.heap.push { cls := .type "set", dict := none, data := .set #[] 0 (.fresh 0 0 (!w.params.followText "set-order")) } }) list1 ?_
        refine wpAny_bind (wpAny_runValue ?_)
        have lS : l < s.heap.objs.size := Heap.lt_size hol
        have hh3 : A.in1.in1.in1.handled = none := by simp [hh]
        have sz1 : (s.heap.push { cls := .type "set", dict := none, data := .set #[] 0 (.fresh 0 0 (!w.params.followText "set-order")) }).objs.size = s.heap.objs.size + 1 := Heap.size_push ..
        have neI : l ≠ (s.heap.push { cls := .type "set", dict := none, data := .set #[] 0 (.fresh 0 0 (!w.params.followText "set-order")) }).objs.size := by rw [sz1]; exact Nat.ne_of_lt (Nat.lt_succ_of_lt lS)
        have offS : s.heap.objs.size ∉ [(s.heap.push { cls := .type "set", dict := none, data := .set #[] 0 (.fresh 0 0 (!w.params.followText "set-order")) }).objs.size, l] := by
          rw [sz1]
          simp only [List.mem_cons, List.not_mem_nil, or_false, not_or]
          refine ⟨?_, ?_⟩
          · exact Nat.ne_of_lt (Nat.lt_succ_self _)
          · exact Nat.ne_of_gt lS
        have val : ∀ (i : Nat) (v : Value), items[i]? = some v → ∃ p, ks[i]? = some p ∧ v = .ref p.1 := fun i v hv => by
          rw [← Array.getElem?_toList, hit, List.getElem?_map] at hv
          obtain ⟨p, hp, e⟩ := Option.map_eq_some_iff.mp hv
          exact ⟨p, hp, e.symm⟩
        have none_at : ∀ b, s.heap.objs.size ≤ b → s.heap.get? b = none := fun b hb => by
          cases z : s.heap.get? b with
          | none => rfl
          | some o => exact absurd (Nat.lt_of_lt_of_le (Heap.lt_size z) hb) (Nat.lt_irrefl b)
        refine fillN ((Walks.list hh3 _ l neI items).toS) s.heap.objs.size offS ks D isz hD hks val s.heap hk (none_at _ (Nat.le_refl _)) (fun b hb => none_at b (by
            rw [List.mem_singleton.mp hb, sz1]
            exact Nat.le_succ _)) (by simp only [Around.in1_units]; omega) (items.size - 0) 0 _ (by omega) (Nat.zero_le _)
          ⟨⟨_, Heap.get?_push_size _ rfl, rfl, rfl⟩, (list1.push _)⟩ (fun b o e => Heap.get?_push_of_some _ (Heap.get?_push_of_some _ e)) ?start ?stop
        case start =>
          exact ⟨[], #[], 0, _, setN_new (Heap.get?_push_of_some _ hS), fun p hp => (by cases hp), fun p hp => (by simp at hp)⟩
        case stop =>
          intro s' ps en ee tb mv RS g hk'
          obtain ⟨hp, g2, d2, tk2, os2⟩ := s'
          have eg : g2 = s.gens := mv.gens
          have ed : d2 = s.drawn := mv.drawn
          have eo : os2 = s.os := mv.os
          subst eg; subst ed; subst eo
          show wpAny _ _ _ _ _ _
          refine wpAny_pure ?_
          show wpAny _ _ (ret Value.none) _ _ _
          rw [isz] at g
          exact wpAny_pure ⟨rfl, hp, tk2, ps, en, ee, tb, rfl, RS, g, hk'⟩
      · cases r2 with
        | error e => exact hr2
        | ok fl2 =>
          cases fl2 with
          | ret r =>
            obtain ⟨rfl, hp, tk, ps, en, ee, tb, rfl, RS, g, hk'⟩ := hr2
            repeat (any_goals (first | assumption | wp_step))
            exact fin _ _ _ _ _ _ RS g hk'
          | _ => exact hr2.elim
    | _ => exact hr.elim
mutual
theorem reads_at {hp : Heap} : ∀ (d : PyData) (v : Value) (as : List Addr), PySem.W.alike d d = true → Reads hp v d as → ∀ b ∈ as, ∃ o, hp.get? b = some o
  | .none, _, _, _, r, b, hb => by cases r; cases hb
  | .bool _, _, _, _, r, b, hb => by cases r; cases hb
  | .int _, _, _, _, r, b, hb => by cases r; cases hb
  | .str _, _, _, _, r, b, hb => by cases r; cases hb
  | .list xs, _, _, al, r, b, hb => by
    cases r with
    | list h1 h2 h3 h4 =>
      rcases List.mem_cons.mp hb with rfl | hb
      · exact ⟨_, h1⟩
      · exact reads_all_at xs _ _ (by simpa [PySem.W.alike] using al) h4 b hb
  | .tuple xs, _, _, al, r, b, hb => by
    cases r with
    | tuple h1 h2 h3 h4 => exact reads_all_at xs _ _ (by simpa [PySem.W.alike] using al) h4 b hb
  | .dict _, _, _, al, _, _, _ => absurd al (by simp [PySem.W.alike])
theorem reads_all_at {hp : Heap} : ∀ (ds : List PyData) (vs : List Value) (as : List Addr), PySem.W.alikeAll ds ds = true → ReadsAll hp vs ds as → ∀ b ∈ as, ∃ o, hp.get? b = some o
  | [], _, _, _, r, b, hb => by cases r; cases hb
  | d :: ds, _, _, al, r, b, hb => by
    rw [PySem.W.alikeAll, Bool.and_eq_true] at al
    cases r with
    | cons h1 h2 =>
      rcases List.mem_append.mp hb with hb | hb
      · exact reads_at d _ _ al.1 h1 b hb
      · exact reads_all_at ds _ _ al.2 h2 b hb
end
end
end BF

set_option Elab.async false
set_option linter.all false
set_option autoImplicit false
set_option maxRecDepth 100000
/-! sorted(set(list)) of nested tuples, one rule. -/
namespace BF
open PySem PySem.Spec
open PyProof.Rows L2
section
variable {P : Program} {w : World} {A : Around} {E : Value → Shared → Prop} {s : Shared}
variable {c : Addr} {ps : List (Addr × NestedKey)} {en : Array (Int × Value)} {ee : Nat} {tb : SetTable}
theorem refs_perm {ps : List (Addr × NestedKey)} : ∀ {vs : List Value}, (∀ v ∈ vs, ∃ q ∈ ps, v = Value.ref q.1) → ∃ qs : List (Addr × NestedKey), vs = qs.map (fun q => Value.ref q.1) ∧ ∀ q ∈ qs, q ∈ ps
  | [], _ => ⟨[], rfl, fun _ h => (by cases h)⟩
  | v :: vs, h => by
    obtain ⟨q, hq, e⟩ := h v List.mem_cons_self
    obtain ⟨qs, e1, h1⟩ := refs_perm fun u hu => h u (List.mem_cons_of_mem _ hu)
    exact ⟨q :: qs, by rw [List.map_cons, e, e1], fun r hr => (List.mem_cons.mp hr).elim (fun z => z ▸ hq) (h1 r)⟩
theorem refs_in : ∀ {us : List Value} {qs : List (Addr × NestedKey)}, PySem.W.EachIs (fun u (q : Addr × NestedKey) => u = Value.ref q.1) us qs → us = qs.map fun q => Value.ref q.1
  | _, [], h => by cases h; rfl
  | _, _ :: _, h => by
    cases h with
    | cons h1 h2 => rw [List.map_cons, h1, refs_in h2]
theorem refs_out {R : Value → Addr × NestedKey → Prop} : ∀ (qs : List (Addr × NestedKey)), (∀ q ∈ qs, R (.ref q.1) q) → PySem.W.EachIs R (qs.map fun q => Value.ref q.1) qs
  | [], _ => .nil
  | q :: qs, h => .cons (h q List.mem_cons_self) (refs_out qs fun r hr => h r (List.mem_cons_of_mem _ hr))
set_option maxHeartbeats 1600000 in
/-- sorted(set) -/
theorem sort_setN (R : SetN P w s.heap c ps en ee tb) (hh : A.handled = none) (hu : A.units + 65 < cLine) (dt : Addr × NestedKey → PyData) (rd : ∀ p ∈ ps, ∃ as, Reads s.heap (.ref p.1) (dt p) as)
    (al : ∀ p ∈ ps, ∀ q ∈ ps, PySem.W.alike (dt p) (dt q) = true) (tc : (∀ p ∈ ps, ∃ x r, dt p = .tuple (x :: r)) ∨ ps.map dt = [.tuple []]) (dep : ∀ p ∈ ps, (dt p).depth ≤ 50) {Q : Value → Shared → Prop}
    (fin : ∀ s' b (n : Nat) (qs : List (Addr × NestedKey)), (∀ d o, s.heap.get? d = some o → s'.heap.get? d = some o) → s'.gens = s.gens → s'.os = s.os → s.heap.objs.size ≤ b →
      s'.heap.get? b = some (seqObj "list" (qs.map fun q => Value.ref q.1).toArray n) → qs.Perm ps → qs.Pairwise (fun p q => PySem.W.dataLe false dt p q = true) → Q (.ref b) s') :
    wpAny (model P w) A (call (.builtin "sorted") [.ref c]) Q E s := by
  obtain ⟨o, ho, hex, hd⟩ := R.obj
  have sz := R.size
  have sm := R.few
  refine Calls.call_function_entry kind_sorted plain_sorted entry_sorted (args_sorted1 _) ?_
  unfold Builtin.«sorted»
  refine wpAny_bind (m := checkCount "sorted" 1 1 _) (wpAny_pure ?_)
  refine wpAny_bind (collect_set (A := A.in1) hh ⟨o, ho, hex.1, hd⟩ R.fits (by unfold scanBound; omega) R.tok.ris R.ld fun s1 vs k1 z1 g1 o1 pm => ?_)
  have evs : en.toList.map (·.2) = ps.map fun q => Value.ref q.1 := by
    rw [R.rws, nrows, List.map_map]; rfl
  rw [evs] at pm
  obtain ⟨qs, e1, inq⟩ := refs_perm (ps := ps) (vs := vs) fun v hv => by
    obtain ⟨q, hq, e⟩ := List.mem_map.mp (pm.mem_iff.mp hv)
    exact ⟨q, hq, e.symm⟩
  subst e1
  have one : ∀ q ∈ ps, ∀ r ∈ ps, q.1 = r.1 → q = r := fun q hq r hr e => by
    have t1 := R.ek q hq
    have t2 := R.ek r hr
    rw [e] at t1
    exact Prod.ext e ((nestedKind P w).inj t1 t2)
  have nps : ps.Nodup := List.Pairwise.of_map (·.2) (fun _ _ hne e => hne (congrArg _ e)) R.dis
  have nref : (ps.map fun q => Value.ref q.1).Nodup := by
    refine List.pairwise_map.mpr (List.Pairwise.imp_of_mem (fun {q r} hq hr hne e => ?_) nps)
    injection e with e
    exact hne (one q hq r hr e)
  have nqs : qs.Nodup := List.Pairwise.of_map (fun q : Addr × NestedKey => Value.ref q.1) (fun _ _ hne e => hne (congrArg (fun q : Addr × NestedKey => Value.ref q.1) e)) (pm.nodup_iff.mpr nref)
  have pq : qs.Perm ps := (List.perm_ext_iff_of_nodup nqs nps).mpr fun q => ⟨inq q, fun hq => by
    have : Value.ref q.1 ∈ qs.map fun q => Value.ref q.1 := pm.mem_iff.mpr (List.mem_map.mpr ⟨q, hq, rfl⟩)
    obtain ⟨r, hr, e⟩ := List.mem_map.mp this
    injection e with e
    rw [← one r (inq r hr) q hq e]
    exact hr⟩
  have ql : qs.length ≤ 60 := by rw [pq.length_eq]; exact sm
  refine wpAny_bind (wpAny_newList ?_ (by rw [sizeLine_eq, List.length_map]; omega))
  have hoL : (s1.heap.push (seqObj "list" (qs.map fun q => Value.ref q.1).toArray 0)).get? s1.heap.objs.size = some (seqObj "list" (qs.map fun q => Value.ref q.1).toArray 0) := Heap.get?_push_size _ rfl
  obtain ⟨h2, hh2⟩ : ∃ h2, h2 = s1.heap.push (seqObj "list" (qs.map fun q => Value.ref q.1).toArray 0) := ⟨_, rfl⟩
  rw [← hh2] at hoL ⊢
  have keep2 : ∀ d u, s.heap.get? d = some u → h2.get? d = some u := fun d u e => by rw [hh2]; exact Heap.get?_push_of_some _ (k1 d u e)
  have rds : ∀ q ∈ qs, ∃ as, Reads h2 (.ref q.1) (dt q) as ∧ s1.heap.objs.size ∉ as := fun q hq => by
    obtain ⟨as, r⟩ := rd q (inq q hq)
    have r1 : Reads s1.heap (.ref q.1) (dt q) as := PyProof.Rows.Reads.keeps k1 r
    refine ⟨as, by rw [hh2]; exact PyProof.Rows.Reads.keeps (fun _ _ => Heap.get?_push_of_some _) r1, fun hm => ?_⟩
    obtain ⟨u, hu1⟩ := reads_at _ _ _ (al q (inq q hq) q (inq q hq)) r1 _ hm
    exact absurd (Heap.lt_size hu1) (Nat.lt_irrefl _)
  have done : ∀ out : List Value, (∃ rs : List (Addr × NestedKey), out = (rs.map fun q => Value.ref q.1) ∧ rs.Perm qs ∧ rs.Pairwise (fun p q => PySem.W.dataLe false dt p q = true)) → ∀ sh : Shared, sh.gens = s1.gens → sh.os = s1.os → sh.heap = sortedHeap h2 s1.heap.objs.size (qs.map fun q => Value.ref q.1) out.toArray → Q (.ref s1.heap.objs.size) sh := by
    rintro out ⟨rs, rfl, pr, pw⟩ sh e1 e2 e3
    obtain ⟨n, hn⟩ := sortedHeap_at (vs := qs.map fun q => Value.ref q.1) (out := (rs.map fun q => Value.ref q.1).toArray) hoL
    refine fin sh s1.heap.objs.size n rs (fun d u e => ?_) (e1.trans g1) (e2.trans o1) z1 (by rw [e3]; exact hn) (pr.trans pq) pw
    have lt := Heap.lt_size (k1 d u e)
    rw [e3, sortedHeap_old (Nat.ne_of_lt lt) (by rw [hh2, size_push']; exact Nat.lt_succ_of_lt lt)]
    exact keep2 d u e
  have hal : PySem.W.AllAlike (qs.map dt) := by
    intro d hd d' hd'
    obtain ⟨q, hq, rfl⟩ := List.mem_map.mp hd
    obtain ⟨r, hr, rfl⟩ := List.mem_map.mp hd'
    exact al q (inq q hq) r (inq r hr)
  rcases tc with tc | tc
  · refine wpAny_bind (wpAny_holding (PySem.W.list_sort_data (s := { s1 with heap := h2 }) (enc := dt) (R := fun u (q : Addr × NestedKey) => u = Value.ref q.1) hoL (refs_out qs fun _ _ => rfl) (refs_out qs rds) hal ?_ (by rw [sizeLine_eq]; omega) (fun q hq => ?_) fun out hlo eo => ?_))
    · exact .inl fun d hd => by
        obtain ⟨q, hq, rfl⟩ := List.mem_map.mp hd
        exact tc q (inq q hq)
    · have := dep q (inq q hq)
      simp only [Around.in1_units]
      omega
    · have tot : PySem.W.TotalLe (PySem.W.dataLe false dt) := PySem.W.sortLe_total _ _ _
      exact wpAny_pure ⟨_, rfl, done out ⟨qs.mergeSort (PySem.W.dataLe false dt), refs_in eo, List.mergeSort_perm _ _, PySem.W.sort_pairwise tot qs⟩ _ rfl rfl rfl⟩
  · have qd : qs.map dt = [.tuple []] := List.perm_singleton.mp (by rw [← tc]; exact pq.map dt)
    obtain ⟨q0, hq0⟩ : ∃ q0, qs = [q0] := List.length_eq_one_iff.mp (by have := congrArg List.length qd; simpa using this)
    have er2 : PySem.W.EachIs (fun v d => ∃ as, Reads h2 v (id d) as ∧ s1.heap.objs.size ∉ as) [Value.ref q0.1] [PyData.tuple []] := by
      obtain ⟨as, r1, r2⟩ := rds q0 (by rw [hq0]; exact List.mem_singleton.mpr rfl)
      rw [hq0] at qd
      have d0 : dt q0 = .tuple [] := (List.cons.inj qd).1
      rw [d0] at r1
      exact .cons ⟨as, r1, r2⟩ .nil
    obtain ⟨h3, hh3⟩ : ∃ h3, h3 = PySem.W.sortingHeap h2 s1.heap.objs.size (qs.map fun q => Value.ref q.1) := ⟨_, rfl⟩
    have er3 : PySem.W.EachIs (fun v d => ∃ as, Reads h3 v d as) [Value.ref q0.1] [PyData.tuple []] := by
      have := PySem.W.each_keepBut (h := h2) (h' := h3) (enc := id) (a := s1.heap.objs.size) (fun _ _ hb q => by rw [hh3]; exact PySem.W.sortingHeap_old hb q) (fun o q => by rw [hoL] at q; rw [← Option.some.inj q]) (by rw [← List.map_id [PyData.tuple []]] at qd; rw [← qd]; exact hal) er2
      exact this
    have so := sorts_one (prog := P) (w := w) (A := A.in1.in1) (s := { s1 with heap := h3 }) er3
    have eq0 : (qs.map fun q => Value.ref q.1) = [Value.ref q0.1] := by rw [hq0]; rfl
    rw [hh3, ← eq0] at so
    obtain ⟨z, hz'⟩ : ∃ z, PySem.W.sortVals (PySem.W.dataKind h3 [.tuple []]) false [Value.ref q0.1] [Value.ref q0.1] = [z] := List.length_eq_one_iff.mp (PySem.W.sortVals_length false rfl)
    have hm := PySem.W.sortVals_mem (κ := PySem.W.dataKind h3 [.tuple []]) false (ks := [Value.ref q0.1]) (vs := [Value.ref q0.1]) (v := z) (by rw [hz']; exact List.mem_singleton.mpr rfl)
    rw [List.mem_singleton] at hm
    refine wpAny_bind (wpAny_holding (wpAny_call_entry slot_list_sort ⟨_, hoL, rfl⟩ entry_list_sort (PySem.W.list_sort_vals (s := { s1 with heap := h2 }) (κ := PySem.W.dataKind (PySem.W.sortingHeap h2 s1.heap.objs.size (qs.map fun q => Value.ref q.1)) [.tuple []]) hoL so (by rw [eq0, sizeLine_eq]; simp) ⟨.none, rfl, ?_⟩) (args_list_sort _)))
    refine wpAny_pure ⟨_, rfl, done _ ⟨qs, ?_, List.Perm.refl _, by rw [hq0]; exact List.pairwise_singleton ..⟩ _ rfl rfl rfl⟩
    rw [eq0, ← eq0, ← hh3, eq0, hz', hm]
end
/-! ### tracked -/
def SetN0 (w : World) (hp : Heap) (c : Addr) (ps : List (Addr × NestedKey)) : Prop := ∃ (en : Array (Int × Value)) (ee : Nat) (tb : SetTable), (∃ o, hp.get? c = some o ∧ o.ExactSet ∧ o.data = .set en ee tb) ∧ en.toList = nrows w ps ∧ TabOk tb (ps.map fun p => p.2.hash w) ∧ (ps.map (·.2)).Nodup ∧
  (w.params.followText "set-order" = true ∨ tb.led = true) ∧ ps.length * 5 < tb.mask * 3 ∧ ps.length ≤ 60
def SetNO (w : World) (c : Addr) (ps : List (Addr × NestedKey)) : HO := .ext fun hp => SetN0 w hp c ps
theorem SetN.bare {P : Program} {w : World} {hp : Heap} {c : Addr} {ps : List (Addr × NestedKey)} {en : Array (Int × Value)} {ee : Nat} {tb : SetTable} (R : SetN P w hp c ps en ee tb) : SetN0 w hp c ps := ⟨en, ee, tb, R.obj, R.rws, R.tok, R.dis, R.ld, R.room, R.few⟩
theorem setNO_new {P : Program} {w : World} {H : Hp} {hp : Heap} {c : Addr} {ps : List (Addr × NestedKey)} (R : SetN0 w hp c ps) : ObjOk P w H hp c (SetNO w c ps) := by
  refine ⟨R, ?_, fun g1 g2 p k => ?_⟩
  · obtain ⟨en, ee, tb, ⟨o, ho, _⟩, _⟩ := R
    exact ⟨o, ho⟩
  · obtain ⟨en, ee, tb, ⟨o, ho, r⟩, q⟩ := (show SetN0 w g1 c ps from p)
    exact (show SetN0 w g2 c ps from ⟨en, ee, tb, ⟨o, k o ho, r⟩, q⟩)
section
variable {X : Cx}
def NK (X : Cx) (H : Hp) (v : V) (k : NestedKey) : Prop := ∃ (loc : List Addr) (w : W), Rd X.KW H loc v w ∧ keyT w = some k
theorem NK.is {pins : List (Addr × Obj)} {σ : L2.St} {H : Hp} {s : Shared} {b : Addr} {k : NestedKey} (I : Inv X pins σ H s) (h : NK X H (.ref b) k) : IsN X.prog X.w s.heap k b := by
  obtain ⟨loc, w, r, hk⟩ := h
  obtain ⟨a, e1, _, h3⟩ := nest_key I r hk (u := .ref b) rfl
  cases e1
  exact h3
theorem refs_vals : ∀ {ks : List (Addr × NestedKey)} {us : List Value}, Vals (ks.map fun p => V.ref p.1) us → us = ks.map fun p => Value.ref p.1
  | [], _, h => by cases h; rfl
  | p :: ks, _, h => by
    cases h with
    | cons h1 h2 =>
      rw [refs_vals h2, List.map_cons]
      congr 1
theorem vals_refs : ∀ (ks : List (Addr × NestedKey)), Vals (ks.map fun p => V.ref p.1) (ks.map fun p => Value.ref p.1)
  | [] => .nil
  | _ :: ks => .cons rfl (vals_refs ks)
def rSetN (X : Cx) : List V → Hp → VK → Prop := fun xs H Q => ∃ (l : Addr) (ks : List (Addr × NestedKey)) (D : List NestedKey), xs = [V.ref l] ∧ SqL X.K H l (ks.map fun p => V.ref p.1) ∧ (∀ p ∈ ks, NK X H (.ref p.1) p.2) ∧ D.length ≤ 60 ∧ (∀ p ∈ ks, p.2 ∈ D) ∧
  ∀ a ps, H a = none → (∀ p ∈ ps, p ∈ ks) → (∀ p ∈ ks, p.2 ∈ ps.map (·.2)) → (ps.map (·.2)).Nodup → Q (.ref a) (upd H a (SetNO X.w a ps))
theorem cr_setN (hc : X.calm = true) (hu : X.A.units + 65 < cLine) : CallR X (.type "set") (rSetN X) := by
  intro pins s σ H xs us Q I r h
  obtain ⟨l, ks, D, rfl, hl, hk, hD, hks, q⟩ := h
  rw [Vals.ref1 r]
  obtain ⟨its, rv, pl, hz⟩ := I.list hl
  have hn : H s.heap.objs.size = none := I.hok.fresh (Nat.le_refl _)
  refine call_setN (P := X.prog) (w := X.w) ks D (I.ok.hd hc) pl.isList (by simpa using refs_vals rv) (fun p hp => (hk p hp).is I) hD hks (by omega) fun hp tk ps en ee tb R g k => ?_
  refine ⟨.ref s.heap.objs.size, upd H s.heap.objs.size (SetNO X.w s.heap.objs.size ps), I.laid (t' := tk) k (Nat.le_refl _) (setNO_new R.bare), rfl, q _ ps hn (fun p hp => List.mem_of_mem_take (g.sub p hp)) (fun p hp => g.all p (by rw [List.take_length]; exact hp)) R.dis⟩
def rSortN (X : Cx) : List V → Hp → VK → Prop := fun vs H Q => ∃ (a : Addr) (ps : List (Addr × NestedKey)) (dt : Addr × NestedKey → PyData), vs = [V.ref a] ∧ H a = some (SetNO X.w a ps) ∧ (∀ p ∈ ps, NK X H (.ref p.1) p.2 ∧ L2.Dp X.K H (.ref p.1) (dt p)) ∧
  (∀ p ∈ ps, ∀ q ∈ ps, PySem.W.alike (dt p) (dt q) = true) ∧ ((∀ p ∈ ps, ∃ x r, dt p = .tuple (x :: r)) ∨ ps.map dt = [.tuple []]) ∧ (∀ p ∈ ps, (dt p).depth ≤ 50) ∧
  ∀ (qs : List (Addr × NestedKey)) (b : Addr), qs.Perm ps → qs.Pairwise (fun p q => PySem.W.dataLe false dt p q = true) → H b = none → Q (.ref b) (upd H b (.lst (qs.map fun q => V.ref q.1)))
theorem cr_sortN (hc : X.calm = true) (hu : X.A.units + 65 < cLine) : CallR X (.builtin "sorted") (rSortN X) := by
  intro pins s σ H vs us Q I r h
  obtain ⟨a, ps, dt, rfl, ha, hk, al, tc, dep, q⟩ := h
  obtain ⟨en, ee, tb, h1, h2, h3, h4, h5, h6, h7⟩ := (show SetN0 X.w s.heap a ps from (I.hok a _ ha).1)
  have R : SetN X.prog X.w s.heap a ps en ee tb := ⟨h1, h2, h3, h4, fun p hp => (hk p hp).1.is I, h5, h6, h7⟩
  rw [Vals.ref1 r]
  refine sort_setN R (I.ok.hd hc) hu dt (fun p hp => L2.Dp.reads I _ _ _ (hk p hp).2 rfl) al tc dep fun s' b n qs k g o hb hg pm pw => ?_
  have hlen : (qs.map fun q => V.ref q.1).length ≤ sizeLine := by rw [List.length_map, pm.length_eq, sizeLine_eq]; omega
  have hn : H b = none := I.hok.fresh hb
  have J : Inv X pins σ (upd H b (.lst (qs.map fun q => V.ref q.1))) { s with heap := s'.heap, gens := s'.gens, drawn := s'.drawn, toks := s'.toks } :=
    I.call (ch := []) (Un.laid k hb hn) (I.hok.laid k hb ⟨hlen, qs.map (fun q => Value.ref q.1), n, vals_refs qs, hg⟩) (by rw [g]; exact I.bare) (fun _ z => nomatch z)
  have e : s' = { s with heap := s'.heap, gens := s'.gens, drawn := s'.drawn, toks := s'.toks } := by
    cases s'
    cases s
    cases o
    rfl
  rw [e]
  exact ⟨.ref b, _, J, rfl, q qs b pm pw hn⟩
end
/-! ### the promise -/
structure SetOk (xs rs : List W) : Prop where
  few : rs.length ≤ 60
  to : ∀ x ∈ xs, x ∈ rs
  fro : ∀ x ∈ rs, x ∈ xs
  ok : ∀ x ∈ rs, okW 40 x = true ∧ (keyT x).isSome = true
  tc : (∀ x ∈ rs, ∃ y ys, dP x = .tuple (y :: ys)) ∨ rs = [.tup []]
  inj : ∀ x ∈ rs, ∀ y ∈ rs, keyT x = keyT y → x = y
  al : ∀ x ∈ rs, ∀ y ∈ rs, PySem.W.alike (dP x) (dP y) = true
  asc : rs.Pairwise fun x y => PySem.W.dataLe false dP x y = true ∧ PySem.W.dataLe false dP y x = false
theorem SetOk.nodup {xs rs : List W} (h : SetOk xs rs) : rs.Nodup := h.asc.imp fun {a b} ⟨h1, h2⟩ e => by
  subst e
  rw [h1] at h2; cases h2
theorem perm_of_mem {α : Type} {l m : List α} (hl : l.Nodup) (hm : m.Nodup) (h : ∀ x, x ∈ l ↔ x ∈ m) : l.Perm m := (List.perm_ext_iff_of_nodup hl hm).mpr h
theorem asc_unique {l rs : List W} (hp : l.Perm rs) (hl : l.Pairwise fun x y => PySem.W.dataLe false dP x y = true) (hr : rs.Pairwise fun x y => PySem.W.dataLe false dP x y = true ∧ PySem.W.dataLe false dP y x = false) : l = rs := by
  refine List.Perm.eq_of_pairwise (le := fun x y => PySem.W.dataLe false dP x y = true) (fun a b ha hb h1 h2 => ?_) hl (hr.imp fun h => h.1) hp
  have ha' : a ∈ rs := hp.mem_iff.mp ha
  refine Classical.byContradiction fun hne => ?_
  obtain ⟨i, hi⟩ := List.getElem?_of_mem ha'
  obtain ⟨j, hj⟩ := List.getElem?_of_mem hb
  have pw := List.pairwise_iff_getElem.mp hr
  obtain ⟨il, ei⟩ := List.getElem?_eq_some_iff.mp hi
  obtain ⟨jl, ej⟩ := List.getElem?_eq_some_iff.mp hj
  rcases Nat.lt_trichotomy i j with z | z | z
  · have := (pw i j il jl z).2
    rw [ei, ej, h2] at this; cases this
  · subst z
    exact hne (by rw [← ei, ← ej])
  · have := (pw j i jl il z).2
    rw [ei, ej, h1] at this; cases this
theorem SetOk.one {xs rs rs' : List W} (h : SetOk xs rs) (h' : SetOk xs rs') : rs = rs' :=
  asc_unique (perm_of_mem h.nodup h'.nodup fun x => ⟨fun z => h'.to x (h.fro x z), fun z => h.to x (h'.fro x z)⟩) (h.asc.imp fun z => z.1) h'.asc
open Classical in
noncomputable def pSortSet : Fn := fun ws M => match ws with
  | [.ref n] => match M[n]? with
    | some (.lst xs) => if h : ∃ rs, SetOk xs rs then some (.ref M.length, M ++ [.lst h.choose]) else none
    | _ => none
  | _ => none
theorem pSortSet_ok {M : Mem} {n : Nat} {xs rs : List W} (hM : M[n]? = some (.lst xs)) (h : SetOk xs rs) : pSortSet [.ref n] M = some (.ref M.length, M ++ [.lst rs]) := by
  have ex : ∃ rs, SetOk xs rs := ⟨rs, h⟩
  unfold pSortSet
  simp only [hM]
  rw [dif_pos ex, (ex.choose_spec).one h]
theorem keyed {K : KW} {H : Hp} {loc : List Addr} : ∀ {vs : List V} {xs : List W}, Rds K H loc vs xs → (∀ x ∈ xs, (keyT x).isSome = true) → ∃ ks : List (Addr × NestedKey), vs = ks.map (fun p => V.ref p.1) ∧ (∀ p ∈ ks, ∃ x ∈ xs, Rd K H loc (.ref p.1) x ∧ keyT x = some p.2) ∧ ∀ x ∈ xs, ∃ p ∈ ks, keyT x = some p.2
  | _, _, .nil, _ => ⟨[], rfl, fun _ h => (by cases h), fun _ h => (by cases h)⟩
  | _, _, .cons (w := x) r rs, h => by
    obtain ⟨ks, e1, h1, h2⟩ := keyed rs fun y hy => h y (List.mem_cons_of_mem _ hy)
    obtain ⟨k, hk⟩ := Option.isSome_iff_exists.mp (h x List.mem_cons_self)
    obtain ⟨_, _, ws, rfl⟩ := keyT_some hk
    cases r with
    | @tup a us _ sq rs' =>
      refine ⟨(a, k) :: ks, by rw [List.map_cons, e1], fun p hp => ?_, fun y hy => ?_⟩
      · rcases List.mem_cons.mp hp with rfl | hp
        · exact ⟨_, List.mem_cons_self, .tup sq rs', hk⟩
        · obtain ⟨y, hy, z⟩ := h1 p hp
          exact ⟨y, List.mem_cons_of_mem _ hy, z⟩
      · rcases List.mem_cons.mp hy with rfl | hy
        · exact ⟨_, List.mem_cons_self, hk⟩
        · obtain ⟨p, hp, z⟩ := h2 y hy
          exact ⟨p, List.mem_cons_of_mem _ hp, z⟩
section
variable {X : Cx}
/-- sorted(set(e)) -/
theorem r_sortSet {e : Expr} {c : CE} {p p2 pos pos2 : Pos} (hc : X.calm = true) (hu : X.A.units + 65 < cLine) (hg : Gl X "sorted") (hm : X.mg "sorted" = none) (hg2 : Gl X "set") (hm2 : X.mg "set" = none) (ha : EV X e c)
    (n2 : starEach [e] X.env = (false, eval e X.env) :: starEach [] X.env := by rfl) (n1 : starEach [.Call (.Name "set" p2) [e] [] pos2] X.env = (false, eval (.Call (.Name "set" p2) [e] [] pos2) X.env) :: starEach [] X.env := by rfl) :
    EV X (.Call (.Name "sorted" p) [.Call (.Name "set" p2) [e] [] pos2] [] pos) (eN pSortSet [c]) := by
  have inner := pe_callTy (pos := pos2) (p := p2) (cr_setN hc hu) hg2 hm2 (by decide +kernel) (pa_cons ha pa_nil n2) (by decide) (by decide) n2 (by rfl)
  refine (pe_callB (pos := pos) (p := p) (cr_sortN hc hu) hg hm (by decide +kernel) (pa_cons inner pa_nil n1) (by decide) (by decide) n1 (by rfl)).mono fun σV H Q ⟨loc, σ, M, w, M', rel, e, aft⟩ => ?_
  obtain ⟨q, hq, e⟩ := bind_some e
  obtain ⟨r, hr, hq⟩ := bind_some hq
  obtain ⟨t, ht, hq⟩ := bind_some hq
  cases ht
  cases hq
  refine run1 rel hr fun v H1 loc1 rel1 rd1 ex1 l1 => ?_
  unfold pSortSet at e
  simp only at e
  split at e
  · rename_i n hn
    obtain ⟨hn1, _⟩ := List.cons.inj hn
    rw [hn1] at rd1
    split at e
    · rename_i xs hz
      split at e
      · rename_i ex
        obtain ⟨rs, hrs⟩ : ∃ rs, rs = ex.choose := ⟨_, rfl⟩
        have so : SetOk xs rs := hrs ▸ ex.choose_spec
        rw [← hrs] at e
        cases e
        cases rd1 with
        | @ref l _ hl =>
          have st := rel1.st
          obtain ⟨vs, q1, q2⟩ := st.ok _ _ _ hl hz
          obtain ⟨ks, rfl, k1, k2⟩ := keyed q2 fun x hx => (so.ok x (so.to x hx)).2
          refine ⟨l, ks, rs.filterMap keyT, rfl, SqL.of q1, fun p hp => ?_, Nat.le_trans (List.length_filterMap_le _ _) so.few, fun p hp => ?_, fun a ps h0 p1 p2 p3 => ?_⟩
          · obtain ⟨x, hx, rx, kx⟩ := k1 p hp
            exact ⟨loc1, x, rx, kx⟩
          · obtain ⟨x, hx, rx, kx⟩ := k1 p hp
            exact List.mem_filterMap.mpr ⟨x, so.to x hx, kx⟩
          · -- the one item of rs at each key
            have ex2 : Ext X.KW H1 (upd H1 a (SetNO X.w a ps)) := .new h0
            have at_ : ∀ p : Addr × NestedKey, ∃ x : W, p ∈ ps → x ∈ rs ∧ Rd X.KW H1 loc1 (.ref p.1) x ∧ keyT x = some p.2 := fun p => by
              by_cases hp : p ∈ ps
              · obtain ⟨x, hx, rx, kx⟩ := k1 p (p1 p hp)
                exact ⟨x, fun _ => ⟨so.to x hx, rx, kx⟩⟩
              · exact ⟨.non, fun z => absurd z hp⟩
            obtain ⟨f, hf⟩ := Classical.axiomOfChoice at_
            have rf : ∀ p ∈ ps, Rd X.KW (upd H1 a (SetNO X.w a ps)) loc1 (.ref p.1) (f p) := fun p hp => (hf p hp).2.1.mono ex2 (List.prefix_refl _)
            have st2 : Store X.KW (upd H1 a (SetNO X.w a ps)) loc1 r.2 := st.newT h0
            have nf : (ps.map f).Nodup := by
              have : ((ps.map f).map keyT).Nodup := by
                have e1 : (ps.map f).map keyT = (ps.map (·.2)).map some := by
                  rw [List.map_map, List.map_map]
                  exact List.map_congr_left fun p hp => (hf p hp).2.2
                rw [e1]
                exact List.pairwise_map.mpr (p3.imp fun hne z => hne (Option.some.inj z))
              exact List.Pairwise.of_map keyT (fun _ _ hne z => hne (congrArg _ z)) this
            have pr : (ps.map f).Perm rs := perm_of_mem nf so.nodup fun x => by
              constructor
              · intro hx
                obtain ⟨p, hp, rfl⟩ := List.mem_map.mp hx
                exact (hf p hp).1
              · intro hx
                obtain ⟨p, hp, kx⟩ := k2 x (so.fro x hx)
                obtain ⟨q, hq, eq⟩ := List.mem_map.mp (p2 p hp)
                refine List.mem_map.mpr ⟨q, hq, ?_⟩
                exact so.inj _ (hf q hq).1 _ hx (by rw [(hf q hq).2.2, kx, eq])
            have tcs : (∀ p ∈ ps, ∃ x r, dP (f p) = .tuple (x :: r)) ∨ ps.map (fun p => dP (f p)) = [.tuple []] := by
              rcases so.tc with h | h
              · exact .inl fun p hp => h _ (hf p hp).1
              · rw [h] at pr
                have e1 := List.perm_singleton.mp pr
                have e2 := congrArg (List.map dP) e1
                rw [List.map_map] at e2
                exact .inr e2
            refine ⟨a, ps, fun p => dP (f p), rfl, upd_same, fun p hp => ⟨⟨loc1, f p, rf p hp, (hf p hp).2.2⟩, (toD_ok st2 40 _ _ _ (rf p hp) (toD_P _ 40 _ (so.ok _ (hf p hp).1).1)).1⟩, fun p hp q hq => so.al _ (hf p hp).1 _ (hf q hq).1, tcs, fun p hp => ?_, fun qs b pm pw hb => ?_⟩
            · have := (toD_ok st2 40 _ _ _ (rf p hp) (toD_P _ 40 _ (so.ok _ (hf p hp).1).1)).2.2
              exact Nat.le_trans this (by decide)
            · have eq : qs.map f = rs := asc_unique ((pm.map f).trans pr) (List.pairwise_map.mpr pw) so.asc
              have rr : ∀ ts : List (Addr × NestedKey), (∀ p ∈ ts, p ∈ ps) → Rds X.KW (upd H1 a (SetNO X.w a ps)) loc1 (ts.map fun q => V.ref q.1) (ts.map f) := by
                intro ts
                induction ts with
                | nil => intro _; exact .nil
                | cons t ts ih => intro h; exact .cons (rf t (h t List.mem_cons_self)) (ih fun p hp => h p (List.mem_cons_of_mem _ hp))
              have r3 := rr qs fun p hp => pm.mem_iff.mp hp
              rw [eq] at r3
              exact aft_lst st2 r3 hb ((aft.after ex1 l1).after ex2 (List.prefix_refl _))
      · cases e
    · cases e
  · cases e
end
end BF

set_option Elab.async false
set_option linter.all false
set_option autoImplicit false
set_option maxRecDepth 100000
/-! list.count of data. -/
namespace BF
open PySem PySem.Spec
open PyProof.Rows L2
def mCount : Fn := fun ws M => match ws with
  | [.ref n, x] => match M[n]? with
    | some (.lst xs) => match mapO (toD M 60) xs, toD M 60 x with
      | some ds, some d => if PyData.plainAll ds = true ∧ d.plain = true then some (.int ((ds.countP fun y => PyData.eqv y d : Nat) : Int), M) else none
      | _, _ => none
    | _ => none
  | _ => none
def rCountD (K : PySem.W.Frag) : V → List V → Hp → VK → Prop := fun x xs H Q => ∃ (a : Addr) (y : V) (d : PyData) (vs : List V) (ds : List PyData), x = .ref a ∧ xs = [y] ∧ L2.SqL K H a vs ∧ L2.DpAll K H vs ds ∧ L2.Dp K H y d ∧ PyData.plainAll ds = true ∧ d.plain = true ∧ d.depth ≤ 60 ∧
  Q (.int ((ds.countP fun z => PyData.eqv z d : Nat) : Int)) H
theorem mt_countW {X : Cx} (hu : X.A.units + 65 < cLine) : MtR X "list.count" (rCountD X.K) := by
  intro pins s σ H x xs v us Q I rx rxs h
  obtain ⟨a, y, d, vs, ds, rfl, rfl, hl, hds, hd, p1, p2, dep, q⟩ := h
  cases rx
  cases rxs with
  | cons ry rt =>
    cases rt
    obtain ⟨bs, r1⟩ := L2.Dp.reads I d y _ hd ry
    obtain ⟨its, rv, ⟨o, n, g1, g2, _, g3⟩, hz⟩ := I.list hl
    obtain ⟨as, r2⟩ := L2.Dp.readsAll I ds _ its hds rv
    have hli : s.heap.IsList a its.toArray := ⟨o, g1, g2, n, g3⟩
    refine PySem.SeqAt.count_list_data hli (by simpa using r2) r1 p1 p2 (by have := Nat.min_le_right (PyData.depthAll ds) d.depth; omega) ?_
    exact ⟨.int _, H, I.kept (t' := s.toks + 1) (fun _ _ z => z), ⟨_, rfl⟩, q⟩
theorem m_count {K : KW} : LiftN K (fun vs H Q => ∃ v us, vs = v :: us ∧ rCountD K v us H Q) mCount := by
  intro H loc M ws vs w M' Q s r e aft
  unfold mCount at e
  split at e
  · split at e
    · rename_i zs hz
      split at e
      · rename_i ds d h1 h2
        split at e
        · rename_i hp
          cases e
          match vs, r with
          | [_, v], .cons (.ref (a := a) hn) (.cons rv .nil) =>
            obtain ⟨xs, q1, q2⟩ := s.ok _ _ _ hn hz
            obtain ⟨g1, g2⟩ := toDs_ok s q2 (mapO_get h1)
            obtain ⟨g3, _, g5⟩ := toD_ok s 60 _ _ _ rv h2
            exact ⟨_, _, rfl, a, v, d, xs, ds, rfl, rfl, SqL.of q1, g1, g3, hp.1, hp.2, g5, aft _ H loc s (.int _) .refl (List.prefix_refl _)⟩
        · cases e
      · cases e
    · cases e
  · cases e
end BF

set_option Elab.async false
set_option linter.all false
set_option autoImplicit false
set_option maxRecDepth 100000
/-! enumerate(zip(a, b)) of two tuples. -/
namespace BF
open PySem PySem.Spec
open PyProof.Rows L2 RZ
section
variable {prog : Program} {w : World} {A : Around} {E : Value → Shared → Prop} {s : Shared}
/-- a zip of two, whatever it has given out -/
abbrev ZO (h : Heap) (z TI TO : Addr) (f : Value) (b : Bool) : Prop := h.get? z = some { cls := .type "zip", dict := none, data := .fields #[f, .bool b, .bool false, .ref TI, .ref TO], slots := #[] }
def Gave (f : Value) : Prop := f = .none ∨ ∃ T : Addr, f = rawInt T
def ZS (h : Heap) (z TI TO : Addr) : Prop := ∃ f b, ZO h z TI TO f b ∧ Gave f
theorem alive_any {a : Addr} {Q : Option Obj → Shared → Prop} (h : Q (s.heap.get? a) s) : wpAny (model prog w) A (loadIfAlive a) Q E s := fun _ _ _ => h
theorem zip_free {z TI TO : Addr} {f : Value} {b : Bool} {Q : Bool → Shared → Prop} (hz : ZO s.heap z TI TO f b) (hf : Gave f) (q1 : Q true s) (q2 : ∀ h', ZO h' z TI TO f true → Heap.SameBut z s.heap h' → Q false { s with heap := h' }) :
    wpAny (model prog w) A (Builtin.SmallTypes.ownedTupleIsFree (.ref z)) Q E s := by
  unfold Builtin.SmallTypes.ownedTupleIsFree
  rcases hf with rfl | ⟨T, rfl⟩
  · exact wpAny_bind (wpAny_field hz rfl (x := .none) rfl (wpAny_pure q1))
  · refine wpAny_bind (wpAny_field hz rfl (x := rawInt T) rfl ?_)
    show wpAny _ _ (loadIfAlive ((T : Int).toNat) >>= _) _ _ _
    refine wpAny_bind (alive_any ?_)
    cases hn : (s.heap.get? ((T : Int).toNat)).isNone with
    | true =>
      simp only [if_true]
      exact wpAny_pure q1
    | false =>
      simp only [Bool.false_eq_true, if_false]
      refine wpAny_bind (wpAny_field hz rfl (x := .bool b) rfl ?_)
      cases b with
      | true =>
        rw [if_neg (show ¬ ((Value.bool true != Value.bool true) = true) from Bool.false_ne_true)]
        exact wpAny_pure (q2 s.heap hz (Heap.SameBut.refl _ _))
      | false =>
        rw [if_pos (show (Value.bool false != Value.bool true) = true from rfl)]
        exact wpAny_bind (wpAny_setField_rec hz (by simp) fun h1 z1 s1 => wpAny_pure (q2 h1 z1 s1))
variable {z TI TO i1 i2 l1 l2 : Addr} {k1 k2 : Nat} {xs ys : Array Value}
set_option maxHeartbeats 1600000 in
theorem zip_go {x y : Value} {Q : Value → Shared → Prop} (D : ZipApart z TI TO i1 i2 l1 l2) (hz : ZS s.heap z TI TO) (hTI : IsPair s.heap TI (.ref i1) (.ref i2)) (hTO : ∃ a b, IsPair s.heap TO a b)
    (h1 : s.heap.IsTupleIter i1 l1 k1) (h2 : s.heap.IsTupleIter i2 l2 k2) (hl1 : s.heap.IsTuple l1 xs) (hl2 : s.heap.IsTuple l2 ys) (hx : xs[k1]? = some x) (hy : ys[k2]? = some y)
    (q : ∀ h', ZS h' z TI TO → (∃ a b, IsPair h' TO a b) → h'.IsTupleIter i1 l1 (k1 + 1) → h'.IsTupleIter i2 l2 (k2 + 1) → IsPair h' s.heap.objs.size x y → h'.objs.size = s.heap.objs.size + 1 →
      (∀ c o, c ≠ z → c ≠ TO → c ≠ i1 → c ≠ i2 → s.heap.get? c = some o → h'.get? c = some o) → Q (.ref s.heap.objs.size) { s with heap := h' }) :
    wpAny (model prog w) A (Builtin.«zip.__next__» ⟨[.ref z], []⟩) (fun fin s' => ∃ v, fin = .done (.ret v) ∧ Q v s') E s := by
  obtain ⟨f, bb, hz, hf⟩ := hz
  obtain ⟨a, b, hTO⟩ := hTO
  show wpAny _ _ (field (.ref z) 2 >>= _) _ _ _
  refine wpAny_bind (wpAny_field hz rfl (x := .bool false) rfl ?_)
  show wpAny _ _ (field (.ref z) 3 >>= _) _ _ _
  refine wpAny_bind (wpAny_field hz rfl (x := .ref TI) rfl ?_)
  refine wpAny_bind (wpAny_seqItems hTI rfl ?_)
  show wpAny _ _ (Builtin.SmallTypes.ownedTupleIsFree (.ref z) >>= _) _ _ _
  refine wpAny_bind (zip_free hz hf ?_ fun g1 z1 u1 => ?_)
  · -- its own tuple is free
    simp only [if_true]
    refine wpAny_bind (wpAny_rule ?_)
    refine wpAny_bind (wpAny_field hz rfl (x := .ref TO) rfl ?_)
    refine wpAny_bind (wpAny_setField_rec hz (by simp) fun g1 z1 u1 => ?_)
    replace z1 : ZO g1 z TI TO .ellipsis bb := z1
    refine wpAny_bind ?_
    simp only [List.zipIdx_cons, List.zipIdx_nil, List.forIn_cons, List.forIn_nil]
    refine wpAny_bind (wpAny_bind (wpAny_onRaise ?_))
    show wpAny _ _ (Builtin.SmallTypes.nextOf (.ref i1) >>= _) _ _ _
    refine wpAny_bind (nextOf_tuple_item (h1.extBut u1.extBut D.i1z) (hl1.extBut u1.extBut D.l1z) hx fun g2 p2 u2 => wpAny_pure ?_)
    have o2 : IsPair g2 TO a b := u2.extBut _ _ D.TOi1 (u1.extBut _ _ D.TOz hTO)
    refine wpAny_bind (wpAny_seqItems o2 rfl ?_)
    refine wpAny_bind (wpAny_updateSeq_pair o2 fun g3 o3 u3 => ?_)
    replace o3 : IsPair g3 TO x b := o3
    refine wpAny_bind (wpAny_letGo (wpAny_pure ?_))
    refine wpAny_bind (wpAny_bind (wpAny_onRaise ?_))
    show wpAny _ _ (Builtin.SmallTypes.nextOf (.ref i2) >>= _) _ _ _
    refine wpAny_bind (nextOf_tuple_item (((h2.extBut u1.extBut D.i2z).extBut u2.extBut D.i12.symm).extBut u3.extBut D.TOi2.symm) (((hl2.extBut u1.extBut D.l2z).extBut u2.extBut D.l2i1).extBut u3.extBut D.l2TO) hy fun g4 p4 u4 => wpAny_pure ?_)
    have o4 : IsPair g4 TO x b := u4.extBut _ _ D.TOi2 o3
    refine wpAny_bind (wpAny_seqItems o4 rfl ?_)
    refine wpAny_bind (wpAny_updateSeq_pair o4 fun g5 o5 u5 => ?_)
    replace o5 : IsPair g5 TO x y := o5
    refine wpAny_bind (wpAny_letGo (wpAny_pure (wpAny_pure ?_)))
    refine wpAny_bind (wpAny_seqItems o5 rfl ?_)
    refine wpAny_bind (wpAny_newTuple ?_)
    have sz : g5.objs.size = s.heap.objs.size := by rw [u5.1, u4.1, u3.1, u2.1, u1.1]
    have z5 : ZO g5 z TI TO .ellipsis bb := u5.extBut _ _ D.TOz.symm (u4.extBut _ _ D.i2z.symm (u3.extBut _ _ D.TOz.symm (u2.extBut _ _ D.i1z.symm z1)))
    have k5 : ∀ c o, c ≠ z → c ≠ TO → c ≠ i1 → c ≠ i2 → s.heap.get? c = some o → g5.get? c = some o := fun c o c1 c2 c3 c4 e =>
      u5.extBut _ _ c2 (u4.extBut _ _ c4 (u3.extBut _ _ c2 (u2.extBut _ _ c3 (u1.extBut _ _ c1 e))))
    have p5 : g5.IsTupleIter i1 l1 (k1 + 1) := ((p2.extBut u3.extBut D.TOi1.symm).extBut u4.extBut D.i12).extBut u5.extBut D.TOi1.symm
    have r5 : g5.IsTupleIter i2 l2 (k2 + 1) := p4.extBut u5.extBut D.TOi2.symm
    have zl : z < g5.objs.size := Heap.lt_size z5
    show wpAny _ _ (Builtin.SmallTypes.ownedTupleHandOut (.ref z) (.ref g5.objs.size) >>= _) _ _ _
    refine wpAny_bind ?_
    unfold Builtin.SmallTypes.ownedTupleHandOut
    have z6 : ZO (g5.push { cls := .type "tuple", data := .seq #[x, y] }) z TI TO .ellipsis bb := Heap.get?_push_of_some _ z5
    refine wpAny_bind (wpAny_setField_rec z6 (by simp) fun g7 z7 u7 => ?_)
    replace z7 : ZO g7 z TI TO (rawInt g5.objs.size) bb := z7
    refine wpAny_setField_rec z7 (by simp) fun g8 z8 u8 => ?_
    replace z8 : ZO g8 z TI TO (rawInt g5.objs.size) false := z8
    have up : ∀ c o, c ≠ z → g5.get? c = some o → g8.get? c = some o := fun c o c1 e => u8.extBut _ _ c1 (u7.extBut _ _ c1 (Heap.get?_push_of_some _ e))
    have t8 : IsPair g8 g5.objs.size x y := u8.extBut _ _ (Nat.ne_of_gt zl) (u7.extBut _ _ (Nat.ne_of_gt zl) (Heap.get?_push_size _ rfl))
    have sz8 : g8.objs.size = g5.objs.size + 1 := by rw [u8.1, u7.1, Heap.size_push]
    refine wpAny_pure ⟨_, rfl, ?_⟩
    show Q (.ref g5.objs.size) _
    rw [sz] at z8 t8 sz8 ⊢
    exact q g8 ⟨_, _, z8, .inr ⟨_, rfl⟩⟩ ⟨_, _, up _ _ D.TOz o5⟩ (p5.at fun o e => up _ o D.i1z e) (r5.at fun o e => up _ o D.i2z e) t8 sz8 fun c o c1 c2 c3 c4 e => up c o c1 (k5 c o c1 c2 c3 c4 e)
  · -- it is still out
    simp only [Bool.false_eq_true, if_false]
    refine wpAny_bind ?_
    rw [← Array.forIn_toList]
    simp only [List.forIn_cons, List.forIn_nil]
    refine wpAny_bind (wpAny_bind (wpAny_holding ?_))
    show wpAny _ _ (Builtin.SmallTypes.nextOf (.ref i1) >>= _) _ _ _
    refine wpAny_bind (nextOf_tuple_item (s := { s with heap := g1 }) (h1.extBut u1.extBut D.i1z) (hl1.extBut u1.extBut D.l1z) hx fun g2 p2 u2 => wpAny_pure ?_)
    refine wpAny_pure ?_
    refine wpAny_bind (wpAny_bind (wpAny_holding ?_))
    show wpAny _ _ (Builtin.SmallTypes.nextOf (.ref i2) >>= _) _ _ _
    refine wpAny_bind (nextOf_tuple_item (s := { s with heap := g2 }) ((h2.extBut u1.extBut D.i2z).extBut u2.extBut D.i12.symm) ((hl2.extBut u1.extBut D.l2z).extBut u2.extBut D.l2i1) hy fun g3 p3 u3 => wpAny_pure ?_)
    refine wpAny_pure (wpAny_pure ?_)
    show wpAny _ _ (newTuple [x, y] >>= _) _ _ _
    refine wpAny_bind (wpAny_newTuple ?_)
    have sz : g3.objs.size = s.heap.objs.size := by rw [u3.1, u2.1, u1.1]
    have z3 : ZO g3 z TI TO f true := u3.extBut _ _ D.i2z.symm (u2.extBut _ _ D.i1z.symm z1)
    have k3 : ∀ c o, c ≠ z → c ≠ i1 → c ≠ i2 → s.heap.get? c = some o → g3.get? c = some o := fun c o c1 c2 c3 e => u3.extBut _ _ c3 (u2.extBut _ _ c2 (u1.extBut _ _ c1 e))
    have p5 : g3.IsTupleIter i1 l1 (k1 + 1) := p2.extBut u3.extBut D.i12
    refine wpAny_pure ⟨_, rfl, ?_⟩
    show Q (.ref g3.objs.size) _
    have t4 : IsPair (g3.push { cls := .type "tuple", data := .seq #[x, y] }) g3.objs.size x y := Heap.get?_push_size _ rfl
    have sz4 : (g3.push { cls := .type "tuple", data := .seq #[x, y] }).objs.size = g3.objs.size + 1 := Heap.size_push ..
    rw [sz] at t4 sz4 ⊢
    exact q _ ⟨_, _, Heap.get?_push_of_some _ z3, hf⟩ ⟨_, _, Heap.get?_push_of_some _ (k3 _ _ D.TOz D.TOi1 D.TOi2 hTO)⟩ (p5.at fun o e => Heap.get?_push_of_some _ e) (p3.at fun o e => Heap.get?_push_of_some _ e) t4 sz4 fun c o c1 _ c3 c4 e => Heap.get?_push_of_some _ (k3 c o c1 c3 c4 e)
set_option maxHeartbeats 1600000 in
theorem zip_stop {Q : Fin → Shared → Prop} (hh : A.handled = none) (D : ZipApart z TI TO i1 i2 l1 l2) (hz : ZS s.heap z TI TO) (hTI : IsPair s.heap TI (.ref i1) (.ref i2)) (hTO : ∃ a b, IsPair s.heap TO a b)
    (h1 : s.heap.IsTupleIter i1 l1 k1) (h2 : s.heap.IsTupleIter i2 l2 k2) (hl1 : s.heap.IsTuple l1 xs) (hl2 : s.heap.IsTuple l2 ys) (hend : xs[k1]? = none ∨ ys[k2]? = none)
    (q : ∀ h' e, (∀ c o, c ≠ z → c ≠ TO → c ≠ i1 → c ≠ i2 → s.heap.get? c = some o → h'.get? c = some o) → (∃ o, h'.get? e = some o ∧ o.cls = .type "StopIteration") → E (.ref e) { s with heap := h' }) :
    wpAny (model prog w) A (Builtin.«zip.__next__» ⟨[.ref z], []⟩) Q E s := by
  obtain ⟨f, bb, hz, hf⟩ := hz
  obtain ⟨a, b, hTO⟩ := hTO
  show wpAny _ _ (field (.ref z) 2 >>= _) _ _ _
  refine wpAny_bind (wpAny_field hz rfl (x := .bool false) rfl ?_)
  show wpAny _ _ (field (.ref z) 3 >>= _) _ _ _
  refine wpAny_bind (wpAny_field hz rfl (x := .ref TI) rfl ?_)
  refine wpAny_bind (wpAny_seqItems hTI rfl ?_)
  show wpAny _ _ (Builtin.SmallTypes.ownedTupleIsFree (.ref z) >>= _) _ _ _
  refine wpAny_bind (zip_free hz hf ?_ fun g1 z1 u1 => ?_)
  · simp only [if_true]
    refine wpAny_bind (wpAny_rule ?_)
    refine wpAny_bind (wpAny_field hz rfl (x := .ref TO) rfl ?_)
    refine wpAny_bind (wpAny_setField_rec hz (by simp) fun g1 z1 u1 => ?_)
    replace z1 : ZO g1 z TI TO .ellipsis bb := z1
    refine wpAny_bind ?_
    simp only [List.zipIdx_cons, List.zipIdx_nil, List.forIn_cons, List.forIn_nil]
    refine wpAny_bind (wpAny_bind (wpAny_onRaise ?_))
    show wpAny _ _ (Builtin.SmallTypes.nextOf (.ref i1) >>= _) _ _ _
    cases hx : xs[k1]? with
    | none =>
      refine wpAny_bind (nextOf_tuple_end hh (h1.extBut u1.extBut D.i1z) (hl1.extBut u1.extBut D.l1z) hx fun g2 e u2 he => ?_)
      obtain ⟨oe, hoe, hce⟩ := he
      have z2 : ZO g2 z TI TO .ellipsis bb := u2 _ _ D.i1z.symm z1
      have ez : e ≠ z := fun x => by subst x; rw [z2] at hoe; cases hoe; simp at hce
      exact wpAny_setField_rec z2 (by simp) fun g3 _ u3 => q g3 e (fun c o c1 _ c3 _ x => u3.extBut _ _ c1 (u2 _ _ c3 (u1.extBut _ _ c1 x))) ⟨oe, u3.extBut _ _ ez hoe, hce⟩
    | some x =>
      have hy : ys[k2]? = none := by rcases hend with h | h; rw [hx] at h; cases h; exact h
      refine wpAny_bind (nextOf_tuple_item (h1.extBut u1.extBut D.i1z) (hl1.extBut u1.extBut D.l1z) hx fun g2 p2 u2 => wpAny_pure ?_)
      have o2 : IsPair g2 TO a b := u2.extBut _ _ D.TOi1 (u1.extBut _ _ D.TOz hTO)
      refine wpAny_bind (wpAny_seqItems o2 rfl ?_)
      refine wpAny_bind (wpAny_updateSeq_pair o2 fun g3 o3 u3 => ?_)
      refine wpAny_bind (wpAny_letGo (wpAny_pure ?_))
      refine wpAny_bind (wpAny_bind (wpAny_onRaise ?_))
      show wpAny _ _ (Builtin.SmallTypes.nextOf (.ref i2) >>= _) _ _ _
      refine wpAny_bind (nextOf_tuple_end hh (((h2.extBut u1.extBut D.i2z).extBut u2.extBut D.i12.symm).extBut u3.extBut D.TOi2.symm) (((hl2.extBut u1.extBut D.l2z).extBut u2.extBut D.l2i1).extBut u3.extBut D.l2TO) hy fun g4 e u4 he => ?_)
      obtain ⟨oe, hoe, hce⟩ := he
      have z4 : ZO g4 z TI TO .ellipsis bb := u4 _ _ D.i2z.symm (u3.extBut _ _ D.TOz.symm (u2.extBut _ _ D.i1z.symm z1))
      have ez : e ≠ z := fun x => by subst x; rw [z4] at hoe; cases hoe; simp at hce
      exact wpAny_setField_rec z4 (by simp) fun g5 _ u5 => q g5 e (fun c o c1 c2 c3 c4 x => u5.extBut _ _ c1 (u4 _ _ c4 (u3.extBut _ _ c2 (u2.extBut _ _ c3 (u1.extBut _ _ c1 x))))) ⟨oe, u5.extBut _ _ ez hoe, hce⟩
  · simp only [Bool.false_eq_true, if_false]
    refine wpAny_bind ?_
    rw [← Array.forIn_toList]
    simp only [List.forIn_cons, List.forIn_nil]
    refine wpAny_bind (wpAny_bind (wpAny_holding ?_))
    show wpAny _ _ (Builtin.SmallTypes.nextOf (.ref i1) >>= _) _ _ _
    cases hx : xs[k1]? with
    | none =>
      refine wpAny_bind (nextOf_tuple_end (s := { s with heap := g1 }) hh (h1.extBut u1.extBut D.i1z) (hl1.extBut u1.extBut D.l1z) hx fun g2 e u2 he => ?_)
      exact q g2 e (fun c o c1 _ c3 _ x => u2 _ _ c3 (u1.extBut _ _ c1 x)) he
    | some x =>
      have hy : ys[k2]? = none := by rcases hend with h | h; rw [hx] at h; cases h; exact h
      refine wpAny_bind (nextOf_tuple_item (s := { s with heap := g1 }) (h1.extBut u1.extBut D.i1z) (hl1.extBut u1.extBut D.l1z) hx fun g2 p2 u2 => wpAny_pure ?_)
      refine wpAny_pure ?_
      refine wpAny_bind (wpAny_bind (wpAny_holding ?_))
      show wpAny _ _ (Builtin.SmallTypes.nextOf (.ref i2) >>= _) _ _ _
      refine wpAny_bind (nextOf_tuple_end (s := { s with heap := g2 }) hh ((h2.extBut u1.extBut D.i2z).extBut u2.extBut D.i12.symm) ((hl2.extBut u1.extBut D.l2z).extBut u2.extBut D.l2i1) hy fun g3 e u3 he => ?_)
      exact q g3 e (fun c o c1 _ c3 c4 x => u3 _ _ c4 (u2.extBut _ _ c3 (u1.extBut _ _ c1 x))) he
theorem ZS.type {h : Heap} (hz : ZS h z TI TO) : ∃ o, h.get? z = some o ∧ o.cls = .type "zip" := by
  obtain ⟨f, b, hz, _⟩ := hz
  exact ⟨_, hz, rfl⟩
theorem nextOf_zip {x y : Value} {Q : Value → Shared → Prop} (D : ZipApart z TI TO i1 i2 l1 l2) (hz : ZS s.heap z TI TO) (hTI : IsPair s.heap TI (.ref i1) (.ref i2)) (hTO : ∃ a b, IsPair s.heap TO a b)
    (h1 : s.heap.IsTupleIter i1 l1 k1) (h2 : s.heap.IsTupleIter i2 l2 k2) (hl1 : s.heap.IsTuple l1 xs) (hl2 : s.heap.IsTuple l2 ys) (hx : xs[k1]? = some x) (hy : ys[k2]? = some y)
    (q : ∀ h', ZS h' z TI TO → (∃ a b, IsPair h' TO a b) → h'.IsTupleIter i1 l1 (k1 + 1) → h'.IsTupleIter i2 l2 (k2 + 1) → IsPair h' s.heap.objs.size x y → h'.objs.size = s.heap.objs.size + 1 →
      (∀ c o, c ≠ z → c ≠ TO → c ≠ i1 → c ≠ i2 → s.heap.get? c = some o → h'.get? c = some o) → Q (.ref s.heap.objs.size) { s with heap := h' }) :
    wpAny (model prog w) A (Builtin.SmallTypes.nextOf (.ref z)) Q E s := by
  have hT : s.TypeIs (.ref z) "zip" := hz.type
  unfold Builtin.SmallTypes.nextOf
  exact wpAny_bind (wpAny_callSpecial?_slot (name := Str.ofString "__next__") hT F.slot_zip_next (wpAny_call_entry F.slot_zip_next hT F.entry_zip_next
    (zip_go D hz hTI hTO h1 h2 hl1 hl2 hx hy fun h' a1 a2 a3 a4 a5 a6 a7 => wpAny_pure (q h' a1 a2 a3 a4 a5 a6 a7)) (F.args_zip_next_1 _)))
theorem nextOf_zip_end {Q : Value → Shared → Prop} (hh : A.handled = none) (D : ZipApart z TI TO i1 i2 l1 l2) (hz : ZS s.heap z TI TO) (hTI : IsPair s.heap TI (.ref i1) (.ref i2)) (hTO : ∃ a b, IsPair s.heap TO a b)
    (h1 : s.heap.IsTupleIter i1 l1 k1) (h2 : s.heap.IsTupleIter i2 l2 k2) (hl1 : s.heap.IsTuple l1 xs) (hl2 : s.heap.IsTuple l2 ys) (hend : xs[k1]? = none ∨ ys[k2]? = none)
    (q : ∀ h' e, (∀ c o, c ≠ z → c ≠ TO → c ≠ i1 → c ≠ i2 → s.heap.get? c = some o → h'.get? c = some o) → (∃ o, h'.get? e = some o ∧ o.cls = .type "StopIteration") → E (.ref e) { s with heap := h' }) :
    wpAny (model prog w) A (Builtin.SmallTypes.nextOf (.ref z)) Q E s := by
  have hT : s.TypeIs (.ref z) "zip" := hz.type
  unfold Builtin.SmallTypes.nextOf
  exact wpAny_bind (wpAny_callSpecial?_slot (name := Str.ofString "__next__") hT F.slot_zip_next (wpAny_call_entry F.slot_zip_next hT F.entry_zip_next
    (zip_stop (by simpa using hh) D hz hTI hTO h1 h2 hl1 hl2 hend q) (F.args_zip_next_1 _)))
/-- enumerate's next over it -/
theorem enum_zip_go {e : Addr} {c : Int} {old x y : Value} {Q : Value → Shared → Prop} (D : ZipApart z TI TO i1 i2 l1 l2) (ne : e ≠ z ∧ e ≠ TO ∧ e ≠ i1 ∧ e ≠ i2) (he : IsEnum s.heap e z c old) (hz : ZS s.heap z TI TO) (hTI : IsPair s.heap TI (.ref i1) (.ref i2)) (hTO : ∃ a b, IsPair s.heap TO a b)
    (h1 : s.heap.IsTupleIter i1 l1 k1) (h2 : s.heap.IsTupleIter i2 l2 k2) (hl1 : s.heap.IsTuple l1 xs) (hl2 : s.heap.IsTuple l2 ys) (hx : xs[k1]? = some x) (hy : ys[k2]? = some y)
    (q : ∀ g h' tk, ZS g z TI TO → (∃ a b, IsPair g TO a b) → g.IsTupleIter i1 l1 (k1 + 1) → g.IsTupleIter i2 l2 (k2 + 1) → IsPair g s.heap.objs.size x y → g.objs.size = s.heap.objs.size + 1 →
      (∀ c o, c ≠ z → c ≠ TO → c ≠ i1 → c ≠ i2 → s.heap.get? c = some o → g.get? c = some o) →
      IsEnumOut h' e z (c + 1) (.ref s.heap.objs.size) g.objs.size → h'.get? g.objs.size = some { cls := .type "tuple", data := .seq #[.int c tk, .ref s.heap.objs.size] } →
      (∀ b o, b ≠ e → g.get? b = some o → h'.get? b = some o) → Q (.ref g.objs.size) { s with heap := h', toks := tk + 1 }) :
    wpAny (model prog w) A (Builtin.«enumerate.__next__» ⟨[.ref e], []⟩) (fun fin s' => ∃ v, fin = .done (.ret v) ∧ Q v s') E s := by
  obtain ⟨n1, n2, n3, n4⟩ := ne
  obtain ⟨hp, gn, d, tk, os⟩ := s
  show wpAny _ _ (field (.ref e) 2 >>= _) _ _ _
  refine wpAny_bind (wpAny_field he rfl (x := .ref z) rfl ?_)
  refine wpAny_bind (nextOf_zip D hz hTI hTO h1 h2 hl1 hl2 hx hy fun g a1 a2 a3 a4 a5 a6 a7 => ?_)
  have e1 : IsEnum g e z c old := a7 e _ n1 n2 n3 n4 he
  show wpAny _ _ (field (.ref e) 3 >>= _) _ _ ⟨g, gn, d, tk, os⟩
  refine wpAny_bind (wpAny_field e1 rfl (x := rawInt c) rfl ?_)
  show wpAny _ _ (field (.ref e) 4 >>= _) _ _ ⟨g, gn, d, tk, os⟩
  refine wpAny_bind (wpAny_field e1 rfl (x := .none) rfl ?_)
  show wpAny _ _ (mkInt c >>= _) _ _ ⟨g, gn, d, tk, os⟩
  refine wpAny_bind (wpAny_mkInt ?_)
  show wpAny _ _ (setField (.ref e) 3 (rawInt (c + 1)) >>= _) _ _ ⟨g, gn, d, tk + 1, os⟩
  refine wpAny_bind (wpAny_setField_rec e1 (by simp) fun g2 e2 u2 => ?_)
  replace u2 : Heap.SameBut e g g2 := u2
  replace e2 : IsEnum g2 e z (c + 1) old := e2
  show wpAny _ _ (setField (.ref e) 4 .none >>= _) _ _ ⟨g2, gn, d, tk + 1, os⟩
  refine wpAny_bind (wpAny_setField_rec e2 (by simp) fun g3 e3 u3 => ?_)
  replace u3 : Heap.SameBut e g2 g3 := u3
  replace e3 : IsEnum g3 e z (c + 1) old := e3
  show wpAny _ _ (newTuple [.int c tk, .ref hp.objs.size] >>= _) _ _ ⟨g3, gn, d, tk + 1, os⟩
  refine wpAny_bind (wpAny_newTuple ?_)
  have sz : g3.objs.size = g.objs.size := by rw [u3.1, u2.1]
  have el : e < g.objs.size := Heap.lt_size e1
  obtain ⟨g4, hg4⟩ : ∃ g4, g4 = g3.push { cls := .type "tuple", data := .seq #[.int c tk, .ref hp.objs.size] } := ⟨_, rfl⟩
  have e4 : IsEnum g4 e z (c + 1) old := by rw [hg4]; exact Heap.get?_push_of_some _ e3
  have t4 : g4.get? g.objs.size = some { cls := .type "tuple", data := .seq #[.int c tk, .ref hp.objs.size] } := by rw [hg4, ← sz]; exact Heap.get?_push_size _ rfl
  have k4 : ∀ b o, b ≠ e → g.get? b = some o → g4.get? b = some o := fun b o hb x => by rw [hg4]; exact Heap.get?_push_of_some _ (u3.extBut b o hb (u2.extBut b o hb x))
  show wpAny _ _ (Builtin.SmallTypes.ownedTupleIsFree (.ref e) >>= _) _ _ ⟨g3.push { cls := .type "tuple", data := .seq #[.int c tk, .ref hp.objs.size] }, gn, d, tk + 1, os⟩
  rw [sz, ← hg4]
  refine wpAny_bind ?_
  unfold Builtin.SmallTypes.ownedTupleIsFree
  refine wpAny_bind (wpAny_field e4 rfl (x := .none) rfl (wpAny_pure ?_))
  simp only [if_true]
  refine wpAny_bind (wpAny_rule ?_)
  refine wpAny_bind (wpAny_field e4 rfl (x := old) rfl ?_)
  refine wpAny_bind (wpAny_setField_rec e4 (by simp) fun g5 e5 u5 => ?_)
  replace u5 : Heap.SameBut e g4 g5 := u5
  replace e5 : IsEnum g5 e z (c + 1) (.ref hp.objs.size) := e5
  show wpAny _ _ (Builtin.SmallTypes.ownedTupleHandOut (.ref e) (.ref g.objs.size) >>= _) _ _ ⟨g5, gn, d, tk + 1, os⟩
  refine wpAny_bind ?_
  unfold Builtin.SmallTypes.ownedTupleHandOut
  refine wpAny_bind (wpAny_setField_rec e5 (by simp) fun g6 e6 u6 => ?_)
  replace u6 : Heap.SameBut e g5 g6 := u6
  replace e6 : IsEnumOut g6 e z (c + 1) (.ref hp.objs.size) g.objs.size := e6
  refine wpAny_setField_rec e6 (by simp) fun g7 e7 u7 => ?_
  replace u7 : Heap.SameBut e g6 g7 := u7
  replace e7 : IsEnumOut g7 e z (c + 1) (.ref hp.objs.size) g.objs.size := e7
  have k7 : ∀ b o, b ≠ e → g4.get? b = some o → g7.get? b = some o := fun b o hb x => u7.extBut b o hb (u6.extBut b o hb (u5.extBut b o hb x))
  exact wpAny_bind (wpAny_letGo (wpAny_pure ⟨_, rfl, q g g7 tk a1 a2 a3 a4 a5 a6 a7 e7 (k7 _ _ (Nat.ne_of_gt el) t4) fun b o hb x => k7 b o hb (k4 b o hb x)⟩))
end
/-- the tuples at a and b as they stand, each pair in a new pair -/
def IteZ (K : PySem.W.Frag) (a b : Addr) : It :=
  ⟨fun i H => ∃ (xs ys : List V) (x y : V), SqT K H a xs ∧ SqT K H b ys ∧ xs[i]? = some x ∧ ys[i]? = some y,
    fun i H v H' => ∃ T T2 x y, v = .ref T2 ∧ H T = none ∧ (upd H T (.tup [x, y])) T2 = none ∧ H' = upd (upd H T (.tup [x, y])) T2 (.tup [.int (i : Nat), .ref T]) ∧ (∀ xs, SqT K H a xs → xs[i]? = some x) ∧ ∀ ys, SqT K H b ys → ys[i]? = some y,
    fun i H => ∃ xs ys : List V, SqT K H a xs ∧ SqT K H b ys ∧ (xs.length ≤ i ∨ ys.length ≤ i)⟩
theorem turn_enumZ {P : Program} {w : World} {K : PySem.W.Frag} {elts : List Expr} {kk : Nat} {tpos : Pos} {a b e z TI TO i1 i2 : Addr} (D : ZipApart z TI TO i1 i2 a b) (n0 : e ≠ z) (n1 : e ≠ TI) (n2 : e ≠ TO) (n3 : e ≠ i1) (n4 : e ≠ i2) :
    Turn P w K (.Tuple elts kk tpos) (IteZ K a b) [e, z, TI, TO, i1, i2] e (fun i h => (∃ old, IsEnum h e z ((i : Nat) : Int) old) ∧ ZS h z TI TO ∧ IsPair h TI (.ref i1) (.ref i2) ∧ (∃ x y, IsPair h TO x y) ∧ h.IsTupleIter i1 a i ∧ h.IsTupleIter i2 b i) where
  mem := by simp
  obj := fun i h st c hc => by
    obtain ⟨⟨old, he⟩, ⟨f, bb, hz, _⟩, hTI, ⟨x, y, hTO⟩, ⟨o1, e1, _, d1⟩, ⟨o2, e2, _, d2⟩⟩ := st
    have e' : c = e ∨ c = z ∨ c = TI ∨ c = TO ∨ c = i1 ∨ c = i2 := by simpa using hc
    rcases e' with q | q | q | q | q | q
    · rw [q]; exact ⟨_, he, fun v q => nomatch q⟩
    · rw [q]; exact ⟨_, hz, fun v q => nomatch q⟩
    · rw [q]; exact ⟨_, hTI, fun v q => nomatch q⟩
    · rw [q]; exact ⟨_, hTO, fun v q => nomatch q⟩
    · rw [q]; exact ⟨o1, e1, fun v q => by rw [d1] at q; cases q⟩
    · rw [q]; exact ⟨o2, e2, fun v q => by rw [d2] at q; cases q⟩
  keep := fun i h h' st k => by
    obtain ⟨⟨old, he⟩, ⟨f, bb, hz, hf⟩, hTI, ⟨x, y, hTO⟩, h1, h2⟩ := st
    exact ⟨⟨old, k e (by simp) _ he⟩, ⟨f, bb, k z (by simp) _ hz, hf⟩, k TI (by simp) _ hTI, ⟨x, y, k TO (by simp) _ hTO⟩, h1.at fun o q => k i1 (by simp) o q, h2.at fun o q => k i2 (by simp) o q⟩
  item := by
    intro X hP hw hK hc i pins s σ H E I hf st hg
    subst hP hw hK
    obtain ⟨⟨old, he⟩, hz, hTI, hTO, h1, h2⟩ := st
    obtain ⟨xs, ys, x, y, hqx, hqy, hx, hy⟩ := hg
    obtain ⟨its, rv, p, _⟩ := I.tuple hqx
    obtain ⟨its2, rv2, p2, _⟩ := I.tuple hqy
    obtain ⟨u, hu, ru⟩ := rv.get hx
    obtain ⟨u2, hu2, ru2⟩ := rv2.get hy
    have hT : s.TypeIs (.ref e) "enumerate" := ⟨_, he, rfl⟩
    have el : e < s.heap.objs.size := Heap.lt_size he
    unfold pyNext
    refine wpAny_bind (wpAny_attempt (wpAny_callSpecial?_slot (name := Str.ofString "__next__") hT F.slot_enumerate_next (wpAny_call_entry F.slot_enumerate_next hT F.entry_enumerate_next
      (enum_zip_go D ⟨n0, n2, n3, n4⟩ he hz hTI hTO h1 h2 p p2 (x := u) (y := u2) (by simpa using hu) (by simpa using hu2) fun g h' tk a1 a2 a3 a4 a5 a6 a7 a8 a9 a10 => wpAny_pure ?_) (F.args_enumerate_next_1 _))))
    refine ⟨_, rfl, wpAny_letOwnedTupleGo_enum (s := { s with heap := h', toks := tk + 1 }) a8 fun h'' he' sb => ?_⟩
    have nT : H s.heap.objs.size = none := I.hok.fresh (Nat.le_refl _)
    have new1 : ObjOk X.prog X.w (upd H s.heap.objs.size (.tup [x, y])) g s.heap.objs.size (.tup [x, y]) := ⟨by show 2 ≤ sizeLine; decide, [u, u2], .cons ru (.cons ru2 .nil), ⟨_, a5, rfl, _, rfl⟩⟩
    have I1 : Inv X pins σ (upd H s.heap.objs.size (.tup [x, y])) { s with heap := g } :=
      I.turnedNew (t' := s.toks) (ch := [e, z, TI, TO, i1, i2]) (fun c o hb q => a7 c o (fun q' => hb (by simp [q'])) (fun q' => hb (by simp [q'])) (fun q' => hb (by simp [q'])) (fun q' => hb (by simp [q'])) q) hf (Nat.le_refl _) new1
    have low : ∀ c ∈ [e, z, TI, TO, i1, i2], c < s.heap.objs.size := fun c hcm => by
      have e' : c = e ∨ c = z ∨ c = TI ∨ c = TO ∨ c = i1 ∨ c = i2 := by simpa using hcm
      rcases e' with q | q | q | q | q | q
      · rw [q]; exact el
      · rw [q]; obtain ⟨_, q, _⟩ := hz.type; exact Heap.lt_size q
      · rw [q]; exact Heap.lt_size hTI
      · rw [q]; obtain ⟨_, _, q⟩ := hTO; exact Heap.lt_size q
      · rw [q]; obtain ⟨_, e1, _⟩ := h1; exact Heap.lt_size e1
      · rw [q]; obtain ⟨_, e2, _⟩ := h2; exact Heap.lt_size e2
    have hf1 : ∀ c ∈ [e], FpOk X pins (upd H s.heap.objs.size (.tup [x, y])) c := fun c hcm => by
      rw [List.mem_singleton] at hcm
      subst hcm
      obtain ⟨f0, f1⟩ := hf c (by simp)
      exact ⟨by rw [upd_ne (Nat.ne_of_lt el)]; exact f0, f1⟩
    have t2 : h''.get? g.objs.size = some { cls := .type "tuple", data := .seq #[.int i tk, .ref s.heap.objs.size] } := by
      refine (sb.2 _ ?_).trans a9
      rw [a6]
      exact Nat.ne_of_gt (Nat.lt_succ_of_lt el)
    have new2 : ObjOk X.prog X.w (upd (upd H s.heap.objs.size (.tup [x, y])) g.objs.size (.tup [.int (i : Nat), .ref s.heap.objs.size])) h'' g.objs.size (.tup [.int (i : Nat), .ref s.heap.objs.size]) :=
      ⟨by show 2 ≤ sizeLine; decide, [.int i tk, .ref s.heap.objs.size], .cons ⟨_, rfl⟩ (.cons rfl .nil), ⟨_, t2, rfl, _, rfl⟩⟩
    have up : ∀ c o, c ≠ e → g.get? c = some o → h''.get? c = some o := fun c o hne q => (sb.2 c hne).trans (a10 c o hne q)
    have I2 := I1.turnedNew (s := { s with heap := g }) (h' := h'') (t' := tk + 1) (ch := [e]) (fun c o hb q => up c o (fun q' => hb (by simp [q'])) q) hf1 (Nat.le_refl _) new2
    refine ⟨.ref g.objs.size, _, I2, rfl, ⟨_, _, x, y, rfl, nT, I1.hok.fresh (Nat.le_refl _), rfl, fun l hl => by rw [I.tuple_inj hl hqx]; exact hx, fun l hl => by rw [I.tuple_inj hl hqy]; exact hy⟩, ⟨⟨.ref s.heap.objs.size, ?_⟩, ?_, ?_, ?_, ?_, ?_⟩, fun c hcm => ?_⟩
    · have e1 : ((i + 1 : Nat) : Int) = (i : Int) + 1 := by omega
      rw [e1]; exact he'
    · obtain ⟨f, bb, q1, q2⟩ := a1
      exact ⟨f, bb, up _ _ (Ne.symm n0) q1, q2⟩
    · exact up _ _ (Ne.symm n1) (a7 _ _ D.TIz D.TITO D.TIi1 D.TIi2 hTI)
    · obtain ⟨x', y', q1⟩ := a2
      exact ⟨x', y', up _ _ (Ne.symm n2) q1⟩
    · exact a3.at fun o q => up _ o (Ne.symm n3) q
    · exact a4.at fun o q => up _ o (Ne.symm n4) q
    · have hlt := low c hcm
      rw [upd_ne (by rw [a6]; exact Nat.ne_of_lt (Nat.lt_succ_of_lt hlt)), upd_ne (Nat.ne_of_lt hlt)]
      exact (hf c hcm).1
  done := by
    intro X hP hw hK hc i pins s σ H E I hf st hg
    subst hP hw hK
    obtain ⟨⟨old, he⟩, hz, hTI, hTO, h1, h2⟩ := st
    obtain ⟨xs, ys, hqx, hqy, hend⟩ := hg
    obtain ⟨its, rv, p, _⟩ := I.tuple hqx
    obtain ⟨its2, rv2, p2, _⟩ := I.tuple hqy
    have l1 := rv.length
    have l2 := rv2.length
    have hn : its.toArray[i]? = none ∨ its2.toArray[i]? = none := by
      rcases hend with q | q
      · exact .inl (by simp; omega)
      · exact .inr (by simp; omega)
    have hT : s.TypeIs (.ref e) "enumerate" := ⟨_, he, rfl⟩
    unfold pyNext
    refine wpAny_bind (wpAny_attempt (wpAny_callSpecial?_slot (name := Str.ofString "__next__") hT F.slot_enumerate_next (wpAny_call_entry F.slot_enumerate_next hT F.entry_enumerate_next ?_ (F.args_enumerate_next_1 _))))
    show wpAny _ _ (field (.ref e) 2 >>= _) _ _ _
    refine wpAny_bind (wpAny_field he rfl (x := .ref z) rfl ?_)
    refine wpAny_bind (nextOf_zip_end (by simpa using I.ok.hd hc) D hz hTI hTO h1 h2 p p2 hn fun h' x hk hx' => ?_)
    obtain ⟨o, ho, hcl⟩ := hx'
    exact wpAny_bind (wpAny_isInstance (T := "StopIteration") (b := true) ⟨o, ho, hcl⟩ isSubtype_stop (wpAny_pure ⟨rfl, I.turnedL (t' := s.toks) (ch := [e, z, TI, TO, i1, i2]) (fun c o hb q =>
      hk c o (fun q' => hb (by simp [q'])) (fun q' => hb (by simp [q'])) (fun q' => hb (by simp [q'])) (fun q' => hb (by simp [q'])) q) hf⟩))
  self := fun A i s Q E st h => let ⟨⟨_, he⟩, _⟩ := st; wpAny_pyIter_enum he h
set_option maxHeartbeats 1000000 in
theorem enum_newI {v : Value} {H : Heap → Prop} (it : ∀ (prog : Program) (w : World) (A : Around) (E : Value → Shared → Prop) (s : Shared) (Q : Value → Shared → Prop), H s.heap → Q v s → wpAny (model prog w) A (pyIter v) Q E s) :
    Meets (Builtin.«enumerate.__new__» ⟨[.type "enumerate", v], []⟩) (fun _ R s => H s.heap ∧ R (.ok (.ret (.ref s.heap.objs.size))) { s with heap := s.heap.push { cls := .type "enumerate", data := .fields #[.none, .bool false, v, rawInt 0, .none, .none] } }) :=
  .of_wp fun prog w A R s h => by
    obtain ⟨hp, g, d, tk, os⟩ := s
    obtain ⟨h1, h2⟩ := h
    have h3 := sub_enumerate
    have it0 : ∀ {A' : Around} {E Q : Value → Shared → Prop}, Q v ⟨hp, g, d, tk, os⟩ → wpAny (model prog w) A' (pyIter v) Q E ⟨hp, g, d, tk, os⟩ := fun q => it prog w _ _ _ _ h1 q
    wp_walk using it0
    refine wpAny_stack_any fun st => wpAny_pure ?_
    split
    · rename_i c _ _ _ _ _
      cases (c == Value.type "enumerate") <;> (wp_walk using it0; exact ⟨_, rfl, h2⟩)
    · wp_walk using it0
      exact ⟨_, rfl, h2⟩
theorem enum_callI {prog : Program} {w : World} {A : Around} {E : Value → Shared → Prop} {s : Shared} {z : Addr} {H : Heap → Prop} {Q : Value → Shared → Prop} (it : ∀ (prog : Program) (w : World) (A : Around) (E : Value → Shared → Prop) (s : Shared) (Q : Value → Shared → Prop), H s.heap → Q (.ref z) s → wpAny (model prog w) A (pyIter (.ref z)) Q E s) (h1 : H s.heap)
    (h : ∀ h', IsEnum h' s.heap.objs.size z 0 .none → (∀ b q, s.heap.get? b = some q → h'.get? b = some q) → Q (.ref s.heap.objs.size) { s with heap := h' }) :
    wpAny (model prog w) A (call (.type "enumerate") [.ref z]) Q E s := by
  refine callType_new F.called_enumerate (by decide) (F.typeCall_enumerate_1 _) (F.newCall_enumerate_1 _) (fun obj => F.args_object_init_2 obj _) F.entry_enumerate_new (enum_newI it) ⟨h1, ?_⟩
  have he := Heap.get?_push_size s.heap (o := { cls := .type "enumerate", data := .fields #[.none, .bool false, .ref z, rawInt 0, .none, .none] }) rfl
  exact ⟨⟨_, he, rfl⟩, h _ he fun b q x => Heap.get?_push_of_some _ x⟩
def iEnumZA (K : PySem.W.Frag) (ta : TA) : TI := fun σ H R => ta σ H fun vs H1 => ∃ a b xs ys, vs = [.ref a, .ref b] ∧ SqT K H1 a xs ∧ SqT K H1 b ys ∧ R (IteZ K a b) H1
theorem pi_enumZ {X : Cx} {e1 e2 : Expr} {ta : TA} {p p2 pos pos2 tpos : Pos} {elts : List Expr} {kk : Nat} (hg : Gl X "enumerate") (hm : X.mg "enumerate" = none) (hg2 : Gl X "zip") (hm2 : X.mg "zip" = none) (ha : PA X [e1, e2] ta)
    (hs : starEach [.Call (.Name "zip" p2) [e1, e2] [] pos2] X.env = (false, eval (.Call (.Name "zip" p2) [e1, e2] [] pos2) X.env) :: starEach [] X.env := by rfl)
    (hs2 : starEach [e1, e2] X.env = (false, eval e1 X.env) :: starEach [e2] X.env := by rfl) (hpl : (backTo pos2 (starEach [e2] X.env)).any (·.1) = false := by rfl) :
    PI X (.Tuple elts kk tpos) (.Call (.Name "enumerate" p) [.Call (.Name "zip" p2) [e1, e2] [] pos2] [] pos) (iEnumZA X.K ta) := by
  refine ⟨fun pins s σ H R I h => Call_ (ld_blt I hg hm boot_enumerate (PyProof.Rows.callWith_type1 ?_ hs rfl))⟩
  rw [hs]
  show wpAny _ _ (spliced ((false, eval (.Call (.Name "zip" p2) [e1, e2] [] pos2) X.env) :: backTo pos (starEach [] X.env))) _ _ s
  refine Calls.spliced_cons ?_
  refine Call_ (ld_blt I hg2 hm2 PyProof.Rows.boot_zip (PyProof.Rows.callWith_type1 (thn (ha.run pos2 pins s σ H _ I h) fun us s1 ⟨vs, H1, I1, r1, q1⟩ => ?_) hs2 hpl))
  obtain ⟨a, b, xs, ys, ex, hqx, hqy, q⟩ := q1
  subst ex
  cases r1 with
  | cons r rr =>
    cases rr with
    | cons r' rr =>
      cases rr
      cases r
      cases r'
      obtain ⟨its, rv, p1, _⟩ := I1.tuple hqx
      obtain ⟨its2, rv2, p2, _⟩ := I1.tuple hqy
      obtain ⟨o1, ho1, _⟩ := id p1
      obtain ⟨o2, ho2, _⟩ := id p2
      refine call_zipT (show s1.heap.IsTuple a its.toArray from p1) (show s1.heap.IsTuple b its2.toArray from p2) fun h' hz hTI hTO h1 h2 hsz hk => ?_
      show wpAny _ _ (spliced []) _ _ _
      refine Calls.spliced_nil ?_
      refine enum_callI (z := s1.heap.objs.size + 4) (H := fun hp => IsZip hp (s1.heap.objs.size + 4) (s1.heap.objs.size + 2) (s1.heap.objs.size + 3) .none) (fun _ _ _ _ _ _ z q => wpAny_pyIter_zip z q) hz fun h'' he hk2 => wpAny_pyIter_enum he ?_
      have I2 : Inv X pins σ H1 { s1 with heap := h'' } := I1.kept (t' := s1.toks) fun c o q => hk2 c o (hk c o q)
      have sz2 : ({ s1 with heap := h' } : Shared).heap.objs.size = s1.heap.objs.size + 5 := hsz
      rw [sz2] at he ⊢
      have far : ∀ c, c ∈ [s1.heap.objs.size + 5, s1.heap.objs.size + 4, s1.heap.objs.size + 2, s1.heap.objs.size + 3, s1.heap.objs.size, s1.heap.objs.size + 1] → FpOk X pins H1 c := fun c hcm => by
        have hle : s1.heap.objs.size ≤ c := by
          simp only [List.mem_cons, List.not_mem_nil, or_false] at hcm
          rcases hcm with z | z | z | z | z | z
          · rw [z]; exact Nat.le_add_right _ _
          · rw [z]; exact Nat.le_add_right _ _
          · rw [z]; exact Nat.le_add_right _ _
          · rw [z]; exact Nat.le_add_right _ _
          · rw [z]; exact Nat.le_refl _
          · rw [z]; exact Nat.le_add_right _ _
        exact I1.fpOk hle (I1.hok.fresh hle)
      have ne : ∀ k, k < 5 → s1.heap.objs.size + 5 ≠ s1.heap.objs.size + k := fun k hk z => by
        have := Nat.add_left_cancel z
        omega
      exact ⟨s1.heap.objs.size + 5, [s1.heap.objs.size + 5, s1.heap.objs.size + 4, s1.heap.objs.size + 2, s1.heap.objs.size + 3, s1.heap.objs.size, s1.heap.objs.size + 1], _, _, H1, rfl, I2, turn_enumZ (PySem.W.ktu_apart s1.heap.objs.size a b (Heap.lt_size ho1) (Heap.lt_size ho2)) (ne 4 (by omega)) (ne 2 (by omega)) (ne 3 (by omega)) (ne 0 (by omega)) (ne 1 (by omega)),
        ⟨⟨.none, he⟩, ⟨.none, false, hk2 _ _ hz, .inl rfl⟩, hk2 _ _ hTI, ⟨_, _, hk2 _ _ hTO⟩, h1.at fun o q => hk2 _ o q, h2.at fun o q => hk2 _ o q⟩, far, q⟩
/-! ### by value -/
def iEnumZ (a b : CE) : CI := fun σ M => (a σ M).bind fun p => (b σ p.2).bind fun q => match p.1, q.1 with
  | .tup xs, .tup ys => some (enumW (zipW xs ys), gdT, q.2)
  | _, _ => none
theorem iEnumZ_eq (a b : CE) (σ : Sl) (M : Mem) : iEnumZ a b σ M = (a σ M).bind fun p => (b σ p.2).bind fun q => match p.1, q.1 with
  | .tup xs, .tup ys => some (enumW (zipW xs ys), gdT, q.2)
  | _, _ => none := rfl
theorem walk_of_enumZ {K : KW} {H : Hp} {loc : List Addr} {a b : Addr} {xs ys : List V} {ws zs : List W} (sq : SqT K H a xs) (sq' : SqT K H b ys) (r : Rds K H loc xs ws) (r' : Rds K H loc ys zs) : WalkW K H loc (IteZ K a b) (enumW (zipW ws zs)) gdT :=
  fun i H1 loc1 M s ex l _ => ⟨fun w hw => by
    obtain ⟨q, hq, rfl⟩ := enumW_get hw
    obtain ⟨x, y, h1, h2, rfl⟩ := zipW_get hq
    obtain ⟨v, g1, g2⟩ := r.get h1
    obtain ⟨u, g3, g4⟩ := r'.get h2
    refine ⟨⟨xs, ys, v, u, ex.tup _ _ sq, ex.tup _ _ sq', g1, g3⟩, fun x H2 y => ?_⟩
    obtain ⟨T, T2, x', y', rfl, hT, hT2, rfl, f1, f2⟩ := y
    have e1 := f1 xs (ex.tup _ _ sq)
    have e2 := f2 ys (ex.tup _ _ sq')
    rw [g1] at e1; cases e1
    rw [g3] at e2; cases e2
    have ex2 : Ext K H1 (upd H1 T (.tup [v, u])) := .new hT
    have ex3 : Ext K (upd H1 T (.tup [v, u])) (upd (upd H1 T (.tup [v, u])) T2 (.tup [.int (i : Nat), .ref T])) := .new hT2
    have r1 : Rd K (upd H1 T (.tup [v, u])) loc1 (.ref T) (.tup [x, y]) := .tup (SqT.of upd_same) (.cons (g2.mono (ex.trans ex2) l) (.cons (g4.mono (ex.trans ex2) l) .nil))
    exact ⟨.tup (SqT.of upd_same) (.cons (.int _) (.cons (r1.mono ex3 (List.prefix_refl _)) .nil)), (s.newT hT).newT hT2, ex2.trans ex3⟩,
   fun hl => ⟨xs, ys, ex.tup _ _ sq, ex.tup _ _ sq', by
    rw [r.length, r'.length]
    have : (enumW (zipW ws zs)).length = min ws.length zs.length := by rw [enumW_length]; simp [zipW]
    omega⟩⟩
theorem i_enumZ {X : Cx} {a b : Expr} {ca cb : CE} {p p2 pos pos2 tpos : Pos} {elts : List Expr} {kk : Nat} (hg : Gl X "enumerate") (hm : X.mg "enumerate" = none) (hg2 : Gl X "zip") (hm2 : X.mg "zip" = none) (h : EA X [a, b] [ca, cb])
    (hs : starEach [.Call (.Name "zip" p2) [a, b] [] pos2] X.env = (false, eval (.Call (.Name "zip" p2) [a, b] [] pos2) X.env) :: starEach [] X.env := by rfl)
    (hs2 : starEach [a, b] X.env = (false, eval a X.env) :: starEach [b] X.env := by rfl) (hpl : (backTo pos2 (starEach [b] X.env)).any (·.1) = false := by rfl) :
    EI X (.Tuple elts kk tpos) (.Call (.Name "enumerate" p) [.Call (.Name "zip" p2) [a, b] [] pos2] [] pos) (iEnumZ ca cb) :=
  (pi_enumZ hg hm hg2 hm2 h hs hs2 hpl).mono fun σV H R ⟨loc, σ, M, ws, gd, M', rel, e, aft⟩ => by
    obtain ⟨p, hp, e⟩ := bind_some e
    obtain ⟨q, hq, e⟩ := bind_some e
    refine runA (p := ([p.1, q.1], q.2)) rel (by simp only [eArgs, hp, hq, Option.bind_some]) fun vs H1 loc1 rel1 rd1 ex1 l1 => ?_
    split at e
    · rename_i xs ys hx hy
      cases e
      rw [hx, hy] at rd1
      match vs, rd1 with
      | [_, _], .cons (.tup (a := a1) (xs := us1) sq1 r1) (.cons (.tup (a := a2) (xs := us2) sq2 r2) .nil) =>
        exact ⟨a1, a2, us1, us2, rfl, sq1, sq2, aft _ H1 loc1 rel1.st ex1 l1 (walk_of_enumZ sq1 sq2 r1 r2)⟩
    · cases e
end BF

set_option Elab.async false
set_option linter.all false
set_option autoImplicit false
set_option maxRecDepth 10000
namespace BF
open PySem Enc
/-! histories: what an action does -/
def valid (h : Hist) : Prop := h.at_ < h.ps.length ∧ h.ps.length ≤ 1000
instance (h : Hist) : Decidable (valid h) := by unfold valid; infer_instance
def stepH (h : Hist) : Act → Hist
  | .visit p => ⟨h.ps.take (h.at_ + 1) ++ [p], h.at_ + 1⟩
  | .back => ⟨h.ps, h.at_ - 1⟩
  | .forward => ⟨h.ps, min (h.ps.length - 1) (h.at_ + 1)⟩
  | .go i => if i < h.ps.length then ⟨h.ps, i⟩ else h
def plain : Act → Bool
  | .go _ => false
  | _ => true
/-- valid, with room for so many more pages -/
def roomy (h : Hist) (n : Nat) : Prop := h.at_ < h.ps.length ∧ h.ps.length + n ≤ 1000
instance (h : Hist) (n : Nat) : Decidable (roomy h n) := by unfold roomy; infer_instance
theorem roomy_step {h : Hist} {n : Nat} (a : Act) (hr : roomy h (n + 1)) : roomy (stepH h a) n := by
  obtain ⟨h1, h2⟩ := hr
  cases a with
  | visit p => constructor <;> simp [stepH] <;> omega
  | back => constructor <;> simp [stepH] <;> omega
  | forward => constructor <;> simp [stepH] <;> omega
  | go i =>
    show roomy (if i < h.ps.length then ⟨h.ps, i⟩ else h) n
    by_cases hi : i < h.ps.length
    · rw [if_pos hi]; exact ⟨hi, by show h.ps.length + n ≤ 1000; omega⟩
    · rw [if_neg hi]; exact ⟨h1, by omega⟩
def runH (h : Hist) (l : List Act) : Hist := l.foldl stepH h
theorem roomy_run : ∀ (l : List Act) {h : Hist} {n : Nat}, roomy h (n + l.length) → roomy (runH h l) n
  | [], _, _, hr => hr
  | a :: l, h, n, hr => roomy_run l (roomy_step a (by rw [List.length_cons, ← Nat.add_assoc] at hr; exact hr))
theorem roomy_mono {h : Hist} {n m : Nat} (hr : roomy h n) (hm : m ≤ n) : roomy h m := ⟨hr.1, by have := hr.2; omega⟩
theorem enc_hist' (h : Hist) : (enc h : W) = .tup [.tup (h.ps.map W.str), .int h.at_] := rfl
theorem enc_mk (ps : List Str) (i : Nat) : (.tup [.tup (ps.map W.str), .int i] : W) = enc (⟨ps, i⟩ : Hist) := rfl
end BF

set_option Elab.async false
set_option linter.all false
set_option autoImplicit false
set_option maxRecDepth 10000
namespace BF
open PySem Enc
/-! promises of pure defs of four arguments -/
def fn4 {α β γ δ ε : Type} [Enc α] [Enc β] [Enc γ] [Enc δ] [Enc ε] (f : α → β → γ → δ → Option ε) : Fn := fun ws M => match ws with
  | [x, y, z, u] => match (dec x : Option α), (dec y : Option β), (dec z : Option γ), (dec u : Option δ) with
    | some a, some b, some c, some d => (f a b c d).map fun e => (enc e, M)
    | _, _, _, _ => none
  | _ => none
theorem fn4_eq {α β γ δ ε : Type} [Enc α] [Enc β] [Enc γ] [Enc δ] [Enc ε] (f : α → β → γ → δ → Option ε) (a : α) (b : β) (c : γ) (d : δ) (M : Mem) : fn4 f [enc a, enc b, enc c, enc d] M = (f a b c d).map fun e => (enc e, M) := by
  unfold fn4; simp only [dec_enc]
theorem keeps4p {α β γ δ ε : Type} [Enc α] [Enc β] [Enc γ] [Enc δ] [Enc ε] {f : α → β → γ → δ → Option ε} {n : Nat} {body : CS}
    (h : ∀ a b c d e M, f a b c d = some e → ∃ M2, body (some (enc a) :: some (enc b) :: some (enc c) :: some (enc d) :: List.replicate (n - 4) none) M = some (.rt (enc e) M2) ∧ M <+: M2) : Keeps n body (fn4 f) := by
  refine KeepsP.keeps ?_
  intro ws M w M' hc hw e
  unfold fn4 at e
  split at e
  · split at e
    · rename_i x y z u _ _ _ _ a b c d ha hb hcc hd
      obtain ⟨r, hr, e⟩ := Option.map_eq_some_iff.mp e
      cases e
      obtain ⟨M2, h1, g, h2⟩ := h a b c d r M hr
      rw [enc_dec _ _ ha, enc_dec _ _ hb, enc_dec _ _ hcc, enc_dec _ _ hd]
      exact ⟨g, .inl (by rw [h2]; exact h1), Nat.le_refl _, hc, enc_closed r _⟩
    · cases e
  · cases e
end BF

set_option Elab.async false
set_option linter.all false
set_option autoImplicit false
set_option maxRecDepth 10000
namespace BF
open PySem Enc
/-! pages that are texts or numbers -/
inductive Pg where
  | s (x : Str)
  | i (n : Nat)
  deriving DecidableEq
def wp : Pg → W
  | .s x => .str x
  | .i n => .int n
@[simp] theorem wp_s (x : Str) : wp (.s x) = .str x := rfl
@[simp] theorem wp_i (n : Nat) : wp (.i n) = .int n := rfl
instance : Enc Pg where
  enc := wp
  dec w := match w with
    | .str x => some (.s x)
    | .int i => if 0 ≤ i then some (.i i.toNat) else none
    | _ => none
  dec_enc a := by cases a <;> simp [wp]
  enc_dec w a h := by
    split at h
    · cases h; rfl
    · split at h
      · cases h; simp [wp]; omega
      · cases h
    · cases h
  dep := 1
  ok a := by cases a <;> rfl
  eqE a b := by cases a <;> cases b <;> simp [wp, eqP]; omega
/-- a history of such pages -/
structure HistP where
  ps : List Pg
  at_ : Nat
  deriving DecidableEq
instance : Enc HistP where
  enc h := .tup [.tup (h.ps.map wp), .int h.at_]
  dec w := (dec w : Option (List Pg × Nat)).map fun p => ⟨p.1, p.2⟩
  dec_enc h := by
    have : (dec (.tup [.tup (h.ps.map wp), .int h.at_]) : Option (List Pg × Nat)) = some (h.ps, h.at_) := dec_enc (h.ps, h.at_)
    rw [this]; rfl
  enc_dec w a h := by
    obtain ⟨p, h1, h2⟩ := Option.map_eq_some_iff.mp h
    rw [enc_dec w p h1, ← h2]; rfl
  dep := 3
  ok h := ok (h.ps, h.at_)
  eqE a b := by
    have := eqE (a.ps, a.at_) (b.ps, b.at_)
    refine this.trans ?_
    cases a; cases b
    simp
theorem enc_histP (h : HistP) : (enc h : W) = .tup [.tup (h.ps.map wp), .int h.at_] := rfl
theorem map_encP (l : List Pg) : l.map (Enc.enc : Pg → W) = l.map wp := rfl
@[simp] theorem eqW_pgs (M : Mem) (a b : List Pg) : eqW M (.tup (a.map wp)) (.tup (b.map wp)) = some (decide (a = b)) := eqW_enc (α := List Pg) M a b
@[simp] theorem eqW_histP (M : Mem) (a b : List Pg) (i j : Nat) : eqW M (.tup [.tup (a.map wp), .int i]) (.tup [.tup (b.map wp), .int j]) = some (decide (a = b ∧ i = j)) := by
  have := eqW_enc (α := HistP) M ⟨a, i⟩ ⟨b, j⟩
  rw [show decide (a = b ∧ i = j) = decide ((⟨a, i⟩ : HistP) = ⟨b, j⟩) from decide_eq_decide.mpr (by simp)]
  exact this
/-! histories: what an action does -/
def validP (h : HistP) : Prop := h.at_ < h.ps.length ∧ h.ps.length ≤ 1000
instance (h : HistP) : Decidable (validP h) := by unfold validP; infer_instance
def stepP (h : HistP) : Act → HistP
  | .visit p => ⟨h.ps.take (h.at_ + 1) ++ [.s p], h.at_ + 1⟩
  | .back => ⟨h.ps, h.at_ - 1⟩
  | .forward => ⟨h.ps, min (h.ps.length - 1) (h.at_ + 1)⟩
  | .go i => if i < h.ps.length then ⟨h.ps, i⟩ else h
/-- validP, with room for so many more pages -/
def roomyP (h : HistP) (n : Nat) : Prop := h.at_ < h.ps.length ∧ h.ps.length + n ≤ 1000
instance (h : HistP) (n : Nat) : Decidable (roomyP h n) := by unfold roomyP; infer_instance
theorem roomyP_step {h : HistP} {n : Nat} (a : Act) (hr : roomyP h (n + 1)) : roomyP (stepP h a) n := by
  obtain ⟨h1, h2⟩ := hr
  cases a with
  | visit p => constructor <;> simp [stepP] <;> omega
  | back => constructor <;> simp [stepP] <;> omega
  | forward => constructor <;> simp [stepP] <;> omega
  | go i =>
    show roomyP (if i < h.ps.length then ⟨h.ps, i⟩ else h) n
    by_cases hi : i < h.ps.length
    · rw [if_pos hi]; exact ⟨hi, by show h.ps.length + n ≤ 1000; omega⟩
    · rw [if_neg hi]; exact ⟨h1, by omega⟩
def runP (h : HistP) (l : List Act) : HistP := l.foldl stepP h
theorem roomyP_run : ∀ (l : List Act) {h : HistP} {n : Nat}, roomyP h (n + l.length) → roomyP (runP h l) n
  | [], _, _, hr => hr
  | a :: l, h, n, hr => roomyP_run l (roomyP_step a (by rw [List.length_cons, ← Nat.add_assoc] at hr; exact hr))
theorem roomyP_mono {h : HistP} {n m : Nat} (hr : roomyP h n) (hm : m ≤ n) : roomyP h m := ⟨hr.1, by have := hr.2; omega⟩
end BF

set_option Elab.async false
set_option linter.all false
set_option autoImplicit false
set_option maxRecDepth 10000
namespace BF
open PySem Enc
/-! after -/
def afterF (h : HistP) (a : Act) : Option HistP := if validP h ∧ plain a = true then some (stepP h a) else none
def F_after : Fn := fn2 afterF
abbrev N_after : List Str := ["history", "action", "pages", "place"]
def c_after : CS :=
  (sSeq (sSet (gT [(gV 2), (gV 3)]) (eV 0))
  (sSeq (sIf (tB (e2 gEq (e2 gIx (eV 1) (eL (.int 0))) (eL (.str "visit")))) (sRet (eTup [(e2 gAdd (eSl (eV 2) none (some (e2 gAdd (eV 3) (eL (.int 1))))) (eTup [(e2 gIx (eV 1) (eL (.int 1)))])), (e2 gAdd (eV 3) (eL (.int 1)))])) sNil)
  (sSeq (sIf (tB (e2 gEq (e2 gIx (eV 1) (eL (.int 0))) (eL (.str "back")))) (sRet (eTup [(eV 2), (eN pMax [(eL (.int 0)), (e2 gSub (eV 3) (eL (.int 1)))])])) sNil)
  (sRet (eTup [(eV 2), (eN pMin [(e2 gSub (eN pLen [(eV 2)]) (eL (.int 1))), (e2 gAdd (eV 3) (eL (.int 1)))])])))))
theorem after_ok {h : HistP} {a : Act} (M : Mem) (hv : validP h) (ha : plain a = true) : F_after [enc h, enc a] M = some (enc (stepP h a), M) := by
  have := fn2_eq afterF h a M
  unfold afterF at this
  rw [if_pos ⟨hv, ha⟩] at this
  exact this
theorem keeps_after : Keeps 4 c_after F_after := by
  refine keeps2 fun h a c M e => ⟨[], ?_⟩
  unfold afterF at e
  split at e
  · rename_i hv
    cases e
    obtain ⟨⟨h1, h2⟩, h3⟩ := hv
    rw [List.append_nil]
    have k1 : h.ps.length ≤ 16777215 := by omega
    cases a with
    | visit p =>
      have k2 : (h.ps.take (h.at_ + 1)).length + 1 ≤ 16777216 := by simp; omega
      simp [c_after, enc_histP, stepP, cutW_map, List.length_take] at k2 ⊢
      rw [if_pos k2]
      simp
    | back =>
      simp [c_after, enc_histP, stepP]
      split <;> omega
    | forward =>
      simp [c_after, enc_histP, stepP]
      split <;> omega
    | go i => cases h3
  · cases e
end BF

set_option Elab.async false
set_option linter.all false
set_option autoImplicit false
set_option maxRecDepth 10000
namespace BF
open PySem Enc
/-! apply -/
def applyF (h : HistP) (l : List Act) : Option HistP := if roomyP h l.length ∧ l.all plain = true then some (runP h l) else none
def F_apply : Fn := fn2 applyF
abbrev b1_apply : CS :=
  (sSet (gV 0) (eN F_after [(eV 0), (eV 2)]))
abbrev N_apply : List Str := ["history", "script", "action"]
def c_apply : CS :=
  (sSeq (sFor (iTup (eV 1)) (gV 2) (sSet (gV 0) (eN F_after [(eV 0), (eV 2)])))
  (sRet (eV 0)))
theorem apply_ok {h : HistP} {l : List Act} (M : Mem) (hv : roomyP h l.length) (ha : l.all plain = true) : F_apply [enc h, enc l] M = some (enc (runP h l), M) := by
  have := fn2_eq applyF h l M
  unfold applyF at this
  rw [if_pos ⟨hv, ha⟩] at this
  exact this
theorem keeps_apply : Keeps 3 c_apply F_apply := by
  refine keeps2 fun h l c M e => ⟨[], ?_⟩
  unfold applyF at e
  split at e
  · rename_i hv
    cases e
    obtain ⟨h1, h2⟩ := hv
    rw [List.append_nil]
    have key : ∀ (l : List Act) (h : HistP) (σ : Sl), roomyP h l.length → l.all plain = true → σ.length = 3 → σ[0]? = some (some (enc h)) →
        ∃ σ', forL gdT (gV 2) (sSet (gV 0) (eN F_after [(eV 0), (eV 2)])) (l.map enc) σ M = some (.nx σ' M) ∧ σ'[0]? = some (some (enc (runP h l))) := by
      intro l
      induction l with
      | nil => intro h σ _ _ _ h0; exact ⟨σ, forL_nil rfl, h0⟩
      | cons a l ih =>
        intro h σ hr hp hl h0
        rw [List.all_cons, Bool.and_eq_true] at hp
        rw [List.length_cons] at hr
        match σ, hl, h0 with
        | [s0, s1, s2], _, h0 =>
          cases h0
          obtain ⟨σ', e1, e2⟩ := ih (stepP h a) [some (enc (stepP h a)), s1, some (enc a)] (roomyP_step a hr) hp.2 rfl rfl
          refine ⟨σ', ?_, e2⟩
          rw [List.map_cons, forL_cons (σ1 := [some (enc h), s1, some (enc a)]) (o := .nx [some (enc (stepP h a)), s1, some (enc a)] M) rfl rfl (by simp [after_ok M ⟨hr.1, by have := hr.2; omega⟩ hp.1])]
          exact e1
    obtain ⟨σ', e1, e2⟩ := key l h [some (enc h), some (enc l), none] h1 h2 rfl rfl
    simp only [c_apply, sSeq_eq, sFor_eq, iTup_eq, eV_eq, List.replicate, List.getD_cons_zero, List.getD_cons_succ, Option.bind_some, enc_list]
    simp only [enc_list] at e1
    rw [e1]
    simp [e2]
  · cases e
end BF

set_option Elab.async false
set_option linter.all false
set_option autoImplicit false
set_option maxRecDepth 10000
namespace BF
open PySem Enc
/-! differs -/
def rangeH (n i : Nat) : HistP := ⟨(List.range n).map Pg.i, i⟩
def dif (a b : List Act) (i j : Nat) : Bool := decide (runP (rangeH (i + 1 + j) i) a ≠ runP (rangeH (i + 1 + j) i) b)
def okS (a : List Act) : Prop := a.length ≤ 100 ∧ a.all plain = true
instance (a : List Act) : Decidable (okS a) := by unfold okS; infer_instance
def difF (a b : List Act) (i j : Nat) : Option Bool := if okS a ∧ okS b ∧ i ≤ 200 ∧ j ≤ 200 then some (dif a b i j) else none
def F_differs : Fn := fn4 difF
abbrev N_differs : List Str := ["first", "second", "behind", "ahead", "history"]
def c_differs : CS :=
  (sSeq (sSet (gV 4) (eTup [(eN pTupRg [(e2 gAdd (e2 gAdd (eV 2) (eL (.int 1))) (eV 3))]), (eV 2)]))
  (sRet (e2 gNe (eN F_apply [(eV 4), (eV 0)]) (eN F_apply [(eV 4), (eV 1)]))))
theorem differs_ok {a b : List Act} {i j : Nat} (M : Mem) (h1 : okS a) (h2 : okS b) (h3 : i ≤ 200) (h4 : j ≤ 200) : F_differs [enc a, enc b, .int i, .int j] M = some (.bl (dif a b i j), M) := by
  have := fn4_eq difF a b i j M
  unfold difF at this
  rw [if_pos ⟨h1, h2, h3, h4⟩] at this
  exact this
theorem rangeW_wp (n : Nat) : rangeW 0 n = ((List.range n).map Pg.i).map wp := by
  unfold rangeW
  rw [List.map_map]
  apply List.map_congr_left
  intro i _
  simp
theorem rangeH_roomy {n i k : Nat} (h : i < n) (hn : n + k ≤ 1000) : roomyP (rangeH n i) k := ⟨by simp [rangeH]; exact h, by simp [rangeH]; exact hn⟩
theorem keeps_differs : Keeps 5 c_differs F_differs := by
  refine keeps4p fun a b i j c M e => ?_
  unfold difF at e
  split at e
  · rename_i hv
    cases e
    obtain ⟨h1, h2, h3, h4⟩ := hv
    have f1 := apply_ok (h := rangeH (i + 1 + j) i) M (rangeH_roomy (by omega) (by have := h1.1; omega)) h1.2
    have f2 := apply_ok (h := rangeH (i + 1 + j) i) M (rangeH_roomy (by omega) (by have := h2.1; omega)) h2.2
    have eh : (enc (rangeH (i + 1 + j) i) : W) = .tup [.tup (rangeW 0 (i + 1 + j)), .int i] := by rw [enc_histP, rangeW_wp]; rfl
    rw [eh] at f1 f2
    refine ⟨M, ?_, List.prefix_refl _⟩
    have k1 : ((i : Int) + 1 + j).natAbs ≤ 16777216 := by omega
    have k2 : ((i : Int) + 1 + j).toNat = i + 1 + j := by omega
    unfold dif
    generalize runP (rangeH (i + 1 + j) i) a = A at *
    generalize runP (rangeH (i + 1 + j) i) b = B at *
    have ee := eqW_enc (α := HistP) M A B
    simp only [enc_list] at f1 f2
    simp [c_differs, enc_list, k1, k2, f1, f2, ee]
  · cases e
end BF

set_option Elab.async false
set_option linter.all false
set_option autoImplicit false
set_option maxRecDepth 10000
namespace BF
open PySem Enc
/-! a value, or None -/
class NN (α : Type) [Enc α] : Prop where
  ne : ∀ a : α, (enc a : W) ≠ .non
@[reducible] def encOpt (α : Type) [Enc α] [NN α] : Enc (Option α) where
  enc o := match o with
    | none => .non
    | some a => enc a
  dec w := match w with
    | .non => some none
    | w => (dec w : Option α).map some
  dec_enc a := by
    cases a with
    | none => rfl
    | some l =>
      have := NN.ne l
      show (match (enc l : W) with
        | .non => some none
        | w => (dec w : Option α).map some) = _
      have e := dec_enc l
      cases h : (enc l : W) with
      | non => exact absurd h this
      | _ => rw [h] at e; simp only; rw [e]; rfl
  enc_dec w a h := by
    split at h
    · cases h; rfl
    · obtain ⟨l, h1, h2⟩ := Option.map_eq_some_iff.mp h
      subst h2
      exact enc_dec _ _ h1
  dep := dep α + 1
  ok a := by
    cases a with
    | none => rfl
    | some l => exact okW_mono _ _ (ok l) _ (Nat.le_succ _)
  eqE a b := by
    cases a with
    | none => cases b with
      | none => simp [eqP]
      | some l =>
        have := NN.ne l
        simp only
        cases h : (enc l : W) <;> simp [eqP] <;> exact absurd h this
    | some l => cases b with
      | none =>
        have := NN.ne l
        simp only
        cases h : (enc l : W) <;> simp [eqP] <;> exact absurd h this
      | some l2 =>
        show eqP (enc l) (enc l2) = true ↔ _
        rw [eqE]; simp
instance : NN Hist := ⟨fun _ h => by cases h⟩
instance {α β : Type} [Enc α] [Enc β] : NN (α × β) := ⟨fun _ h => by cases h⟩
instance : Enc (Option Hist) := encOpt Hist
instance : Enc (Option (Int × Hist)) := encOpt (Int × Hist)
theorem enc_ohn : (enc (none : Option Hist) : W) = .non := rfl
theorem enc_ohs (h : Hist) : (enc (some h : Option Hist) : W) = enc h := rfl
theorem enc_obn : (enc (none : Option (Int × Hist)) : W) = .non := rfl
theorem enc_obs (v : Int) (h : Hist) : (enc (some (v, h) : Option (Int × Hist)) : W) = .tup [.int v, enc h] := rfl
end BF

set_option Elab.async false
set_option linter.all false
set_option autoImplicit false
set_option maxRecDepth 10000
namespace BF
open PySem Enc
noncomputable section
/-! the first pair, by sum and then by its first part -/
instance : Enc (Option (Nat × Nat)) := encOpt (Nat × Nat)
theorem enc_opnn : (enc (none : Option (Nat × Nat)) : W) = .non := rfl
theorem enc_opns (i j : Nat) : (enc (some (i, j) : Option (Nat × Nat)) : W) = .tup [.int i, .int j] := rfl
/-- P's first pair within the box, or None -/
def IsFirst (P : Nat → Nat → Bool) (mb ma : Nat) : Option (Nat × Nat) → Prop
  | none => ∀ i j, i ≤ mb → j ≤ ma → P i j = false
  | some (i, j) => i ≤ mb ∧ j ≤ ma ∧ P i j = true ∧ ∀ i' j', i' ≤ mb → j' ≤ ma → (i' + j' < i + j ∨ (i' + j' = i + j ∧ i' < i)) → P i' j' = false
theorem IsFirst.unique {P : Nat → Nat → Bool} {mb ma : Nat} : ∀ {r q : Option (Nat × Nat)}, IsFirst P mb ma r → IsFirst P mb ma q → r = q
  | none, none, _, _ => rfl
  | none, some (i, j), h1, h2 => by
    have := h1 i j h2.1 h2.2.1
    rw [h2.2.2.1] at this; cases this
  | some (i, j), none, h1, h2 => by
    have := h2 i j h1.1 h1.2.1
    rw [h1.2.2.1] at this; cases this
  | some (i, j), some (i', j'), h1, h2 => by
    obtain ⟨a1, a2, a3, a4⟩ := h1
    obtain ⟨b1, b2, b3, b4⟩ := h2
    have n1 : ¬ (i' + j' < i + j ∨ (i' + j' = i + j ∧ i' < i)) := fun z => by
      rw [a4 i' j' b1 b2 z] at b3; cases b3
    have n2 : ¬ (i + j < i' + j' ∨ (i + j = i' + j' ∧ i < i')) := fun z => by
      rw [b4 i j a1 a2 z] at a3; cases a3
    have : i = i' ∧ j = j' := by omega
    rw [this.1, this.2]
/-- a larger box finds nothing new -/
theorem IsFirst.wider {P : Nat → Nat → Bool} {mb ma b a : Nat} (hb : mb ≤ b) (ha : ma ≤ a) (f1 : ∀ i j, mb ≤ i → P (i + 1) j = true → P i j = true) (f2 : ∀ i j, ma ≤ j → P i (j + 1) = true → P i j = true) :
    ∀ {r : Option (Nat × Nat)}, IsFirst P mb ma r → IsFirst P b a r := by
  have low : ∀ i j, P i j = true → ∃ i' j', i' ≤ mb ∧ j' ≤ ma ∧ P i' j' = true ∧ i' ≤ i ∧ j' ≤ j := by
    have l1 : ∀ k i j, i ≤ mb + k → P i j = true → ∃ i', i' ≤ mb ∧ P i' j = true ∧ i' ≤ i := by
      intro k
      induction k with
      | zero => intro i j h hp; exact ⟨i, by omega, hp, Nat.le_refl _⟩
      | succ k ih =>
        intro i j h hp
        by_cases hi : i ≤ mb
        · exact ⟨i, hi, hp, Nat.le_refl _⟩
        · obtain ⟨i', e⟩ : ∃ i', i = i' + 1 := ⟨i - 1, by omega⟩
          subst e
          obtain ⟨q, q1, q2, q3⟩ := ih i' j (by omega) (f1 i' j (by omega) hp)
          exact ⟨q, q1, q2, by omega⟩
    have l2 : ∀ k i j, j ≤ ma + k → P i j = true → ∃ j', j' ≤ ma ∧ P i j' = true ∧ j' ≤ j := by
      intro k
      induction k with
      | zero => intro i j h hp; exact ⟨j, by omega, hp, Nat.le_refl _⟩
      | succ k ih =>
        intro i j h hp
        by_cases hj : j ≤ ma
        · exact ⟨j, hj, hp, Nat.le_refl _⟩
        · obtain ⟨j', e⟩ : ∃ j', j = j' + 1 := ⟨j - 1, by omega⟩
          subst e
          obtain ⟨q, q1, q2, q3⟩ := ih i j' (by omega) (f2 i j' (by omega) hp)
          exact ⟨q, q1, q2, by omega⟩
    intro i j hp
    obtain ⟨i', a1, a2, a3⟩ := l1 i i j (by omega) hp
    obtain ⟨j', b1, b2, b3⟩ := l2 j i' j (by omega) a2
    exact ⟨i', j', a1, b1, b2, a3, b3⟩
  intro r hr
  cases r with
  | none =>
    intro i j _ _
    cases hp : P i j with
    | false => rfl
    | true =>
      obtain ⟨i', j', a1, a2, a3, _⟩ := low i j hp
      rw [hr i' j' a1 a2] at a3; cases a3
  | some q =>
    obtain ⟨i, j⟩ := q
    obtain ⟨a1, a2, a3, a4⟩ := hr
    refine ⟨by omega, by omega, a3, fun i' j' _ _ h => ?_⟩
    cases hp : P i' j' with
    | false => rfl
    | true =>
      obtain ⟨i2, j2, c1, c2, c3, c4, c5⟩ := low i' j' hp
      rw [a4 i2 j2 c1 c2 (by omega)] at c3; cases c3
theorem exists_first (P : Nat → Nat → Bool) (mb ma : Nat) : ∃ r, IsFirst P mb ma r := by
  have : ∀ n, (∃ i j, i ≤ mb ∧ j ≤ ma ∧ P i j = true ∧ (i + j) * (mb + 1) + i < n) → ∃ r, IsFirst P mb ma r := by
    intro n
    induction n with
    | zero => rintro ⟨_, _, _, _, _, h⟩; omega
    | succ n ih =>
      rintro ⟨i, j, h1, h2, h3, h4⟩
      by_cases h : ∃ i' j', i' ≤ mb ∧ j' ≤ ma ∧ P i' j' = true ∧ (i' + j' < i + j ∨ (i' + j' = i + j ∧ i' < i))
      · obtain ⟨i', j', a1, a2, a3, a4⟩ := h
        refine ih ⟨i', j', a1, a2, a3, ?_⟩
        rcases a4 with a4 | ⟨a4, a5⟩
        · have : (i' + j' + 1) * (mb + 1) ≤ (i + j) * (mb + 1) := Nat.mul_le_mul_right _ (by omega)
          rw [Nat.add_mul] at this
          omega
        · rw [a4]; omega
      · refine ⟨some (i, j), h1, h2, h3, fun i' j' b1 b2 b3 => ?_⟩
        cases hp : P i' j' with
        | false => rfl
        | true => exact absurd ⟨i', j', b1, b2, hp, b3⟩ h
  by_cases h : ∃ i j, i ≤ mb ∧ j ≤ ma ∧ P i j = true
  · obtain ⟨i, j, h1, h2, h3⟩ := h
    exact this _ ⟨i, j, h1, h2, h3, Nat.lt_succ_self _⟩
  · refine ⟨none, fun i j h1 h2 => ?_⟩
    cases hp : P i j with
    | false => rfl
    | true => exact absurd ⟨i, j, h1, h2, hp⟩ h
open Classical in
noncomputable def firstD (P : Nat → Nat → Bool) (mb ma : Nat) : Option (Nat × Nat) := (exists_first P mb ma).choose
theorem firstD_spec (P : Nat → Nat → Bool) (mb ma : Nat) : IsFirst P mb ma (firstD P mb ma) := (exists_first P mb ma).choose_spec
end
end BF

set_option Elab.async false
set_option linter.all false
set_option autoImplicit false
set_option maxRecDepth 10000
namespace BF
open PySem Enc
/-! count_actions -/
def nameA : Act → Str
  | .visit _ => "visit"
  | .back => "back"
  | .forward => "forward"
  | .go _ => "go"
def cntA (l : List Act) (w : Str) : Nat := (l.filter fun a => decide (nameA a = w)).length
def cntF (l : List Act) (w : Str) : Option Nat := if l.length ≤ 1000 then some (cntA l w) else none
def F_count_actions : Fn := fn2 cntF
abbrev N_count_actions : List Str := ["script", "word", "action"]
def c_count_actions : CS :=
  (sRet (eN pLen [(eLc (iTup (eV 0)) (gV 2) (tB (e2 gEq (e2 gIx (eV 2) (eL (.int 0))) (eV 1))) (eV 2) [2])]))
theorem cnt_ok {l : List Act} (w : Str) (M : Mem) (hl : l.length ≤ 1000) : F_count_actions [enc l, .str w] M = some (.int (cntA l w), M) := by
  have := fn2_eq cntF l w M
  unfold cntF at this
  rw [if_pos hl] at this
  exact this
theorem keeps_count_actions : Keeps 3 c_count_actions F_count_actions := by
  refine keeps2p fun l w c M e => ?_
  unfold cntF at e
  split at e
  · rename_i hl
    cases e
    have key := lcL_filter (gd := gdT) (g := gV 2) (t := tB (e2 gEq (e2 gIx (eV 2) (eL (.int 0))) (eV 1))) (e := eV 2) (vs := [2]) (σ := [some (.tup (l.map enc)), some (.str w), none]) (l.map enc) id
      (fun x => match (dec x : Option Act) with | some a => decide (nameA a = w) | none => false) M [] (by simp; omega) (fun _ => rfl) (fun x hx m => by
        obtain ⟨a, _, rfl⟩ := List.mem_map.mp hx
        refine ⟨[some (.tup (l.map enc)), some (.str w), some (enc a)], rfl, ?_, fun _ => rfl⟩
        rw [dec_enc]
        cases a <;> simp [nameA, gIx] <;> exact decide_eq_decide.mpr Iff.rfl)
    refine ⟨_, ?_, List.prefix_append M [.lst ((l.filter fun a => decide (nameA a = w)).map enc)]⟩
    have ef : (((l.map enc).filter (fun x => match (dec x : Option Act) with | some a => decide (nameA a = w) | none => false)).map id : List W) = (l.filter fun a => decide (nameA a = w)).map enc := by
      rw [List.map_id, List.filter_map]
      congr 1
      apply List.filter_congr
      intro a _
      simp [dec_enc]
    rw [ef, List.nil_append] at key
    simp [c_count_actions, enc_list, key, cntA]
  · cases e
end BF

set_option Elab.async false
set_option linter.all false
set_option autoImplicit false
set_option maxRecDepth 10000
namespace BF
open PySem Enc
/-! two loops that look for the first pair -/
theorem rangeW_succ (lo n : Nat) : rangeW (lo : Int) (n + 1) = .int lo :: rangeW ((lo + 1 : Nat) : Int) n := by
  unfold rangeW
  rw [List.range_succ_eq_map, List.map_cons, List.map_map]
  have e : ((fun i : Nat => W.int ((lo : Int) + (i : Nat))) ∘ Nat.succ) = fun i : Nat => W.int (((lo + 1 : Nat) : Int) + (i : Nat)) := by
    funext i
    simp only [Function.comp]
    congr 1
    push_cast
    omega
  rw [e]
  simp
theorem search_ok {body : CS} {g : CG} {M : Mem} (D : Nat → Prop) (V : Nat → W) (Q : Sl → Prop) : ∀ (n lo : Nat) (σ : Sl), Q σ →
    (∀ i σ, lo ≤ i → i < lo + n → Q σ → ∃ σ1, g (.int i) σ = some σ1 ∧ (D i → body σ1 M = some (.rt (V i) M)) ∧ (¬ D i → ∃ σ2, body σ1 M = some (.nx σ2 M) ∧ Q σ2)) →
    ∃ o, forL gdT g body (rangeW (lo : Int) n) σ M = some o ∧
      ((∃ i, lo ≤ i ∧ i < lo + n ∧ D i ∧ (∀ i', lo ≤ i' → i' < i → ¬ D i') ∧ o = .rt (V i) M) ∨ ((∀ i, lo ≤ i → i < lo + n → ¬ D i) ∧ ∃ σ', o = .nx σ' M ∧ Q σ'))
  | 0, lo, σ, h0, _ => ⟨_, by rw [show rangeW (lo : Int) 0 = [] from rfl]; exact forL_nil rfl, .inr ⟨fun i h1 h2 => by omega, _, rfl, h0⟩⟩
  | n + 1, lo, σ, h0, h => by
    obtain ⟨σ1, e1, e2, e3⟩ := h lo σ (Nat.le_refl _) (by omega) h0
    rw [rangeW_succ]
    by_cases hd : D lo
    · exact ⟨_, forL_cons rfl e1 (e2 hd), .inl ⟨lo, Nat.le_refl _, by omega, hd, fun i' h1 h2 => by omega, rfl⟩⟩
    · obtain ⟨σ2, e4, e5⟩ := e3 hd
      obtain ⟨o, o1, o2⟩ := search_ok D V Q n (lo + 1) σ2 e5 fun i σ h1 h2 hq => h i σ (by omega) (by omega) hq
      refine ⟨o, by rw [forL_cons rfl e1 e4]; exact o1, ?_⟩
      rcases o2 with ⟨i, a1, a2, a3, a4, a5⟩ | ⟨a1, a2⟩
      · refine .inl ⟨i, by omega, by omega, a3, fun i' b1 b2 => ?_, a5⟩
        by_cases hi : i' = lo
        · rw [hi]; exact hd
        · exact a4 i' (by omega) b2
      · refine .inr ⟨fun i b1 b2 => ?_, a2⟩
        by_cases hi : i = lo
        · rw [hi]; exact hd
        · exact a1 i (by omega) (by omega)
/-- both loops -/
theorem search2_ok {ob ib : CS} {og ig : CG} {M : Mem} (P : Nat → Nat → Bool) (mb ma : Nat) (Qo : Sl → Prop) (Qi : Nat → Sl → Prop) (σ : Sl) (h0 : Qo σ)
    (ho : ∀ t σ, t < mb + ma + 1 → Qo σ → ∃ σ1, og (.int t) σ = some σ1 ∧ Qi t σ1 ∧ ob σ1 M = forL gdT ig ib (rangeW ((t - ma : Nat) : Int) (min t mb + 1 - (t - ma))) σ1 M)
    (hq : ∀ t σ, Qi t σ → Qo σ)
    (hi : ∀ t i σ, t < mb + ma + 1 → t - ma ≤ i → i ≤ mb → i ≤ t → Qi t σ → ∃ σ1, ig (.int i) σ = some σ1 ∧ (P i (t - i) = true → ib σ1 M = some (.rt (.tup [.int i, .int ((t - i : Nat) : Int)]) M)) ∧ (P i (t - i) = false → ∃ σ2, ib σ1 M = some (.nx σ2 M) ∧ Qi t σ2)) :
    ∃ o r, forL gdT og ob (rangeW 0 (mb + ma + 1)) σ M = some o ∧ IsFirst P mb ma r ∧ ((∃ i j, r = some (i, j) ∧ o = .rt (.tup [.int i, .int j]) M) ∨ (r = none ∧ ∃ σ', o = .nx σ' M)) := by
  classical
  let row : Nat → Nat → Prop := fun t i => t - ma ≤ i ∧ i < t - ma + (min t mb + 1 - (t - ma)) ∧ P i (t - i) = true ∧ ∀ i', t - ma ≤ i' → i' < i → ¬ (P i' (t - i') = true)
  obtain ⟨o, o1, o2⟩ := search_ok (body := ob) (g := og) (M := M) (fun t => ∃ i, row t i) (fun t => if h : ∃ i, row t i then .tup [.int (h.choose : Nat), .int ((t - h.choose : Nat) : Int)] else .non) Qo (mb + ma + 1) 0 σ h0 (by
    intro t σ _ ht hqo
    obtain ⟨σ1, e1, e2, e3⟩ := ho t σ (by omega) hqo
    obtain ⟨oi, i1, i2⟩ := search_ok (body := ib) (g := ig) (M := M) (fun i => P i (t - i) = true) (fun i => .tup [.int i, .int ((t - i : Nat) : Int)]) (Qi t) (min t mb + 1 - (t - ma)) (t - ma) σ1 e2 (by
      intro i σ a1 a2 hqi
      obtain ⟨σ2, b1, b2, b3⟩ := hi t i σ (by omega) a1 (by omega) (by omega) hqi
      exact ⟨σ2, b1, b2, fun hn => b3 (by simpa using hn)⟩)
    refine ⟨σ1, e1, fun hd => ?_, fun hn => ?_⟩
    · rcases i2 with ⟨i, a1, a2, a3, a4, a5⟩ | ⟨a1, _⟩
      · rw [dif_pos hd, e3, i1, a5]
        obtain ⟨c1, c2, c3, c4⟩ := hd.choose_spec
        have : hd.choose = i := by
          rcases Nat.lt_trichotomy hd.choose i with z | z | z
          · exact absurd c3 (a4 _ c1 z)
          · exact z
          · exact absurd a3 (c4 _ a1 z)
        rw [this]
      · obtain ⟨i, c1, c2, c3, c4⟩ := hd
        exact absurd c3 (a1 i c1 c2)
    · rcases i2 with ⟨i, a1, a2, a3, a4, a5⟩ | ⟨a1, σ', a2, a3⟩
      · exact absurd ⟨i, a1, a2, a3, a4⟩ hn
      · exact ⟨σ', by rw [e3, i1, a2], hq t σ' a3⟩)
  -- a pair in the box stands in its row
  have inrow : ∀ i j, i ≤ mb → j ≤ ma → P i j = true → ∃ k, row (i + j) k ∧ k ≤ i := by
    intro i j h1 h2 hp
    have : ∀ n k, k ≤ n → (i + j) - ma ≤ k → k ≤ i → P k (i + j - k) = true → ∃ k', row (i + j) k' ∧ k' ≤ i := by
      intro n
      induction n with
      | zero => intro k a b c d; exact ⟨k, ⟨b, by omega, d, fun i' _ _ => by omega⟩, c⟩
      | succ n ih =>
        intro k a b c d
        by_cases h : ∃ k', (i + j) - ma ≤ k' ∧ k' < k ∧ P k' (i + j - k') = true
        · obtain ⟨k', e1, e2, e3⟩ := h
          exact ih k' (by omega) e1 (by omega) e3
        · exact ⟨k, ⟨b, by omega, d, fun i' q1 q2 q3 => h ⟨i', q1, q2, q3⟩⟩, c⟩
    exact this i i (Nat.le_refl _) (by omega) (Nat.le_refl _) (by rw [show i + j - i = j by omega]; exact hp)
  rcases o2 with ⟨t, a1, a2, a3, a4, a5⟩ | ⟨a1, σ', a2, _⟩
  · rw [dif_pos a3] at a5
    obtain ⟨c1, c2, c3, c4⟩ := a3.choose_spec
    generalize a3.choose = i at *
    refine ⟨o, some (i, t - i), o1, ⟨by omega, by omega, c3, fun i' j' b1 b2 b3 => ?_⟩, .inl ⟨i, t - i, rfl, a5⟩⟩
    cases hp : P i' j' with
    | false => rfl
    | true =>
      exfalso
      obtain ⟨k, d1, d2⟩ := inrow i' j' b1 b2 hp
      rcases b3 with b3 | ⟨b3, b4⟩
      · exact a4 (i' + j') (Nat.zero_le _) (by omega) ⟨k, d1⟩
      · have e : i' + j' = t := by omega
        rw [e] at d1
        exact c4 k d1.1 (by omega) d1.2.2.1
  · refine ⟨o, none, o1, fun i j h1 h2 => ?_, .inr ⟨rfl, σ', a2⟩⟩
    cases hp : P i j with
    | false => rfl
    | true =>
      obtain ⟨k, d1, _⟩ := inrow i j h1 h2 hp
      exact absurd ⟨k, d1⟩ (a1 (i + j) (Nat.zero_le _) (by omega))
end BF

set_option Elab.async false
set_option linter.all false
set_option autoImplicit false
set_option maxRecDepth 10000
namespace BF
open PySem Enc
noncomputable section
/-! difference -/
def mbA (a b : List Act) : Nat := max (cntA a "back") (cntA b "back")
def maA (a b : List Act) : Nat := max (cntA a "forward") (cntA b "forward")
noncomputable def diffR (a b : List Act) : Option (Nat × Nat) := firstD (dif a b) (mbA a b) (maA a b)
theorem cntA_le (l : List Act) (w : Str) : cntA l w ≤ l.length := List.length_filter_le _ _
open Classical in
noncomputable def diffF (a b : List Act) : Option (Option (Nat × Nat)) := if okS a ∧ okS b then some (diffR a b) else none
noncomputable def F_difference : Fn := fn2 diffF
abbrev b1_difference : CS :=
  (sFor (iRange2 (eN pMax [(eL (.int 0)), (e2 gSub (eV 4) (eV 3))]) (e2 gAdd (eN pMin [(eV 4), (eV 2)]) (eL (.int 1)))) (gV 5) (sIf (tB (eN F_differs [(eV 0), (eV 1), (eV 5), (e2 gSub (eV 4) (eV 5))])) (sRet (eTup [(eV 5), (e2 gSub (eV 4) (eV 5))])) sNil))
abbrev b2_difference : CS :=
  (sIf (tB (eN F_differs [(eV 0), (eV 1), (eV 5), (e2 gSub (eV 4) (eV 5))])) (sRet (eTup [(eV 5), (e2 gSub (eV 4) (eV 5))])) sNil)
abbrev N_difference : List Str := ["first", "second", "most_behind", "most_ahead", "total", "behind"]
def c_difference : CS :=
  (sSeq (sSet (gV 2) (eN pMax [(eN F_count_actions [(eV 0), (eL (.str "back"))]), (eN F_count_actions [(eV 1), (eL (.str "back"))])]))
  (sSeq (sSet (gV 3) (eN pMax [(eN F_count_actions [(eV 0), (eL (.str "forward"))]), (eN F_count_actions [(eV 1), (eL (.str "forward"))])]))
  (sSeq (sFor (iRange1 (e2 gAdd (e2 gAdd (eV 2) (eV 3)) (eL (.int 1)))) (gV 4) (sFor (iRange2 (eN pMax [(eL (.int 0)), (e2 gSub (eV 4) (eV 3))]) (e2 gAdd (eN pMin [(eV 4), (eV 2)]) (eL (.int 1)))) (gV 5) (sIf (tB (eN F_differs [(eV 0), (eV 1), (eV 5), (e2 gSub (eV 4) (eV 5))])) (sRet (eTup [(eV 5), (e2 gSub (eV 4) (eV 5))])) sNil)))
  (sRet (eL .non)))))
theorem difference_ok {a b : List Act} (M : Mem) (h1 : okS a) (h2 : okS b) : F_difference [enc a, enc b] M = some (enc (diffR a b), M) := by
  have := fn2_eq diffF a b M
  unfold diffF at this
  rw [if_pos ⟨h1, h2⟩] at this
  exact this
theorem keeps_difference : Keeps 6 c_difference F_difference := by
  refine keeps2p fun a b c M e => ?_
  unfold diffF at e
  split at e
  · rename_i hv
    cases e
    obtain ⟨h1, h2⟩ := hv
    have l1 := h1.1
    have l2 := h2.1
    have c1 := fun w M => cnt_ok (l := a) w M (by omega)
    have c2 := fun w M => cnt_ok (l := b) w M (by omega)
    have m1 : mbA a b ≤ 100 := by have := cntA_le a "back"; have := cntA_le b "back"; unfold mbA; omega
    have m2 : maA a b ≤ 100 := by have := cntA_le a "forward"; have := cntA_le b "forward"; unfold maA; omega
    have eb : max (cntA a "back") (cntA b "back") = mbA a b := rfl
    have ef : max (cntA a "forward") (cntA b "forward") = maA a b := rfl
    have us := firstD_spec (dif a b) (mbA a b) (maA a b)
    unfold diffR
    generalize firstD (dif a b) (mbA a b) (maA a b) = R at *
    obtain ⟨o, r, o1, o2, o3⟩ := search2_ok (ob := b1_difference) (ib := b2_difference) (og := gV 4) (ig := gV 5) (M := M) (dif a b) (mbA a b) (maA a b) (fun σ => ∃ s4 s5, σ = [some (enc a), some (enc b), some (.int (mbA a b : Nat)), some (.int (maA a b : Nat)), s4, s5]) (fun t σ => ∃ s5, σ = [some (enc a), some (enc b), some (.int (mbA a b : Nat)), some (.int (maA a b : Nat)), some (.int t), s5])
      [some (enc a), some (enc b), some (.int (mbA a b : Nat)), some (.int (maA a b : Nat)), none, none] ⟨_, _, rfl⟩ (by
        intro t σ ht ⟨s4, s5, hσ⟩
        subst hσ
        refine ⟨_, rfl, ⟨s5, rfl⟩, ?_⟩
        have k1 : small62 ((t - maA a b : Nat) : Int) = true := small62_of (by omega)
        have k2 : small62 (((min t (mbA a b) : Nat) : Int) + 1) = true := small62_of (by omega)
        have k3 : (((min t (mbA a b) : Nat) : Int) + 1 - ((t - maA a b : Nat) : Int)).toNat = min t (mbA a b) + 1 - (t - maA a b) := by omega
        generalize mbA a b = mb at *
        generalize maA a b = ma at *
        have eI : iRange2 (eN pMax [(eL (.int 0)), (e2 gSub (eV 4) (eV 3))]) (e2 gAdd (eN pMin [(eV 4), (eV 2)]) (eL (.int 1))) [some (enc a), some (enc b), some (.int (mb : Nat)), some (.int (ma : Nat)), some (.int t), s5] M = some (rangeW ((t - ma : Nat) : Int) (min t mb + 1 - (t - ma)), gdT, M) := by
          simp [k1, k2, k3]
        show (sFor _ _ _) _ _ = _
        rw [sFor_eq]
        show (iRange2 (eN pMax [(eL (.int 0)), (e2 gSub (eV 4) (eV 3))]) (e2 gAdd (eN pMin [(eV 4), (eV 2)]) (eL (.int 1))) [some (enc a), some (enc b), some (.int (mb : Nat)), some (.int (ma : Nat)), some (.int t), s5] M).bind _ = _
        rw [eI]
        rfl) (fun t σ ⟨s5, h⟩ => ⟨_, s5, h⟩) (by
        intro t i σ ht hi1 hi2 hi3 ⟨s5, hσ⟩
        subst hσ
        have k1 : (t : Int) - i = ((t - i : Nat) : Int) := by omega
        have f1 := differs_ok (i := i) (j := t - i) M h1 h2 (by omega) (by omega)
        refine ⟨_, rfl, fun hp => ?_, fun hp => ⟨[some (enc a), some (enc b), some (.int (mbA a b : Nat)), some (.int (maA a b : Nat)), some (.int t), some (.int i)], ?_, ⟨_, rfl⟩⟩⟩
        · rw [hp] at f1
          simp [k1, f1]
        · rw [hp] at f1
          simp [k1, f1])
    have hr : r = R := IsFirst.unique o2 us
    subst hr
    have k4 : small62 (((mbA a b : Nat) : Int) + ((maA a b : Nat) : Int) + 1) = true := small62_of (by omega)
    have k5 : (((mbA a b : Nat) : Int) + ((maA a b : Nat) : Int) + 1).toNat = mbA a b + maA a b + 1 := by omega
    refine ⟨M, ?_, List.prefix_refl _⟩
    simp only [enc_list] at c1 c2 o1
    rcases o3 with ⟨i, j, q1, q2⟩ | ⟨q1, σ', q2⟩
    · subst q1 q2
      simp [c_difference, enc_list, c1, c2, eb, ef, k4, k5, o1, enc_opns]
    · subst q1 q2
      simp [c_difference, enc_list, c1, c2, eb, ef, k4, k5, o1, enc_opnn]
  · cases e
end
end BF

set_option Elab.async false
set_option linter.all false
set_option autoImplicit false
set_option maxRecDepth 10000
namespace BF
open PySem Enc
noncomputable section
/-! longer histories show nothing new -/
theorem cntA_cons (x : Act) (l : List Act) (w : Str) : cntA (x :: l) w = (if nameA x = w then 1 else 0) + cntA l w := by
  unfold cntA
  rw [List.filter_cons]
  by_cases h : nameA x = w
  · simp [h]; omega
  · simp [h]
def mapPg (f : Nat → Nat) : Pg → Pg
  | .s x => .s x
  | .i n => .i (f n)
def mapH (f : Nat → Nat) (h : HistP) : HistP := ⟨h.ps.map (mapPg f), h.at_⟩
theorem stepP_map (f : Nat → Nat) (h : HistP) (a : Act) (ha : plain a = true) : stepP (mapH f h) a = mapH f (stepP h a) := by
  cases a with
  | visit p => simp [stepP, mapH, List.map_take, mapPg]
  | back => simp [stepP, mapH]
  | forward => simp [stepP, mapH]
  | go i => cases ha
theorem runP_map (f : Nat → Nat) : ∀ (l : List Act) (h : HistP), l.all plain = true → runP (mapH f h) l = mapH f (runP h l)
  | [], h, _ => rfl
  | a :: l, h, hl => by
    rw [List.all_cons, Bool.and_eq_true] at hl
    show runP (stepP (mapH f h) a) l = mapH f (runP (stepP h a) l)
    rw [stepP_map f h a hl.1, runP_map f l _ hl.2]
theorem mapPg_inj {f : Nat → Nat} (hf : ∀ a b, f a = f b → a = b) {x y : Pg} (h : mapPg f x = mapPg f y) : x = y := by
  cases x <;> cases y <;> simp [mapPg] at h ⊢
  · exact h
  · exact hf _ _ h
theorem mapH_inj {f : Nat → Nat} (hf : ∀ a b, f a = f b → a = b) {g h : HistP} (e : mapH f g = mapH f h) : g = h := by
  obtain ⟨p, i⟩ := g
  obtain ⟨q, j⟩ := h
  simp only [mapH, HistP.mk.injEq] at e
  obtain ⟨e1, e2⟩ := e
  have : p = q := by
    have inj : Function.Injective (mapPg f) := fun _ _ h => mapPg_inj hf h
    exact (List.map_inj_right (fun _ _ h => inj h)).mp e1
  rw [this, e2]
def hb (y : Pg) (h : HistP) : HistP := ⟨y :: h.ps, h.at_ + 1⟩
def ha (y : Pg) (h : HistP) : HistP := ⟨h.ps ++ [y], h.at_⟩
theorem stepP_valid {h : HistP} {a : Act} (hv : h.at_ < h.ps.length) (pa : plain a = true) : (stepP h a).at_ < (stepP h a).ps.length := by
  cases a with
  | visit p => simp [stepP]; omega
  | back => simp [stepP]; omega
  | forward => simp [stepP]; omega
  | go i => cases pa
theorem runP_hb (y : Pg) : ∀ (l : List Act) (h : HistP), l.all plain = true → h.at_ < h.ps.length → cntA l "back" ≤ h.at_ → runP (hb y h) l = hb y (runP h l)
  | [], h, _, _, _ => rfl
  | a :: l, h, hl, hv, hc => by
    rw [List.all_cons, Bool.and_eq_true] at hl
    rw [cntA_cons] at hc
    have st : stepP (hb y h) a = hb y (stepP h a) ∧ cntA l "back" ≤ (stepP h a).at_ := by
      cases a with
      | visit p =>
        refine ⟨by simp [stepP, hb], ?_⟩
        simp only [stepP]
        have : cntA l "back" ≤ h.at_ := by omega
        omega
      | back =>
        rw [if_pos (show nameA Act.back = "back" from rfl)] at hc
        refine ⟨?_, ?_⟩
        · simp [stepP, hb]; omega
        · simp only [stepP]; omega
      | forward =>
        refine ⟨?_, ?_⟩
        · simp [stepP, hb]; omega
        · simp only [stepP]; omega
      | go i => cases hl.1
    show runP (stepP (hb y h) a) l = hb y (runP (stepP h a) l)
    rw [st.1, runP_hb y l _ hl.2 (stepP_valid hv hl.1) st.2]
def isV : Act → Bool
  | .visit _ => true
  | _ => false
theorem runP_ha (y : Pg) : ∀ (l : List Act) (h : HistP), l.all plain = true → h.at_ < h.ps.length → cntA l "forward" ≤ h.ps.length - 1 - h.at_ → runP (ha y h) l = if l.any isV = true then runP h l else ha y (runP h l)
  | [], h, _, _, _ => rfl
  | a :: l, h, hl, hv, hc => by
    rw [List.all_cons, Bool.and_eq_true] at hl
    rw [cntA_cons] at hc
    show runP (stepP (ha y h) a) l = if (isV a || l.any isV) = true then runP (stepP h a) l else ha y (runP (stepP h a) l)
    cases a with
    | visit p =>
      have : stepP (ha y h) (.visit p) = stepP h (.visit p) := by
        simp only [stepP, ha]
        rw [List.take_append_of_le_length (by omega)]
      rw [this]; rfl
    | back =>
      have e : stepP (ha y h) .back = ha y (stepP h .back) := rfl
      rw [e, runP_ha y l _ hl.2 (stepP_valid hv rfl) (by simp only [stepP]; omega)]
      rfl
    | forward =>
      rw [if_pos (show nameA Act.forward = "forward" from rfl)] at hc
      have e : stepP (ha y h) .forward = ha y (stepP h .forward) := by
        simp [stepP, ha]; omega
      rw [e, runP_ha y l _ hl.2 (stepP_valid hv rfl) (by simp only [stepP]; omega)]
      rfl
    | go i => cases hl.1
theorem runP_nov : ∀ (l : List Act) (h : HistP), l.all plain = true → l.any isV = false → (runP h l).ps = h.ps
  | [], h, _, _ => rfl
  | a :: l, h, hl, hn => by
    rw [List.all_cons, Bool.and_eq_true] at hl
    rw [List.any_cons, Bool.or_eq_false_iff] at hn
    show (runP (stepP h a) l).ps = _
    rw [runP_nov l _ hl.2 hn.2]
    cases a with
    | visit p => cases hn.1
    | back => rfl
    | forward => rfl
    | go i => cases hl.1
theorem runP_keep : ∀ (l : List Act) (h : HistP), l.all plain = true → (∃ x, Pg.s x ∈ h.ps) ∨ l.any isV = true → ∃ x, Pg.s x ∈ (runP h l).ps
  | [], h, _, hx => by
    rcases hx with hx | hx
    · exact hx
    · cases hx
  | a :: l, h, hl, hx => by
    rw [List.all_cons, Bool.and_eq_true] at hl
    show ∃ x, Pg.s x ∈ (runP (stepP h a) l).ps
    refine runP_keep l _ hl.2 ?_
    cases a with
    | visit p => exact .inl ⟨p, by simp [stepP]⟩
    | back => exact hx.imp id (fun z => z)
    | forward => exact hx.imp id (fun z => z)
    | go i => cases hl.1
theorem rangeH_low (n i : Nat) : rangeH (n + 1) (i + 1) = hb (.i 0) (mapH (· + 1) (rangeH n i)) := by
  unfold rangeH hb mapH
  rw [List.range_succ_eq_map]
  simp [mapPg, Function.comp]
theorem rangeH_top (n i : Nat) : rangeH (n + 1) i = ha (.i n) (rangeH n i) := by
  unfold rangeH ha
  rw [List.range_succ]
  simp
theorem hb_inj {y : Pg} {g h : HistP} (e : hb y g = hb y h) : g = h := by
  obtain ⟨p, i⟩ := g
  obtain ⟨q, j⟩ := h
  simp only [hb, HistP.mk.injEq, List.cons.injEq, true_and, Nat.add_right_cancel_iff] at e
  rw [e.1, e.2]
theorem ha_inj {y : Pg} {g h : HistP} (e : ha y g = ha y h) : g = h := by
  obtain ⟨p, i⟩ := g
  obtain ⟨q, j⟩ := h
  simp only [ha, HistP.mk.injEq, List.append_cancel_right_eq] at e
  rw [e.1, e.2]
theorem dif_low {a b : List Act} (pa : a.all plain = true) (pb : b.all plain = true) {i j : Nat} (ca : cntA a "back" ≤ i) (cb : cntA b "back" ≤ i) (h : dif a b (i + 1) j = true) : dif a b i j = true := by
  unfold dif at h ⊢
  have h2 := of_decide_eq_true h
  refine decide_eq_true fun e => h2 ?_
  rw [show i + 1 + 1 + j = (i + 1 + j) + 1 by omega, rangeH_low]
  have v : (mapH (· + 1) (rangeH (i + 1 + j) i)).at_ < (mapH (· + 1) (rangeH (i + 1 + j) i)).ps.length := by simp only [mapH, rangeH, List.length_map, List.length_range]; omega
  rw [runP_hb _ a _ pa v ca, runP_hb _ b _ pb v cb, runP_map _ a _ pa, runP_map _ b _ pb, e]
theorem dif_top {a b : List Act} (pa : a.all plain = true) (pb : b.all plain = true) {i j : Nat} (ca : cntA a "forward" ≤ j) (cb : cntA b "forward" ≤ j) (h : dif a b i (j + 1) = true) : dif a b i j = true := by
  unfold dif at h ⊢
  have h2 := of_decide_eq_true h
  refine decide_eq_true fun e => h2 ?_
  rw [show i + 1 + (j + 1) = (i + 1 + j) + 1 by omega, rangeH_top]
  have v : (rangeH (i + 1 + j) i).at_ < (rangeH (i + 1 + j) i).ps.length := by simp only [rangeH, List.length_map, List.length_range]; omega
  have vl : (rangeH (i + 1 + j) i).ps.length - 1 - (rangeH (i + 1 + j) i).at_ = j := by simp only [rangeH, List.length_map, List.length_range]; omega
  rw [runP_ha _ a _ pa v (by rw [vl]; exact ca), runP_ha _ b _ pb v (by rw [vl]; exact cb)]
  have noS : ¬ ∃ x, Pg.s x ∈ (rangeH (i + 1 + j) i).ps := by
    rintro ⟨x, hx⟩
    simp [rangeH] at hx
  cases va : a.any isV with
  | true => cases vb : b.any isV with
    | true => simp [e]
    | false =>
      exfalso
      have k1 := runP_keep a (rangeH (i + 1 + j) i) pa (.inr va)
      rw [e, runP_nov b _ pb vb] at k1
      exact noS k1
  | false => cases vb : b.any isV with
    | true =>
      exfalso
      have k1 := runP_keep b (rangeH (i + 1 + j) i) pb (.inr vb)
      rw [← e, runP_nov a _ pa va] at k1
      exact noS k1
    | false => simp [e]
/-- the search within the bounds finds what any wider one finds -/
theorem diffR_wide {a b : List Act} (pa : a.all plain = true) (pb : b.all plain = true) (m : Nat) (h1 : mbA a b ≤ m) (h2 : maA a b ≤ m) : firstD (dif a b) m m = diffR a b := by
  refine IsFirst.unique (firstD_spec _ _ _) (IsFirst.wider h1 h2 (fun i j hi h => ?_) (fun i j hj h => ?_) (firstD_spec _ _ _))
  · exact dif_low pa pb (by unfold mbA at hi; omega) (by unfold mbA at hi; omega) h
  · exact dif_top pa pb (by unfold maA at hj; omega) (by unfold maA at hj; omega) h
theorem dif_comm (a b : List Act) : dif a b = dif b a := by
  funext i j
  unfold dif
  exact decide_eq_decide.mpr ⟨fun h => h.symm, fun h => h.symm⟩
theorem diffR_comm (a b : List Act) : diffR a b = diffR b a := by
  unfold diffR mbA maA
  rw [dif_comm, Nat.max_comm, Nat.max_comm (cntA a "forward")]
theorem diffR_self (a : List Act) : diffR a a = none := by
  refine IsFirst.unique (firstD_spec _ _ _) (show IsFirst (dif a a) _ _ none from fun i j _ _ => ?_)
  unfold dif
  simp
end
end BF

set_option Elab.async false
set_option linter.all false
set_option autoImplicit false
set_option maxRecDepth 10000
namespace BF
open PySem Enc
noncomputable section
/-! equal -/
open Classical in
noncomputable def equalF (a b : List Act) : Option Bool := if okS a ∧ okS b then some (diffR a b).isNone else none
noncomputable def F_equal : Fn := fn2 equalF
abbrev N_equal : List Str := ["first", "second"]
def c_equal : CS :=
  (sRet (e1 gIsN (eN F_difference [(eV 0), (eV 1)])))
theorem equal_ok {a b : List Act} (M : Mem) (h1 : okS a) (h2 : okS b) : F_equal [enc a, enc b] M = some (.bl (diffR a b).isNone, M) := by
  have := fn2_eq equalF a b M
  unfold equalF at this
  rw [if_pos ⟨h1, h2⟩] at this
  exact this
theorem keeps_equal : Keeps 2 c_equal F_equal := by
  refine keeps2p fun a b c M e => ?_
  unfold equalF at e
  split at e
  · rename_i hv
    cases e
    have f1 := difference_ok M hv.1 hv.2
    refine ⟨M, ?_, List.prefix_refl _⟩
    cases hd : diffR a b with
    | none =>
      rw [hd, enc_opnn] at f1
      simp [c_equal, f1, isN]
    | some q =>
      obtain ⟨i, j⟩ := q
      rw [hd, enc_opns] at f1
      simp [c_equal, f1, isN]
  · cases e
end
end BF

set_option Elab.async false
set_option linter.all false
set_option autoImplicit false
set_option maxRecDepth 10000
namespace BF
open PySem Enc
/-! numbers that pass a test -/
theorem lcL_rangeF {gd : Mem → Bool} {g : CG} {t : CT} {e : CE} {vs : List Nat} {σ : Sl} (n : Nat) (p : Nat → Bool) (M : Mem) (hl : n ≤ 16777216) (hg : ∀ l, gd (M ++ [.lst l]) = true)
    (h : ∀ i, i < n → ∀ l, ∃ σ1, g (.int (i : Nat)) (wipe σ vs) = some σ1 ∧ t σ1 (M ++ [.lst l]) = some (p i, M ++ [.lst l]) ∧ e σ1 (M ++ [.lst l]) = some (.int (i : Nat), M ++ [.lst l])) :
    lcL gd g t e vs σ M.length (rangeW 0 n) (M ++ [.lst []]) = some (M ++ [.lst (((List.range n).filter p).map enc)]) := by
  have key := lcL_filter (gd := gd) (g := g) (t := t) (e := e) (vs := vs) (σ := σ) (rangeW 0 n) id (fun w => match w with | .int z => p z.toNat | _ => false) M [] (by rw [rangeW_length]; simpa using hl) hg (by
    intro w hw l
    obtain ⟨i, hi, rfl⟩ := rangeW_mem hw
    have e0 : ((0 : Int) + (i : Nat)) = (i : Nat) := by omega
    rw [e0]
    obtain ⟨σ1, h1, h2, h3⟩ := h i hi l
    refine ⟨σ1, h1, ?_, fun _ => h3⟩
    simp only [Int.toNat_natCast]
    exact h2)
  have rw1 : rangeW 0 n = (List.range n).map (fun i : Nat => W.int (i : Nat)) := by
    unfold rangeW
    refine List.map_congr_left fun i _ => ?_
    congr 1; omega
  have e1 : ((rangeW 0 n).filter (fun w => match w with | .int z => p z.toNat | _ => false)).map id = ((List.range n).filter p).map enc := by
    rw [rw1, List.map_id, List.filter_map]
    rfl
  rw [e1, List.nil_append] at key
  exact key
end BF

set_option Elab.async false
set_option linter.all false
set_option autoImplicit false
set_option maxRecDepth 10000
namespace BF
open PySem Enc
noncomputable section
/-! redundant_steps -/
def delA (l : List Act) (i : Nat) : List Act := l.take i ++ l.drop (i + 1)
theorem del_okS {l : List Act} (i : Nat) (h : okS l) : okS (delA l i) := by
  obtain ⟨h1, h2⟩ := h
  rw [List.all_eq_true] at h2
  refine ⟨by unfold delA; rw [List.length_append, List.length_take, List.length_drop]; omega, List.all_eq_true.mpr fun a ha => ?_⟩
  unfold delA at ha
  rcases List.mem_append.mp ha with ha | ha
  · exact h2 a (List.mem_of_mem_take ha)
  · exact h2 a (List.mem_of_mem_drop ha)
theorem del_eval {σ : Sl} {M : Mem} {l : List Act} {k i j : Nat} (hl : l.length ≤ 1000) (h1 : (eV i) σ M = some (enc l, M)) (h2 : (eV j) σ M = some (.int (k : Nat), M)) :
    (e2 gAdd (eSl (eV i) none (some (eV j))) (eSl (eV i) (some (e2 gAdd (eV j) (eL (.int 1)))) none)) σ M = some (enc (delA l k), M) := by
  have c1 : gSl M (enc l) none (some ((k : Nat) : Int)) = some (.tup ((l.take k).map enc), M) := by rw [enc_list, gSl_tup, cutW_hi0, ← List.map_take]
  have c2 : gSl M (enc l) (some (((k : Nat) : Int) + 1)) none = some (.tup ((l.drop (k + 1)).map enc), M) := by rw [enc_list, gSl_tup, cutW_lo1, ← List.map_drop]
  have l1 : (l.take k).length ≤ 1000 := by rw [List.length_take]; omega
  have l2 : (l.drop (k + 1)).length ≤ 1000 := by rw [List.length_drop]; omega
  have e : (enc (delA l k) : W) = .tup ((l.take k).map enc ++ (l.drop (k + 1)).map enc) := by
    rw [enc_list]; unfold delA; simp
  have f1 : (eSl (eV i) none (some (eV j))) σ M = some (.tup ((l.take k).map enc), M) := by
    simp only [eSl_eq, h1, h2, ePart_some, ePart_none, Option.bind_some, c1]
  have f2 : (eSl (eV i) (some (e2 gAdd (eV j) (eL (.int 1)))) none) σ M = some (.tup ((l.drop (k + 1)).map enc), M) := by
    simp only [eSl_eq, h1, e2_eq, h2, eL_eq, gAdd_int, ePart_some, ePart_none, Option.bind_some, c2]
  rw [e, e2_eq, f1, Option.bind_some, f2, Option.bind_some, gAdd_tup, if_pos (by rw [List.length_map, List.length_map]; omega)]
noncomputable def redL (l : List Act) : List Nat := (List.range l.length).filter fun i => (diffR (delA l i) l).isNone
noncomputable def redF (l : List Act) : Option (List Nat) := if okS l then some (redL l) else none
noncomputable def F_redundant_steps : Fn := fnL1 redF
abbrev N_redundant_steps : List Str := ["script", "index"]
def c_redundant_steps : CS :=
  (sRet (eLc (iRange1 (eN pLen [(eV 0)])) (gV 1) (tB (eN F_equal [(e2 gAdd (eSl (eV 0) none (some (eV 1))) (eSl (eV 0) (some (e2 gAdd (eV 1) (eL (.int 1)))) none)), (eV 0)])) (eV 1) [1]))
theorem red_ok {l : List Act} (M : Mem) (h : okS l) : F_redundant_steps [enc l] M = some (.ref M.length, M ++ [.lst ((redL l).map enc)]) := by
  have := fnL1_eq redF l M
  unfold redF at this
  rw [if_pos h] at this
  exact this
theorem keeps_redundant_steps : Keeps 2 c_redundant_steps F_redundant_steps := by
  refine keepsL1 fun l cs M e => ?_
  unfold redF at e
  split at e
  · rename_i hv
    cases e
    have hl := hv.1
    have key := lcL_rangeF (gd := gdT) (g := gV 1) (t := tB (eN F_equal [(e2 gAdd (eSl (eV 0) none (some (eV 1))) (eSl (eV 0) (some (e2 gAdd (eV 1) (eL (.int 1)))) none)), (eV 0)])) (e := eV 1) (vs := [1]) (σ := [some (enc l), none]) l.length (fun i => (diffR (delA l i) l).isNone) M (by omega) (fun _ => rfl) (fun i hi m => by
      have fe := equal_ok (M ++ [.lst m]) (del_okS i hv) hv
      have de := del_eval (σ := [some (enc l), some (.int (i : Nat))]) (M := M ++ [.lst m]) (l := l) (k := i) (i := 0) (j := 1) (by omega) rfl rfl
      refine ⟨[some (enc l), some (.int (i : Nat))], rfl, ?_, rfl⟩
      simp only [tB_eq, eN_eq, eArgs_cons, eArgs_nil, de, eV_eq, List.getD_cons_zero, List.getD_cons_succ, Option.map_some, Option.bind_some, fe])
    have sl : small62 ((l.length : Nat) : Int) = true := small62_of (by omega)
    have pl : pLen [enc l] M = some (.int (l.length : Nat), M) := by rw [enc_list, pLen_tup, List.length_map]
    refine ⟨M.length, [.lst ((redL l).map enc)], ?_, Nat.le_refl _, by simp⟩
    show c_redundant_steps [some (enc l), none] M = _
    unfold c_redundant_steps
    simp only [sRet_eq, eLc_eq, iRange1_eq, eN_eq, eArgs_cons, eArgs_nil, eV_eq, List.getD_cons_zero, List.getD_cons_succ, Option.map_some, Option.bind_some, pl, sl, if_true, Int.toNat_natCast, key]
    rfl
  · cases e
end
end BF

set_option Elab.async false
set_option linter.all false
set_option autoImplicit false
set_option maxRecDepth 10000
namespace BF
open PySem Enc
/-! _law_step -/
def lstepF (h : HistP) (a : Act) : Option HistP := if validP h ∧ plain a = true then some (stepP h a) else none
def F__law_step : Fn := fn2 lstepF
abbrev N__law_step : List Str := ["history", "action", "pages", "place", "behind", "ahead", "page"]
def c__law_step : CS :=
  (sSeq (sSet (gT [(gV 2), (gV 3)]) (eV 0))
  (sSeq (sPar [4, 5] [(eN pList [(eSl (eV 2) none (some (eV 3)))]), (eN pList [(eSl (eV 2) (some (e2 gAdd (eV 3) (eL (.int 1)))) none)])])
  (sSeq (sSet (gV 6) (e2 gIx (eV 2) (eV 3)))
  (sSeq (sIf (tB (e2 gEq (e2 gIx (eV 1) (eL (.int 0))) (eL (.str "visit")))) (sPar [4, 6, 5] [(e2 gAdd (eV 4) (eLst [(eV 6)])), (e2 gIx (eV 1) (eL (.int 1))), (eLst [])]) (sIf (tAnd (tB (e2 gEq (e2 gIx (eV 1) (eL (.int 0))) (eL (.str "back")))) (tB (e2 gNe (eV 4) (eLst [])))) (sSeq (sSet (gV 5) (e2 gAdd (eLst [(eV 6)]) (eV 5)))
  (sSet (gV 6) (eML mPop (eV 4) []))) (sIf (tAnd (tB (e2 gEq (e2 gIx (eV 1) (eL (.int 0))) (eL (.str "forward")))) (tB (e2 gNe (eV 5) (eLst [])))) (sSeq (sSet (gV 4) (e2 gAdd (eV 4) (eLst [(eV 6)])))
  (sSet (gV 6) (eML mPopAt (eV 5) [(eL (.int 0))]))) sNil)))
  (sRet (eTup [(eN pTuple [(e2 gAdd (e2 gAdd (eV 4) (eLst [(eV 6)])) (eV 5))]), (eN pLen [(eV 4)])]))))))
theorem lstep_ok {h : HistP} {a : Act} (M : Mem) (hv : validP h) (ha : plain a = true) : F__law_step [enc h, enc a] M = some (enc (stepP h a), M) := by
  have := fn2_eq lstepF h a M
  unfold lstepF at this
  rw [if_pos ⟨hv, ha⟩] at this
  exact this
theorem keeps__law_step : Keeps 7 c__law_step F__law_step := by
  refine keeps2p fun h a c M e => ?_
  unfold lstepF at e
  split at e
  · rename_i hv
    cases e
    obtain ⟨⟨h1, h2⟩, h3⟩ := hv
    have k1 : h.ps.length ≤ 16777215 := by omega
    obtain ⟨ps, i⟩ := h
    simp only at h1 h2 k1
    obtain ⟨p, hp⟩ : ∃ p, ps[i]? = some p := ⟨_, List.getElem?_eq_getElem h1⟩
    have e0 : ps.take i ++ [p] = ps.take (i + 1) := by rw [List.take_add_one, hp]; rfl
    have e1 : ps.take i ++ (p :: ps.drop (i + 1)) = ps := by
      have : ps.drop i = p :: ps.drop (i + 1) := by
        rw [List.drop_eq_getElem_cons h1]
        rw [List.getElem?_eq_getElem h1] at hp
        cases hp; rfl
      rw [← this, List.take_append_drop]
    have e1' : List.take i (ps.map wp) ++ (wp p :: List.drop (i + 1) (ps.map wp)) = ps.map wp := by
      have := congrArg (List.map wp) e1
      simpa using this
    have t1 : i ≤ 16777215 := by omega
    have t2 : i ≤ 16777214 := by omega
    have t3 : i + (1 + (ps.length - (i + 1))) ≤ 16777216 := by omega
    have t4 : i ≤ 16777213 := by omega
    have t5 : 1 + (ps.length - (i + 1)) ≤ 16777216 := by omega
    have m5 : min i ps.length = i := by omega
    have n1 : ps ≠ [] := fun z => by rw [z] at h1; simp at h1
    have e2 : (ps.take (i + 1)).map wp = (ps.take i).map wp ++ [wp p] := by rw [← e0]; simp
    simp only [List.map_take] at e2
    cases a with
    | visit q =>
      simp [c__law_step, enc_histP, stepP, cutW_map, ixW_nat h1, hp, List.length_take, m5, Nat.add_assoc, e2, t1, t2, t3, t4, t5]
    | back =>
      have q1 : eqW (M ++ [.lst ((ps.take i).map wp), .lst ((ps.drop (i + 1)).map wp), .lst []]) (.ref M.length) (.ref (M.length + 2)) = some (decide (ps.take i = [])) :=
        eqW_lst (α := Pg) _ _ _ (ps.take i) [] (by simp; rfl) (by simp)
      simp only [List.map_take, List.map_drop] at q1
      by_cases hi : i = 0
      · rw [decide_eq_true (by simp [hi])] at q1
        simp [c__law_step, enc_histP, stepP, cutW_map, ixW_nat h1, hp, List.length_take, m5, Nat.add_assoc, q1, t1, t2, t3, t4, t5, e1']
        exact ⟨_, ⟨by omega, rfl⟩, List.prefix_append _ _⟩
      · rw [decide_eq_false (by simp [hi, n1])] at q1
        obtain ⟨p', hp'⟩ : ∃ p', ps[i - 1]? = some p' := ⟨_, List.getElem?_eq_getElem (by omega)⟩
        have hlt : i - 1 < i := by omega
        have e3 : List.take (i - 1) (ps.map wp) ++ (wp p' :: wp p :: List.drop (i + 1) (ps.map wp)) = ps.map wp := by
          have : ps.take i = ps.take (i - 1) ++ [p'] := by
            have := List.take_add_one (l := ps) (i := i - 1)
            rw [hp', show i - 1 + 1 = i by omega] at this
            exact this
          have e4 := congrArg (List.map wp) this
          simp only [List.map_take, List.map_append, List.map_cons, List.map_nil] at e4
          rw [e4] at e1'
          simpa using e1'
        have t6 : i - 1 ≤ 16777215 := by omega
        have t7 : min (i - 1) ps.length = i - 1 := by omega
        have t8 : i - 1 + (1 + (1 + (ps.length - (i + 1)))) ≤ 16777216 := by omega
        have t9 : i - 1 + (1 + (ps.length - (i + 1) + 1)) ≤ 16777216 := by omega
        simp [c__law_step, enc_histP, stepP, cutW_map, ixW_nat h1, hp, hp', hlt, List.length_take, List.dropLast_take, m5, Nat.add_assoc, q1, t1, t2, t3, t4, t5, t6, t7, t8, t9, e3]
        refine ⟨_, ⟨?_, rfl⟩, List.prefix_append _ _⟩
        have hd : (List.take i (ps.map wp)).dropLast = List.take (i - 1) (ps.map wp) := by
          rw [List.dropLast_eq_take, List.length_take, List.length_map, m5, List.take_take, show min (i - 1) i = i - 1 by omega]
        rw [hd]
        rw [List.getElem?_eq_getElem (by omega)] at hp'
        cases hp'
        exact e3
    | forward =>
      have q1 : eqW (M ++ [.lst ((ps.take i).map wp), .lst ((ps.drop (i + 1)).map wp), .lst []]) (.ref (M.length + 1)) (.ref (M.length + 2)) = some (decide (ps.drop (i + 1) = [])) :=
        eqW_lst (α := Pg) _ _ _ (ps.drop (i + 1)) [] (by simp; rfl) (by simp)
      simp only [List.map_take, List.map_drop] at q1
      by_cases hi : i + 1 = ps.length
      · rw [decide_eq_true (by simp [hi])] at q1
        simp [c__law_step, enc_histP, stepP, cutW_map, ixW_nat h1, hp, List.length_take, m5, Nat.add_assoc, q1, t1, t2, t3, t4, t5, e1']
        exact ⟨_, ⟨by omega, rfl⟩, List.prefix_append _ _⟩
      · rw [decide_eq_false (by simp; omega)] at q1
        have hf : small62 0 = true := rfl
        have hx : ixW (ps.length - (i + 1)) 0 = some 0 := ixW_nat (j := 0) (by omega)
        obtain ⟨p', hp'⟩ : ∃ p', ps[i + 1]? = some p' := ⟨_, List.getElem?_eq_getElem (by omega)⟩
        have t6 : i + 1 ≤ 16777215 := by omega
        have t7 : i + (2 + (ps.length - (i + 2))) ≤ 16777216 := by omega
        have e3 : List.take i (ps.map wp) ++ (wp p :: wp p' :: List.drop (i + 2) (ps.map wp)) = ps.map wp := by
          have : ps.drop (i + 1) = p' :: ps.drop (i + 2) := by
            rw [List.drop_eq_getElem_cons (by omega)]
            rw [List.getElem?_eq_getElem (by omega)] at hp'
            cases hp'; rfl
          have e4 := congrArg (List.map wp) this
          simp only [List.map_drop, List.map_cons] at e4
          rw [e4] at e1'
          exact e1'
        simp [c__law_step, enc_histP, stepP, cutW_map, ixW_nat h1, hp, hp', hf, hx, List.length_take, m5, Nat.add_assoc, q1, t1, t2, t3, t4, t5, t6, t7, e3]
        exact ⟨_, ⟨by omega, rfl⟩, List.prefix_append _ _⟩
    | go i => cases h3
  · cases e
end BF

set_option Elab.async false
set_option linter.all false
set_option autoImplicit false
set_option maxRecDepth 10000
namespace BF
open PySem Enc
/-! _law_run -/
def lrunF (h : HistP) (l : List Act) : Option HistP := if roomyP h l.length ∧ l.all plain = true then some (runP h l) else none
def F__law_run : Fn := fn2 lrunF
abbrev b1__law_run : CS :=
  (sSet (gV 0) (eN F__law_step [(eV 0), (eV 2)]))
abbrev N__law_run : List Str := ["history", "script", "action"]
def c__law_run : CS :=
  (sSeq (sFor (iTup (eV 1)) (gV 2) (sSet (gV 0) (eN F__law_step [(eV 0), (eV 2)])))
  (sRet (eV 0)))
theorem lrun_ok {h : HistP} {l : List Act} (M : Mem) (hv : roomyP h l.length) (ha : l.all plain = true) : F__law_run [enc h, enc l] M = some (enc (runP h l), M) := by
  have := fn2_eq lrunF h l M
  unfold lrunF at this
  rw [if_pos ⟨hv, ha⟩] at this
  exact this
theorem keeps__law_run : Keeps 3 c__law_run F__law_run := by
  refine keeps2 fun h l c M e => ⟨[], ?_⟩
  unfold lrunF at e
  split at e
  · rename_i hv
    cases e
    obtain ⟨h1, h2⟩ := hv
    rw [List.append_nil]
    have key : ∀ (l : List Act) (h : HistP) (σ : Sl), roomyP h l.length → l.all plain = true → σ.length = 3 → σ[0]? = some (some (enc h)) →
        ∃ σ', forL gdT (gV 2) (sSet (gV 0) (eN F__law_step [(eV 0), (eV 2)])) (l.map enc) σ M = some (.nx σ' M) ∧ σ'[0]? = some (some (enc (runP h l))) := by
      intro l
      induction l with
      | nil => intro h σ _ _ _ h0; exact ⟨σ, forL_nil rfl, h0⟩
      | cons a l ih =>
        intro h σ hr hp hl h0
        rw [List.all_cons, Bool.and_eq_true] at hp
        rw [List.length_cons] at hr
        match σ, hl, h0 with
        | [s0, s1, s2], _, h0 =>
          cases h0
          obtain ⟨σ', e1, e2⟩ := ih (stepP h a) [some (enc (stepP h a)), s1, some (enc a)] (roomyP_step a hr) hp.2 rfl rfl
          refine ⟨σ', ?_, e2⟩
          rw [List.map_cons, forL_cons (σ1 := [some (enc h), s1, some (enc a)]) (o := .nx [some (enc (stepP h a)), s1, some (enc a)] M) rfl rfl (by simp [lstep_ok M ⟨hr.1, by have := hr.2; omega⟩ hp.1])]
          exact e1
    obtain ⟨σ', e1, e2⟩ := key l h [some (enc h), some (enc l), none] h1 h2 rfl rfl
    simp only [c__law_run, sSeq_eq, sFor_eq, iTup_eq, eV_eq, List.replicate, List.getD_cons_zero, List.getD_cons_succ, Option.bind_some, enc_list]
    simp only [enc_list] at e1
    rw [e1]
    simp [e2]
  · cases e
end BF

set_option Elab.async false
set_option linter.all false
set_option autoImplicit false
set_option maxRecDepth 10000
namespace BF
open PySem Enc
/-! _law_alike -/
def alikeB (a b : List Act) (m : Nat) : Bool := (List.range (m + 1)).all fun i => (List.range (m + 1)).all fun j => !dif a b i j
def alikeF (a b : List Act) (m : Nat) : Option Bool := if okS a ∧ okS b ∧ m ≤ 100 then some (alikeB a b m) else none
def F__law_alike : Fn := fn3 alikeF
abbrev b1__law_alike : CS :=
  (sFor (iRange1 (e2 gAdd (eV 2) (eL (.int 1)))) (gV 4) (sSeq (sSet (gV 5) (eTup [(eN pTupRg [(e2 gAdd (e2 gAdd (eV 3) (eL (.int 1))) (eV 4))]), (eV 3)]))
  (sIf (tB (e2 gNe (eN F__law_run [(eV 5), (eV 0)]) (eN F__law_run [(eV 5), (eV 1)]))) (sRet (eL (.bl false))) sNil)))
abbrev b2__law_alike : CS :=
  (sSeq (sSet (gV 5) (eTup [(eN pTupRg [(e2 gAdd (e2 gAdd (eV 3) (eL (.int 1))) (eV 4))]), (eV 3)]))
  (sIf (tB (e2 gNe (eN F__law_run [(eV 5), (eV 0)]) (eN F__law_run [(eV 5), (eV 1)]))) (sRet (eL (.bl false))) sNil))
abbrev N__law_alike : List Str := ["first", "second", "most", "behind", "ahead", "start"]
def c__law_alike : CS :=
  (sSeq (sFor (iRange1 (e2 gAdd (eV 2) (eL (.int 1)))) (gV 3) (sFor (iRange1 (e2 gAdd (eV 2) (eL (.int 1)))) (gV 4) (sSeq (sSet (gV 5) (eTup [(eN pTupRg [(e2 gAdd (e2 gAdd (eV 3) (eL (.int 1))) (eV 4))]), (eV 3)]))
  (sIf (tB (e2 gNe (eN F__law_run [(eV 5), (eV 0)]) (eN F__law_run [(eV 5), (eV 1)]))) (sRet (eL (.bl false))) sNil))))
  (sRet (eL (.bl true))))
theorem alike_ok {a b : List Act} {m : Nat} (M : Mem) (h1 : okS a) (h2 : okS b) (h3 : m ≤ 100) : F__law_alike [enc a, enc b, .int m] M = some (.bl (alikeB a b m), M) := by
  have := fn3_eq alikeF a b m M
  unfold alikeF at this
  rw [if_pos ⟨h1, h2, h3⟩] at this
  exact this
theorem keeps__law_alike : Keeps 6 c__law_alike F__law_alike := by
  refine keeps3p fun a b m c M e => ?_
  unfold alikeF at e
  split at e
  · rename_i hv
    cases e
    obtain ⟨h1, h2, h3⟩ := hv
    have l1 := h1.1
    have l2 := h2.1
    have sl : small62 (((m : Nat) : Int) + 1) = true := by
      have := small62_of (i := ((m + 1 : Nat) : Int)) (by omega)
      simpa using this
    have tn : (((m : Nat) : Int) + 1).toNat = m + 1 := by omega
    -- one start
    have inner : ∀ (i j : Nat), i < m + 1 → j < m + 1 → ∀ s5 : Option W, ∃ s5', b2__law_alike [some (enc a), some (enc b), some (.int (m : Nat)), some (.int (i : Nat)), some (.int (j : Nat)), s5] M = (if dif a b i j = true then some (.rt (.bl false) M) else some (.nx [some (enc a), some (enc b), some (.int (m : Nat)), some (.int (i : Nat)), some (.int (j : Nat)), s5'] M)) := by
      intro i j hi hj s5
      have k2 : ((i : Int) + 1 + (j : Int)).natAbs ≤ 16777216 := by omega
      have k3 : ((i : Int) + 1 + (j : Int)).toNat = i + 1 + j := by omega
      have f1 := lrun_ok (h := rangeH (i + 1 + j) i) M (rangeH_roomy (by omega) (by omega)) h1.2
      have f2 := lrun_ok (h := rangeH (i + 1 + j) i) M (rangeH_roomy (by omega) (by omega)) h2.2
      have eh : (enc (rangeH (i + 1 + j) i) : W) = .tup [.tup (rangeW 0 (i + 1 + j)), .int i] := by rw [enc_histP, rangeW_wp]; rfl
      rw [eh] at f1 f2
      have ed : dif a b i j = decide (runP (rangeH (i + 1 + j) i) a ≠ runP (rangeH (i + 1 + j) i) b) := rfl
      rw [ed]
      generalize runP (rangeH (i + 1 + j) i) a = A at *
      generalize runP (rangeH (i + 1 + j) i) b = B at *
      have ee := eqW_enc (α := HistP) M A B
      refine ⟨some (.tup [.tup (rangeW 0 (i + 1 + j)), .int i]), ?_⟩
      by_cases hp : A = B
      · rw [decide_eq_true hp] at ee
        rw [decide_eq_false (show ¬ A ≠ B from fun z => z hp)]
        simp [k2, k3, f1, f2, ee]
      · rw [decide_eq_false hp] at ee
        simp [k2, k3, f1, f2, ee, hp]
    obtain ⟨o, o1, o2⟩ := search_ok (body := b1__law_alike) (g := gV 3) (M := M) (fun i => ∃ j, j < m + 1 ∧ dif a b i j = true) (fun _ => .bl false) (fun σ => ∃ s3 s4 s5, σ = [some (enc a), some (enc b), some (.int (m : Nat)), s3, s4, s5]) (m + 1) 0 [some (enc a), some (enc b), some (.int (m : Nat)), none, none, none] ⟨_, _, _, rfl⟩ (by
      rintro i σ _ hi ⟨s3, s4, s5, rfl⟩
      obtain ⟨oi, i1, i2⟩ := search_ok (body := b2__law_alike) (g := gV 4) (M := M) (fun j => dif a b i j = true) (fun _ => .bl false) (fun σ => ∃ s4 s5, σ = [some (enc a), some (enc b), some (.int (m : Nat)), some (.int (i : Nat)), s4, s5]) (m + 1) 0 [some (enc a), some (enc b), some (.int (m : Nat)), some (.int (i : Nat)), s4, s5] ⟨_, _, rfl⟩ (by
        rintro j σ _ hj ⟨s4, s5, rfl⟩
        obtain ⟨s5', e⟩ := inner i j (by omega) (by omega) s5
        refine ⟨_, rfl, fun hd => ?_, fun hn => ⟨[some (enc a), some (enc b), some (.int (m : Nat)), some (.int (i : Nat)), some (.int (j : Nat)), s5'], ?_, _, _, rfl⟩⟩
        · exact e.trans (if_pos hd)
        · exact e.trans (if_neg hn))
      have eb : b1__law_alike [some (enc a), some (enc b), some (.int (m : Nat)), some (.int (i : Nat)), s4, s5] M = some oi := by
        show (sFor (iRange1 (e2 gAdd (eV 2) (eL (.int 1)))) (gV 4) b2__law_alike) _ M = _
        simp only [sFor_eq, iRange1_eq, e2_eq, eV_eq, eL_eq, List.getD_cons_zero, List.getD_cons_succ, Option.map_some, Option.bind_some, gAdd_int, sl, if_true, tn]
        exact i1
      refine ⟨[some (enc a), some (enc b), some (.int (m : Nat)), some (.int (i : Nat)), s4, s5], rfl, fun hd => ?_, fun hn => ?_⟩
      · rw [eb]
        rcases i2 with ⟨j, _, _, _, _, rfl⟩ | ⟨z, _⟩
        · rfl
        · obtain ⟨j, hj, hd⟩ := hd
          exact absurd hd (z j (Nat.zero_le _) (by omega))
      · rcases i2 with ⟨j, _, hj, hd, _, _⟩ | ⟨_, σ', rfl, t4, t5, rfl⟩
        · exact absurd ⟨j, by omega, hd⟩ hn
        · exact ⟨_, eb, _, _, _, rfl⟩)
    refine ⟨M, ?_, List.prefix_refl _⟩
    show c__law_alike [some (enc a), some (enc b), some (.int (m : Nat)), none, none, none] M = _
    have hb : c__law_alike = sSeq (sFor (iRange1 (e2 gAdd (eV 2) (eL (.int 1)))) (gV 3) b1__law_alike) (sRet (eL (.bl true))) := rfl
    have el : (sFor (iRange1 (e2 gAdd (eV 2) (eL (.int 1)))) (gV 3) b1__law_alike) [some (enc a), some (enc b), some (.int (m : Nat)), none, none, none] M = some o := by
      simp only [sFor_eq, iRange1_eq, e2_eq, eV_eq, eL_eq, List.getD_cons_zero, List.getD_cons_succ, Option.map_some, Option.bind_some, gAdd_int, sl, if_true, tn]
      exact o1
    rw [hb, sSeq_eq, el, Option.bind_some]
    rcases o2 with ⟨i, _, hi, ⟨j, hj, hd⟩, _, rfl⟩ | ⟨z, σ', rfl, _⟩
    · have : alikeB a b m = false := by
        unfold alikeB
        rw [Bool.eq_false_iff]
        intro h
        have h4 := List.all_eq_true.mp h i (List.mem_range.mpr (by omega))
        have h5 := List.all_eq_true.mp h4 j (List.mem_range.mpr hj)
        rw [hd] at h5; cases h5
      rw [this]; rfl
    · have : alikeB a b m = true := by
        unfold alikeB
        refine List.all_eq_true.mpr fun i hi => List.all_eq_true.mpr fun j hj => ?_
        cases hd : dif a b i j with
        | false => rfl
        | true => exact absurd ⟨j, List.mem_range.mp hj, hd⟩ (z i (Nat.zero_le _) (by have := List.mem_range.mp hi; omega))
      rw [this]; rfl
  · cases e
end BF

set_option Elab.async false
set_option linter.all false
set_option autoImplicit false
set_option maxRecDepth 10000
namespace BF
open PySem Enc
/-! _law_draw -/
def F__law_draw : Fn := fnT1 fun (m : Nat) ns s => if 0 < m ∧ m < 2 ^ 62 then some (drawD ns m s) else none
abbrev N__law_draw : List Str := ["tape", "many", "prime", "cell", "found"]
def c__law_draw : CS :=
  (sSeq (sSet (gV 2) (eL (.int 2305843009213693951)))
  (sSeq (sIf (tB (e2 gLt (e2 gIx (eV 0) (eL (.int 2))) (eV 1))) (sSeq (sSet (gV 3) (eL (.int 0)))
  (sSeq (sIf (tB (e2 gGt (eN pLen [(e2 gIx (eV 0) (eL (.int 0)))]) (eL (.int 0)))) (sSet (gV 3) (e2 gIx (e2 gIx (eV 0) (eL (.int 0))) (e2 gMod (e2 gIx (eV 0) (eL (.int 1))) (eN pLen [(e2 gIx (eV 0) (eL (.int 0)))])))) sNil)
  (sSeq (sIf (tOr (tB (e2 gGe (e2 gIx (eV 0) (eL (.int 1))) (eN pLen [(e2 gIx (eV 0) (eL (.int 0)))]))) (tB (e2 gLt (eV 3) (e2 gPow (eL (.int 10)) (eL (.int 18)))))) (sSeq (sSet (gV 3) (e2 gMod (e2 gAdd (eV 3) (e2 gMul (eL (.int 1000003)) (e2 gIx (eV 0) (eL (.int 1))))) (eV 2)))
  (sSeq (sSet (gV 3) (e2 gMod (e2 gAdd (e2 gAdd (e2 gMul (eV 3) (eV 3)) (e2 gMul (eL (.int 1181783497276652981)) (eV 3))) (eL (.int 2049848353892358983))) (eV 2)))
  (sSet (gV 3) (e2 gMod (e2 gAdd (e2 gMul (eV 3) (eV 3)) (eL (.int 1442695040888963407))) (eV 2))))) sNil)
  (sSeq (sPut putL (eV 0) (eL (.int 1)) (e2 gAdd (e2 gIx (eV 0) (eL (.int 1))) (eL (.int 1))))
  (sPut putL (eV 0) (eL (.int 2)) (eV 3)))))) sNil)
  (sSeq (sSet (gV 4) (e2 gMod (e2 gIx (eV 0) (eL (.int 2))) (eV 1)))
  (sSeq (sPut putL (eV 0) (eL (.int 2)) (e2 gDiv (e2 gIx (eV 0) (eL (.int 2))) (eV 1)))
  (sRet (eV 4))))))
theorem draw_ok (m : Nat) (ns : List Int) (s : Dr) (g : Mem) (h1 : 0 < m) (h2 : m < 2 ^ 62) : F__law_draw [.ref 2, .int m] (TM ns s g) = some (.int ((drawD ns m s).1 : Nat), TM ns (drawD ns m s).2 g) := by
  have := fnT1_eq (fun (m : Nat) ns s => if 0 < m ∧ m < 2 ^ 62 then some (drawD ns m s) else none) m ns s g
  rw [if_pos ⟨h1, h2⟩] at this
  exact this
theorem keeps__law_draw : Keeps 5 c__law_draw F__law_draw := by
  refine keepsT1 fun m ns s g b s' e => ?_
  split at e
  · rename_i hm
    cases e
    obtain ⟨h1, h2⟩ := hm
    obtain ⟨i, c⟩ := s
    refine ⟨[], ?_⟩
    have b1 : small64 1000003 = true := by decide
    have b2 : small64 1181783497276652981 = true := by decide
    have b3 : small62 10 = true := by decide
    have b4 : (0 : Int) < m := by omega
    have b5 : small64 (m : Int) = true := small64_of (by omega)
    have b6 : ∀ x : Int, small64 (x % 2305843009213693951) = true := fun x => by
      have q1 := Int.emod_nonneg x (show (2305843009213693951 : Int) ≠ 0 by decide)
      have q2 := Int.emod_lt_of_pos x (show (0 : Int) < 2305843009213693951 by decide)
      exact small64_of (by omega)
    have b7 : ∀ x : Int, max (x % (m : Int)) 0 = x % m := fun x => by
      have q1 := Int.emod_nonneg x (show (m : Int) ≠ 0 by omega)
      omega
    by_cases hc : c < m
    · by_cases hl : 0 < ns.length
      · have hl' : (0 : Int) < ns.length := by omega
        have j1 := Int.emod_nonneg i (show (ns.length : Int) ≠ 0 by omega)
        have j2 := Int.emod_lt_of_pos i hl'
        have j3 : (ixW ns.length (i % (ns.length : Int))) = some (i % (ns.length : Int)).toNat := by
          have := ixW_nat (n := ns.length) (j := (i % (ns.length : Int)).toNat) (by omega)
          rw [Int.toNat_of_nonneg j1] at this
          exact this
        obtain ⟨cell, j4⟩ : ∃ cell, ns[(i % (ns.length : Int)).toNat]? = some cell := ⟨_, List.getElem?_eq_getElem (by omega)⟩
        by_cases hi : (ns.length : Int) ≤ i
        · simp [c__law_draw, TM, hc, hl, j3, j4, hi, h1, b1, b2, b3, b4, b5, b6, b7, drawD, nextT, mixT]
        · by_cases hs : cell < 1000000000000000000
          · simp [c__law_draw, TM, hc, hl, j3, j4, hi, hs, h1, b1, b2, b3, b4, b5, b6, b7, drawD, nextT, mixT]
          · simp [c__law_draw, TM, hc, hl, j3, j4, hi, hs, h1, b1, b2, b3, b4, b5, b6, b7, drawD, nextT, mixT]
      · by_cases hi : (ns.length : Int) ≤ i
        · simp [c__law_draw, TM, hc, hl, hi, h1, b1, b2, b3, b4, b5, b6, b7, drawD, nextT, mixT]
        · simp [c__law_draw, TM, hc, hl, hi, h1, b1, b2, b3, b4, b5, b6, b7, drawD, nextT, mixT]
    · simp [c__law_draw, TM, hc, h1, b1, b2, b3, b4, b5, b6, b7, drawD, nextT, mixT]
  · cases e
end BF

set_option Elab.async false
set_option linter.all false
set_option autoImplicit false
set_option maxRecDepth 10000
namespace BF
open PySem Enc
/-! _law_history -/
/-- so many draws, one after another -/
def repD {α : Type} (f : Dr → α × Dr) : Nat → Dr → List α × Dr
  | 0, s => ([], s)
  | n + 1, s => ((f s).1 :: (repD f n (f s).2).1, (repD f n (f s).2).2)
theorem repD_length {α : Type} (f : Dr → α × Dr) : ∀ (n : Nat) (s : Dr), (repD f n s).1.length = n
  | 0, _ => rfl
  | n + 1, s => by rw [repD, List.length_cons, repD_length f n]
theorem repD_all {α : Type} (f : Dr → α × Dr) (P : α → Prop) (h : ∀ s, P (f s).1) : ∀ (n : Nat) (s : Dr), ∀ a ∈ (repD f n s).1, P a
  | 0, _, a, ha => by cases ha
  | n + 1, s, a, ha => by
    rw [repD] at ha
    rcases List.mem_cons.mp ha with rfl | ha
    · exact h s
    · exact repD_all f P h n _ a ha
/-- a comprehension over a range whose items draw -/
theorem lcL_rep {α : Type} [Enc α] {e : CE} {vs : List Nat} {σ : Sl} {i : Nat} {ns : List Int} (f : Dr → α × Dr) (g : Mem) (h : ∀ (w : W) (s : Dr) (l : List W), e ((wipe σ vs).set i (some w)) (TM ns s (g ++ [.lst l])) = some (enc (f s).1, TM ns (f s).2 (g ++ [.lst l]))) :
    ∀ (ws : List W) (s : Dr) (acc : List W), acc.length + ws.length ≤ 16777216 →
      lcL gdT (gV i) tTrue e vs σ (g.length + 3) ws (TM ns s (g ++ [.lst acc])) = some (TM ns (repD f ws.length s).2 (g ++ [.lst (acc ++ (repD f ws.length s).1.map enc)]))
  | [], s, acc, _ => by rw [lcL, if_pos gdT_eq]; simp [repD]
  | w :: ws, s, acc, hl => by
    rw [List.length_cons] at hl
    rw [lcL, if_pos gdT_eq, gV_eq]
    simp only [Option.bind_some, tTrue_eq, if_true, h w s acc]
    rw [show (TM ns (f s).2 (g ++ [MO.lst acc]))[g.length + 3]? = some (.lst acc) by simp [TM]]
    simp only [if_pos (show acc.length < 16777216 by omega)]
    rw [show (TM ns (f s).2 (g ++ [MO.lst acc])).set (g.length + 3) (.lst (acc ++ [enc (f s).1])) = TM ns (f s).2 (g ++ [.lst (acc ++ [enc (f s).1])]) by simp [TM]]
    rw [lcL_rep f g h ws (f s).2 _ (by simp; omega)]
    simp [repD]
def pickD (ns : List Int) (pool : List Str) (s : Dr) : Str × Dr := (pool.getD (drawD ns pool.length s).1 default, (drawD ns pool.length s).2)
def histD (ns : List Int) (most : Nat) (pool : List Str) (s : Dr) : Hist × Dr :=
  let r := drawD ns most s
  let q := repD (pickD ns pool) (1 + r.1) r.2
  let z := drawD ns (1 + r.1) q.2
  (⟨q.1, z.1⟩, z.2)
def histF (most : Nat) (pool : List Str) (ns : List Int) (s : Dr) : Option (Hist × Dr) := if 0 < most ∧ most ≤ 100 ∧ 0 < pool.length ∧ pool.length ≤ 100 then some (histD ns most pool s) else none
def F__law_history : Fn := fnT2 histF
abbrev N__law_history : List Str := ["tape", "most", "pool", "count", "pages", "k"]
def c__law_history : CS :=
  (sSeq (sSet (gV 3) (e2 gAdd (eL (.int 1)) (eN F__law_draw [(eV 0), (eV 1)])))
  (sSeq (sSet (gV 4) (eN pTuple [(eLc (iRange1 (eV 3)) (gV 5) tTrue (e2 gIx (eV 2) (eN F__law_draw [(eV 0), (eN pLen [(eV 2)])])) [5])]))
  (sRet (eTup [(eV 4), (eN F__law_draw [(eV 0), (eV 3)])]))))
theorem lhist_ok (ns : List Int) (most : Nat) (pool : List Str) (s : Dr) (g : Mem) (h1 : 0 < most) (h2 : most ≤ 100) (h3 : 0 < pool.length) (h4 : pool.length ≤ 100) :
    F__law_history [.ref 2, .int most, enc pool] (TM ns s g) = some (enc (histD ns most pool s).1, TM ns (histD ns most pool s).2 g) := by
  have := fnT2_eq histF most pool ns s g
  unfold histF at this
  rw [if_pos ⟨h1, h2, h3, h4⟩] at this
  exact this
theorem keeps__law_history : Keeps 6 c__law_history F__law_history := by
  refine keepsT2p fun most pool ns s g h s' e => ?_
  unfold histF at e
  split at e
  · rename_i hv
    cases e
    obtain ⟨h1, h2, h3, h4⟩ := hv
    have k1 := draw_ok most ns s g h1 (by omega)
    generalize hr : drawD ns most s = r at k1
    have hlt : r.1 < most := by rw [← hr]; exact drawD_lt ns s h1
    have k2 : small62 (1 + (r.1 : Int)) = true := small62_of (by omega)
    have k3 : (1 + (r.1 : Int)).toNat = 1 + r.1 := by omega
    have pick : ∀ (w : W) (s : Dr) (g : Mem), (e2 gIx (eV 2) (eN F__law_draw [(eV 0), (eN pLen [(eV 2)])])) [some (.ref 2), some (.int most), some (enc pool), some (.int (1 + (r.1 : Int))), none, some w] (TM ns s g) = some (enc (pickD ns pool s).1, TM ns (pickD ns pool s).2 g) := fun w s g => by
      have d1 := draw_ok pool.length ns s g h3 (by omega)
      have d2 := drawD_lt ns s h3
      obtain ⟨p, hp⟩ : ∃ p, pool[(drawD ns pool.length s).1]? = some p := ⟨_, List.getElem?_eq_getElem d2⟩
      simp [enc_list, d1, ixW_nat d2, hp, pickD]
    have key := lcL_rep (e := (e2 gIx (eV 2) (eN F__law_draw [(eV 0), (eN pLen [(eV 2)])]))) (vs := [5]) (σ := [some (.ref 2), some (.int most), some (enc pool), some (.int (1 + (r.1 : Int))), none, none]) (i := 5) (ns := ns) (pickD ns pool) g (fun w s l => pick w s (g ++ [MO.lst l])) (rangeW 0 (1 + r.1)) r.2 [] (by rw [rangeW_length]; simp; omega)
    rw [rangeW_length] at key
    generalize hq : repD (pickD ns pool) (1 + r.1) r.2 = q at key
    have d1 := draw_ok (1 + r.1) ns q.2 (g ++ [.lst (q.1.map enc)]) (by omega) (by omega)
    simp only [List.nil_append] at key
    have d3 : ((1 + r.1 : Nat) : Int) = (1 + (r.1 : Int)) := by omega
    rw [d3] at d1
    simp only [enc_list] at key
    simp [c__law_history, k1, k2, k3, key, enc_list, d1, enc_hist]
  · cases e
theorem histD_roomy (ns : List Int) (most : Nat) (pool : List Str) (s : Dr) (h : most ≤ 100) (hp : 0 < most) : roomy (histD ns most pool s).1 900 := by
  unfold histD
  simp only
  have h1 := drawD_lt ns s hp
  have h2 := drawD_lt ns (repD (pickD ns pool) (1 + (drawD ns most s).1) (drawD ns most s).2).2 (show 0 < 1 + (drawD ns most s).1 by omega)
  constructor
  · show _ < (repD _ _ _).1.length
    rw [repD_length]; exact h2
  · show (repD _ _ _).1.length + 900 ≤ 1000
    rw [repD_length]; omega
theorem histD_len (ns : List Int) (most : Nat) (pool : List Str) (s : Dr) (hp : 0 < most) : (histD ns most pool s).1.ps.length ≤ most := by
  show (repD _ _ _).1.length ≤ most
  rw [repD_length]
  have h1 := drawD_lt ns s hp
  omega
end BF

set_option Elab.async false
set_option linter.all false
set_option autoImplicit false
set_option maxRecDepth 10000
namespace BF
open PySem Enc
/-! _law_action -/
def actD (ns : List Int) (pool : List Str) (s : Dr) : Act × Dr :=
  let w := drawD ns 4 s
  let p := pickD ns pool w.2
  (if w.1 = 0 then .back else if w.1 = 1 then .forward else if w.1 = 2 then .back else .visit p.1, p.2)
def actF (pool : List Str) (ns : List Int) (s : Dr) : Option (Act × Dr) := if 0 < pool.length ∧ pool.length ≤ 100 then some (actD ns pool s) else none
def F__law_action : Fn := fnT1 actF
abbrev N__law_action : List Str := ["tape", "pool", "way"]
def c__law_action : CS :=
  (sSeq (sSet (gV 2) (eN F__law_draw [(eV 0), (eL (.int 4))]))
  (sRet (e2 gIx (eLst [(eTup [(eL (.str "back"))]), (eTup [(eL (.str "forward"))]), (eTup [(eL (.str "back"))]), (eTup [(eL (.str "visit")), (e2 gIx (eV 1) (eN F__law_draw [(eV 0), (eN pLen [(eV 1)])]))])]) (eV 2))))
theorem action_ok (ns : List Int) (pool : List Str) (s : Dr) (g : Mem) (h3 : 0 < pool.length) (h4 : pool.length ≤ 100) :
    F__law_action [.ref 2, enc pool] (TM ns s g) = some (enc (actD ns pool s).1, TM ns (actD ns pool s).2 g) := by
  have := fnT1_eq actF pool ns s g
  unfold actF at this
  rw [if_pos ⟨h3, h4⟩] at this
  exact this
theorem keeps__law_action : Keeps 3 c__law_action F__law_action := by
  refine keepsT1p fun pool ns s g h s' e => ?_
  unfold actF at e
  split at e
  · rename_i hv
    obtain ⟨h3, h4⟩ := hv
    simp only [actD, Option.some.injEq, Prod.mk.injEq] at e
    obtain ⟨z1, z2⟩ := e
    subst z1 z2
    have k1 := draw_ok 4 ns s g (by omega) (by omega)
    have hlt := drawD_lt ns s (show 0 < 4 by omega)
    generalize drawD ns 4 s = r at k1 hlt ⊢
    have k1' : F__law_draw [W.ref 2, W.int 4] (TM ns s g) = some (W.int ↑r.fst, TM ns r.snd g) := k1
    have d1 := draw_ok pool.length ns r.2 g h3 (by omega)
    have d2 := drawD_lt ns r.2 h3
    obtain ⟨p, hp⟩ : ∃ p, pool[(drawD ns pool.length r.2).1]? = some p := ⟨_, List.getElem?_eq_getElem d2⟩
    obtain ⟨r, t⟩ := r
    match r, hlt with
    | 0, _ | 1, _ | 2, _ | 3, _ => simp [c__law_action, k1', enc_list, d1, ixW_nat d2, hp, pickD, show ixW 4 2 = some 2 from rfl, show ixW 4 3 = some 3 from rfl]
  · cases e
theorem actD_plain (ns : List Int) (pool : List Str) (s : Dr) : plain (actD ns pool s).1 = true := by
  simp only [actD]
  split
  · rfl
  split
  · rfl
  split
  · rfl
  · rfl
end BF

set_option Elab.async false
set_option linter.all false
set_option autoImplicit false
set_option maxRecDepth 10000
namespace BF
open PySem Enc
/-! _law_script -/
def scrD (ns : List Int) (most : Nat) (pool : List Str) (s : Dr) : List Act × Dr :=
  let r := drawD ns (most + 1) s
  repD (actD ns pool) r.1 r.2
def scrF (most : Nat) (pool : List Str) (ns : List Int) (s : Dr) : Option (List Act × Dr) := if most ≤ 1000 ∧ 0 < pool.length ∧ pool.length ≤ 100 then some (scrD ns most pool s) else none
def F__law_script : Fn := fnT2 scrF
abbrev N__law_script : List Str := ["tape", "most", "pool", "k"]
def c__law_script : CS :=
  (sRet (eN pTuple [(eLc (iRange1 (eN F__law_draw [(eV 0), (e2 gAdd (eV 1) (eL (.int 1)))])) (gV 3) tTrue (eN F__law_action [(eV 0), (eV 2)]) [3])]))
theorem script_ok (ns : List Int) (most : Nat) (pool : List Str) (s : Dr) (g : Mem) (h2 : most ≤ 1000) (h3 : 0 < pool.length) (h4 : pool.length ≤ 100) :
    F__law_script [.ref 2, .int most, enc pool] (TM ns s g) = some (enc (scrD ns most pool s).1, TM ns (scrD ns most pool s).2 g) := by
  have := fnT2_eq scrF most pool ns s g
  unfold scrF at this
  rw [if_pos ⟨h2, h3, h4⟩] at this
  exact this
theorem keeps__law_script : Keeps 4 c__law_script F__law_script := by
  refine keepsT2p fun most pool ns s g h s' e => ?_
  unfold scrF at e
  split at e
  · rename_i hv
    obtain ⟨h2, h3, h4⟩ := hv
    simp only [scrD, Option.some.injEq] at e
    have d1 := draw_ok (most + 1) ns s (g ) (by omega) (by omega)
    have d2 := drawD_lt ns s (show 0 < most + 1 by omega)
    generalize drawD ns (most + 1) s = r at d1 d2 e
    have key := lcL_rep (e := eN F__law_action [(eV 0), (eV 2)]) (vs := [3]) (σ := [some (.ref 2), some (.int most), some (enc pool), none]) (i := 3) (ns := ns) (actD ns pool) g (fun w s l => by simp [wipe, action_ok ns pool s _ h3 h4]) (rangeW 0 r.1) r.2 [] (by rw [rangeW_length]; simp; omega)
    rw [rangeW_length, e] at key
    have k2 : small62 ((most : Int) + 1) = true := small62_of (by omega)
    have d1' : F__law_draw [W.ref 2, W.int ((most : Int) + 1)] (TM ns s g) = some (W.int ↑r.fst, TM ns r.snd g) := by exact d1
    simp only [List.nil_append, enc_list] at key
    have k3 : small62 (r.1 : Int) = true := small62_of (by omega)
    simp [c__law_script, k2, k3, d1', key, enc_list]
  · cases e
theorem scrD_plain (ns : List Int) (most : Nat) (pool : List Str) (s : Dr) : (scrD ns most pool s).1.all plain = true := List.all_eq_true.mpr fun _ h => repD_all _ (plain · = true) (actD_plain ns pool) _ _ _ h
theorem scrD_length (ns : List Int) (most : Nat) (pool : List Str) (s : Dr) : (scrD ns most pool s).1.length ≤ most := by
  unfold scrD
  simp only
  rw [repD_length]
  have := drawD_lt ns s (show 0 < most + 1 by omega)
  omega
end BF

set_option Elab.async false
set_option linter.all false
set_option autoImplicit false
set_option maxRecDepth 10000
namespace BF
open PySem Enc
/-! _law_like, to a depth -/
def likeW (M : Mem) : Nat → W → W → Option Bool
  | 0, _, _ => none
  | k + 1, x, y => match seqW M x with
    | some (b, xs) => match seqW M y with
      | some (c, ys) => if b ≠ c then some false else if xs.length ≠ ys.length then some false else if xs.length ≤ 100000 then (mapO (fun p => likeW M k p.1 p.2) (xs.zip ys)).map fun bs => bs.all id else none
      | none => if isScal y = true then some false else none
    | none => if isScal x = true then match seqW M y with
        | some _ => some false
        | none => if isScal y = true then (if isBl x = isBl y then eqW M x y else some false) else none
      else none
def F__law_like (d : Nat) : Fn := fun ws M => match ws with
  | [x, y] => (likeW M d x y).map fun b => (.bl b, M)
  | _ => none
abbrev N__law_like : List Str := ["one", "two", "k"]
def c__law_like (R : Fn) : CS :=
  (sSeq (sIf (tB (e1 (gIsi2 "list" "tuple") (eV 0))) (sSeq (sIf (tOr (tB (e2 gNe (e1 (gIsi "list") (eV 0)) (e1 (gIsi "list") (eV 1)))) (tB (e2 gNe (e1 (gIsi "tuple") (eV 0)) (e1 (gIsi "tuple") (eV 1))))) (sRet (eL (.bl false))) sNil)
  (sSeq (sIf (tB (e2 gNe (eN pLen [(eV 0)]) (eN pLen [(eV 1)]))) (sRet (eL (.bl false))) sNil)
  (sRet (e2 gEq (eLc (iRange1 (eN pLen [(eV 0)])) (gV 2) (tNot (tB (eN R [(e2 gIx (eV 0) (eV 2)), (e2 gIx (eV 1) (eV 2))]))) (eV 2) [2]) (eLst []))))) sNil)
  (sSeq (sIf (tB (e1 (gIsi2 "list" "tuple") (eV 1))) (sRet (eL (.bl false))) sNil)
  (sRet (eAnd (e2 gEq (e1 (gIsi "bool") (eV 0)) (e1 (gIsi "bool") (eV 1))) (e2 gEq (eV 0) (eV 1))))))
theorem like_seq {M : Mem} {x y : W} {b c : Bool} {xs ys : List W} (R : Fn) (hx : seqW M x = some (b, xs)) (hy : seqW M y = some (c, ys)) {r : Bool}
    (h : b = c → xs.length = ys.length → xs.length ≤ 100000 ∧ ∃ bs : List Bool, bs.length = xs.length ∧ bs.all id = r ∧ ∀ (i : Nat) (p q : W), xs[i]? = some p → ys[i]? = some q → ∀ g, ∃ z, bs[i]? = some z ∧ R [p, q] (M ++ g) = some (.bl z, M ++ g))
    (h2 : b ≠ c → r = false) (h3 : xs.length ≠ ys.length → r = false) :
    ∃ g, c__law_like R [some x, some y, none] M = some (.rt (.bl r) (M ++ g)) := by
  unfold c__law_like
  simp only [sSeq_eq, sIf_eq, tB_eq, e1_eq, eV_eq, List.getD_cons_zero, List.getD_cons_succ, Option.bind_some, isi2_seq hx, if_true, tOr_eq, e2_eq, gNe_eq, isiL_seq hx, isiL_seq hy, eqW_bl, Option.map_some]
  by_cases hb : b = c
  · subst hb
    simp only [decide_true, Bool.not_true, Bool.false_eq_true, if_false, isiT_seq hx, isiT_seq hy, Option.bind_some, eqW_bl, Option.map_some, sNil_eq, eN_eq, eArgs_cons, eArgs_nil, eV_eq, List.getD_cons_zero, List.getD_cons_succ, len_seq hx, len_seq hy, eqW_int, sRet_eq, eL_eq]
    by_cases hl : xs.length = ys.length
    · obtain ⟨hL, bs, hbl, hr, hR⟩ := h rfl hl
      have hx' := hx
      simp only [← hl, decide_true, Bool.not_true, Bool.false_eq_true, if_false, e2_eq, eLc_eq, iRange1_eq, eN_eq, eArgs_cons, eArgs_nil, eV_eq, List.getD_cons_zero, Option.bind_some, len_seq hx]
      have k2 : small62 (xs.length : Int) = true := small62_of (by omega)
      simp only [k2, if_true, Option.bind_some, Int.toNat_natCast]
      have key := lcL_filter (gd := gdT) (g := gV 2) (t := tNot (tB (eN R [(e2 gIx (eV 0) (eV 2)), (e2 gIx (eV 1) (eV 2))]))) (e := eV 2) (vs := [2]) (σ := [some x, some y, none]) (rangeW 0 xs.length) id
        (fun w => match w with | .int i => !(bs.getD i.toNat true) | _ => false) M [] (by rw [rangeW_length]; simp; omega) (fun _ => rfl) (fun w hw l => by
          obtain ⟨i, hi, rfl⟩ := rangeW_mem hw
          refine ⟨[some x, some y, some (.int (0 + (i : Nat)))], rfl, ?_, fun _ => rfl⟩
          obtain ⟨p, hp⟩ : ∃ p, xs[i]? = some p := ⟨_, List.getElem?_eq_getElem hi⟩
          obtain ⟨q, hq⟩ : ∃ q, ys[i]? = some q := ⟨_, List.getElem?_eq_getElem (by omega)⟩
          obtain ⟨z, hz, hRz⟩ := hR i p q hp hq [.lst l]
          have f1 := ix_seq' (seqW_app (g := [.lst l]) hx) hp
          have f2 := ix_seq' (seqW_app (g := [.lst l]) hy) hq
          simp [f1, f2, hRz, hz])
      rw [key]
      simp only [Option.bind_some, eLst_eq, eArgs_nil, List.length_nil, Nat.zero_le, if_true, List.nil_append, List.map_id, gEq_eq]
      have hf : ∃ is : List Int, (rangeW 0 xs.length).filter (fun w => match w with | .int i => !(bs.getD i.toNat true) | _ => false) = is.map enc ∧ (is = [] ↔ bs.all id = true) := by
        refine ⟨((List.range xs.length).filter fun i => !(bs.getD i true)).map fun i => (0 + (i : Nat) : Int), ?_, ?_⟩
        · unfold rangeW
          rw [List.filter_map, List.map_map]
          have hp : ((fun w => match w with | .int i => !(bs.getD i.toNat true) | _ => false) ∘ fun (i : Nat) => W.int (0 + (i : Int))) = fun i => !(bs.getD i true) := by
            funext i
            show (!(bs.getD (0 + (i : Int)).toNat true)) = _
            rw [Int.zero_add, Int.toNat_natCast]
          rw [hp]
          exact List.map_congr_left fun _ _ => rfl
        · rw [List.map_eq_nil_iff, List.filter_eq_nil_iff, List.all_eq_true]
          constructor
          · intro h0 z hz
            obtain ⟨i, hi⟩ := List.getElem?_of_mem hz
            have hil : i < xs.length := by rw [← hbl]; exact (List.getElem?_eq_some_iff.mp hi).1
            have := h0 i (List.mem_range.mpr hil)
            rw [List.getD_eq_getElem?_getD, hi] at this
            simpa using this
          · intro h0 i hi
            have hil : i < bs.length := by rw [hbl]; exact List.mem_range.mp hi
            have := h0 bs[i] (List.getElem_mem hil)
            simp [hil] at this ⊢
            exact this
      obtain ⟨is, hf1, hf2⟩ := hf
      rw [hf1]
      have := eqW_lst (α := Int) (M ++ [.lst (is.map enc)] ++ [.lst []]) M.length (M ++ [MO.lst (is.map enc)]).length is [] (by simp) (by simp)
      refine ⟨[.lst (is.map enc)] ++ [.lst []], ?_⟩
      have hd : decide (is = []) = r := by
        rw [← hr, Bool.eq_iff_iff, decide_eq_true_eq]
        exact hf2
      rw [hd, List.append_assoc] at this
      simp only [this, Option.map_some, Option.bind_some, List.append_assoc]
    · refine ⟨[], ?_⟩
      have k1 : (!decide ((xs.length : Int) = (ys.length : Int))) = true := by simp; omega
      simp only [if_pos k1, Option.bind_some, h3 hl, List.append_nil]
  · refine ⟨[], ?_⟩
    have k1 : (!decide (b = c)) = true := by simp [hb]
    simp only [k1, if_true, Option.bind_some, h2 hb, sRet_eq, eL_eq, List.append_nil]

theorem isScal_closed {w : W} (h : isScal w = true) (n : Nat) : w.closed n = true := by cases w <;> first | rfl | cases h
theorem like_scal1 {M : Mem} {x y : W} {b : Bool} {xs : List W} (R : Fn) (hx : seqW M x = some (b, xs)) (hy : isScal y = true) : ∃ g, c__law_like R [some x, some y, none] M = some (.rt (.bl false) (M ++ g)) := by
  refine ⟨[], ?_⟩
  unfold c__law_like
  cases b <;> simp [isi2_seq hx, isiL_seq hx, isiT_seq hx, isiL_scal hy, isiT_scal hy]
theorem like_scal2 {M : Mem} {x y : W} {b : Bool} {ys : List W} (R : Fn) (hx : isScal x = true) (hy : seqW M y = some (b, ys)) : ∃ g, c__law_like R [some x, some y, none] M = some (.rt (.bl false) (M ++ g)) := by
  refine ⟨[], ?_⟩
  unfold c__law_like
  simp [isi2_scal hx, isi2_seq hy]
theorem like_scal3 {M : Mem} {x y : W} (R : Fn) {r : Bool} (hx : isScal x = true) (hy : isScal y = true) (h : isBl x = isBl y → eqW M x y = some r) (h2 : isBl x ≠ isBl y → r = false) : ∃ g, c__law_like R [some x, some y, none] M = some (.rt (.bl r) (M ++ g)) := by
  refine ⟨[], ?_⟩
  unfold c__law_like
  by_cases hb : isBl x = isBl y
  · simp [isi2_scal hx, isi2_scal hy, isiB_scal hx, isiB_scal hy, hb, h hb]
  · simp [isi2_scal hx, isi2_scal hy, isiB_scal hx, isiB_scal hy, hb, h2 hb]
theorem toD_app {M g : Mem} : ∀ (k : Nat) (x : W) (d : PyData), toD M k x = some d → toD (M ++ g) k x = some d
  | 0, _, _, h => by cases h
  | k + 1, x, d, h => by
    have all : ∀ (ws : List W) (ds : List PyData), mapO (toD M k) ws = some ds → mapO (toD (M ++ g) k) ws = some ds := by
      intro ws
      induction ws with
      | nil => intro ds h; exact h
      | cons w ws ih =>
        intro ds h
        rw [mapO] at h
        split at h
        · rename_i b bs h1 h2
          cases h
          rw [mapO, toD_app k w b h1, ih bs h2]
        · cases h
    cases x with
    | tup ws =>
      rw [toD] at h ⊢
      obtain ⟨ds, h1, rfl⟩ := Option.map_eq_some_iff.mp h
      rw [all ws ds h1]; rfl
    | ref n =>
      rw [toD] at h ⊢
      split at h
      · rename_i ws hw
        obtain ⟨ds, h1, rfl⟩ := Option.map_eq_some_iff.mp h
        rw [get_app hw]
        simp only [all ws ds h1]; rfl
      · rename_i ws hw
        obtain ⟨ds, h1, rfl⟩ := Option.map_eq_some_iff.mp h
        rw [get_app hw]
        simp only [all ws ds h1]; rfl
      · cases h
    | _ => exact h
theorem eqW_app {M g : Mem} {x y : W} {b : Bool} (h : eqW M x y = some b) : eqW (M ++ g) x y = some b := by
  unfold eqW at h
  split at h
  · rename_i d e h1 h2
    cases h
    unfold eqW
    rw [toD_app 64 x d h1, toD_app 64 y e h2]
  · cases h
theorem seqW_none_app {M g : Mem} {x : W} (h : isScal x = true) : seqW M x = none ∧ seqW (M ++ g) x = none := by cases x <;> first | exact ⟨rfl, rfl⟩ | cases h
theorem likeW_grow {M g : Mem} : ∀ (k : Nat) (x y : W) (b : Bool), likeW M k x y = some b → likeW (M ++ g) k x y = some b
  | 0, _, _, _, h => by cases h
  | k + 1, x, y, b, h => by
    rw [likeW] at h ⊢
    split at h
    · rename_i b1 xs hx
      rw [seqW_app hx]
      split at h
      · rename_i c ys hy
        rw [seqW_app hy]
        simp only at h ⊢
        split at h
        · rename_i hb; rw [if_pos hb]; exact h
        · rename_i hb
          rw [if_neg hb]
          split at h
          · rename_i hl; rw [if_pos hl]; exact h
          · rename_i hl
            rw [if_neg hl]
            split at h
            · rename_i h5
              rw [if_pos h5]
              obtain ⟨bs, h1, h2⟩ := Option.map_eq_some_iff.mp h
              have all : ∀ (ps : List (W × W)) (bs : List Bool), mapO (fun p => likeW M k p.1 p.2) ps = some bs → mapO (fun p => likeW (M ++ g) k p.1 p.2) ps = some bs := by
                intro ps
                induction ps with
                | nil => intro ds h; exact h
                | cons w ws ih =>
                  intro ds h
                  rw [mapO] at h
                  split at h
                  · rename_i b bs h1 h2
                    cases h
                    rw [mapO, likeW_grow k w.1 w.2 b h1, ih bs h2]
                  · cases h
              rw [all _ bs h1, ← h2]; rfl
            · cases h
      · rename_i hy
        split at h
        · rename_i hs
          rw [(seqW_none_app (M := M) (g := g) hs).2]
          simp only [if_pos hs]; exact h
        · cases h
    · rename_i hx
      split at h
      · rename_i hs
        rw [(seqW_none_app (M := M) (g := g) hs).2]
        simp only [if_pos hs]
        split at h
        · rename_i hy
          rw [seqW_app hy]; exact h
        · split at h
          · rename_i hy
            rw [(seqW_none_app (M := M) (g := g) hy).2]
            simp only [if_pos hy]
            split at h
            · rename_i hb; rw [if_pos hb]; exact eqW_app h
            · rename_i hb; rw [if_neg hb]; exact h
          · cases h
      · cases h
theorem keeps__law_like (d : Nat) : Keeps 3 (c__law_like (F__law_like d)) (F__law_like (d + 1)) := by
  refine KeepsP.keeps ?_
  intro ws M w M' hc hw e
  unfold F__law_like at e
  split at e
  · rename_i x y
    obtain ⟨r, hr, e2⟩ := Option.map_eq_some_iff.mp e
    cases e2
    have fin : (∃ g, c__law_like (F__law_like d) [some x, some y, none] M = some (.rt (.bl r) (M ++ g))) → ∃ g, (c__law_like (F__law_like d) (([x, y] : List W).map some ++ List.replicate (3 - ([x, y] : List W).length) none) M = some (.rt (.bl r) (M ++ g)) ∨
      W.bl r = .non ∧ ∃ σ', c__law_like (F__law_like d) (([x, y] : List W).map some ++ List.replicate (3 - ([x, y] : List W).length) none) M = some (.nx σ' (M ++ g))) ∧ M.length ≤ M.length ∧ Closed M ∧ (W.bl r).closed M.length = true :=
      fun ⟨g, hg⟩ => ⟨g, .inl hg, Nat.le_refl _, hc, rfl⟩
    refine fin ?_
    rw [likeW] at hr
    split at hr
    · rename_i b xs hx
      split at hr
      · rename_i c ys hy
        refine like_seq _ hx hy (fun h1 h2 => ?_) (fun h1 => ?_) (fun h2 => ?_)
        · subst h1
          rw [if_neg (by simp), if_neg (by simpa using h2)] at hr
          split at hr
          · rename_i h5
            obtain ⟨bs, h3, h4⟩ := Option.map_eq_some_iff.mp hr
            obtain ⟨l1, l2⟩ := mapO_at h3
            refine ⟨h5, bs, by rw [l1, List.length_zip]; omega, h4, fun i p q hp hq g => ?_⟩
            obtain ⟨z, hz, hlk⟩ := l2 i (p, q) (by rw [List.getElem?_zip_eq_some]; exact ⟨hp, hq⟩)
            refine ⟨z, hz, ?_⟩
            show (likeW (M ++ g) d p q).map _ = _
            rw [likeW_grow d p q z hlk]; rfl
          · cases hr
        · rw [if_pos h1] at hr
          cases hr; rfl
        · by_cases h1 : b ≠ c
          · rw [if_pos h1] at hr; cases hr; rfl
          · rw [if_neg h1, if_pos h2] at hr; cases hr; rfl
      · split at hr
        · rename_i hs
          cases hr
          exact like_scal1 _ hx hs
        · cases hr
    · split at hr
      · rename_i hs
        split at hr
        · rename_i hy
          cases hr
          exact like_scal2 _ hs hy
        · split at hr
          · rename_i hs2
            refine like_scal3 _ hs hs2 (fun hb => ?_) (fun hb => ?_)
            · rw [if_pos hb] at hr; exact hr
            · rw [if_neg hb] at hr; cases hr; rfl
          · cases hr
      · cases hr
  · cases e
/-- no tuple in it is long -/
def smallW : Nat → W → Bool
  | 0, _ => false
  | k + 1, .tup ws => decide (ws.length ≤ 100000) && ws.all (smallW k)
  | _ + 1, .non | _ + 1, .bl _ | _ + 1, .int _ | _ + 1, .str _ | _ + 1, .ref _ => true
/-- of list-free values it is equality itself -/
theorem eqP_scal {x y : W} (hx : isScal x = true) (hy : isScal y = true) (hb : isBl x = isBl y) : eqP x y = decide (x = y) := by
  rw [Bool.eq_iff_iff, decide_eq_true_eq]
  cases x <;> cases y <;> simp [isScal, isBl, eqP] at *
theorem likeW_S (M : Mem) (k : Nat) (x y : W) (sx : isScal x = true) (sy : isScal y = true) (hx : okW (k + 1) x = true) (hy : okW (k + 1) y = true) (hk : k + 1 ≤ 64) : likeW M (k + 1) x y = some (decide (x = y)) := by
  rw [likeW, (seqW_none_app (M := M) (g := []) sx).1]
  simp only [sx, if_true]
  rw [(seqW_none_app (M := M) (g := []) sy).1]
  simp only [sy, if_true]
  split
  · rename_i hb
    rw [eqW_P M (okW_mono _ _ hx 64 hk) (okW_mono _ _ hy 64 hk), eqP_scal sx sy hb]
  · rename_i hb
    congr 1
    symm
    rw [decide_eq_false_iff_not]
    intro e
    exact hb (by rw [e])
theorem likeW_P (M : Mem) : ∀ (k : Nat) (x y : W), okW k x = true → okW k y = true → (∀ z, z = x ∨ z = y → smallW k z = true) → k ≤ 64 → likeW M k x y = some (decide (x = y))
  | 0, _, _, h, _, _, _ => by cases h
  | k + 1, x, y, hx, hy, hz, hk => by
    cases x with
    | ref _ => rw [okW] at hx; cases hx
    | tup xs =>
      cases y with
      | ref _ => rw [okW] at hy; cases hy
      | tup ys =>
        rw [okW, List.all_eq_true] at hx hy
        have s1 := hz _ (.inl rfl)
        have s2 := hz _ (.inr rfl)
        rw [smallW, Bool.and_eq_true, List.all_eq_true] at s1 s2
        rw [likeW]
        show (if false ≠ false then some false else if xs.length ≠ ys.length then some false else if xs.length ≤ 100000 then _ else none) = _
        rw [if_neg (by simp)]
        by_cases hl : xs.length = ys.length
        · rw [if_neg (by simpa using hl), if_pos (of_decide_eq_true s1.1)]
          have : ∀ (xs ys : List W), xs.length = ys.length → (∀ x ∈ xs, okW k x = true) → (∀ x ∈ ys, okW k x = true) → (∀ x ∈ xs, smallW k x = true) → (∀ x ∈ ys, smallW k x = true) →
              (mapO (fun p : W × W => likeW M k p.1 p.2) (xs.zip ys)).map (fun bs => bs.all id) = some (decide (xs = ys)) := by
            intro xs
            induction xs with
            | nil => intro ys h _ _ _ _; cases ys with
              | nil => rfl
              | cons _ _ => cases h
            | cons x xs ih =>
              intro ys h a1 a2 a3 a4
              cases ys with
              | nil => cases h
              | cons y ys =>
                have e1 := likeW_P M k x y (a1 x List.mem_cons_self) (a2 y List.mem_cons_self) (fun z hz => hz.elim (fun e => e ▸ a3 x List.mem_cons_self) (fun e => e ▸ a4 y List.mem_cons_self)) (by omega)
                have e2 := ih ys (by simpa using h) (fun z hz => a1 z (List.mem_cons_of_mem _ hz)) (fun z hz => a2 z (List.mem_cons_of_mem _ hz)) (fun z hz => a3 z (List.mem_cons_of_mem _ hz)) (fun z hz => a4 z (List.mem_cons_of_mem _ hz))
                obtain ⟨bs, h1, h2⟩ := Option.map_eq_some_iff.mp e2
                rw [List.zip_cons_cons, mapO, e1, h1]
                simp only [Option.map_some, List.all_cons, id, h2]
                congr 1
                by_cases hxy : x = y <;> by_cases hxs : xs = ys <;> simp [hxy, hxs]
          rw [this xs ys hl hx hy s1.2 s2.2]
          simp
        · rw [if_pos (by simpa using hl)]
          congr 1
          symm
          rw [decide_eq_false_iff_not]
          intro e
          cases e
          exact hl rfl
      | _ => rfl
    | _ => cases y with
      | ref _ => rw [okW] at hy; cases hy
      | tup _ => rfl
      | _ => exact likeW_S M k _ _ rfl rfl hx hy hk
theorem like_enc {α : Type} [Enc α] [DecidableEq α] (d : Nat) (a b : α) (M : Mem) (h1 : dep α ≤ d) (h2 : d ≤ 64) (sa : smallW d (enc a) = true) (sb : smallW d (enc b) = true) : F__law_like d [enc a, enc b] M = some (.bl (decide (a = b)), M) := by
  unfold F__law_like
  simp only
  rw [likeW_P M d _ _ (okW_mono _ _ (ok a) d h1) (okW_mono _ _ (ok b) d h1) (fun z hz => hz.elim (fun e => e ▸ sa) (fun e => e ▸ sb)) h2]
  have : decide ((enc a : W) = enc b) = decide (a = b) := by
    rw [Bool.eq_iff_iff, decide_eq_true_eq, decide_eq_true_eq]
    exact ⟨fun h => Enc.inj h, fun h => by rw [h]⟩
  rw [this]; rfl
theorem F0__law_like (ws : List W) (M : Mem) : F__law_like 0 ws M = none := by
  unfold F__law_like
  split <;> rfl
end BF

set_option Elab.async false
set_option linter.all false
set_option autoImplicit false
set_option maxRecDepth 10000
namespace BF
open PySem Enc
/-! _law_like at lists -/
theorem like_lst {α : Type} [Enc α] [DecidableEq α] (d : Nat) (n m : Nat) (as bs : List α) (M : Mem) (e1 : M[n]? = some (.lst (as.map enc))) (e2 : M[m]? = some (.lst (bs.map enc))) (h1 : dep α ≤ d) (h2 : d + 1 ≤ 64) (sa : ∀ a ∈ as, smallW d (enc a) = true) (sb : ∀ b ∈ bs, smallW d (enc b) = true) (hl : as.length ≤ 100000) :
    F__law_like (d + 1) [.ref n, .ref m] M = some (.bl (decide (as = bs)), M) := by
  have q1 : seqW M (.ref n) = some (true, as.map enc) := by simp [seqW, e1]
  have q2 : seqW M (.ref m) = some (true, bs.map enc) := by simp [seqW, e2]
  have zz : ∀ (as bs : List α), as.length = bs.length → (∀ a ∈ as, smallW d (enc a) = true) → (∀ b ∈ bs, smallW d (enc b) = true) →
      (mapO (fun p : W × W => likeW M d p.1 p.2) ((as.map enc).zip (bs.map enc))).map (fun bs => bs.all id) = some (decide (as = bs)) := by
    intro as
    induction as with
    | nil => intro bs h _ _; cases bs with
      | nil => rfl
      | cons _ _ => cases h
    | cons a as ih => intro bs h ha hb; cases bs with
      | nil => cases h
      | cons b bs =>
        have r := ih bs (by simpa using h) (fun x hx => ha x (List.mem_cons_of_mem _ hx)) fun x hx => hb x (List.mem_cons_of_mem _ hx)
        obtain ⟨us, u1, u2⟩ := Option.map_eq_some_iff.mp r
        have t := likeW_P M d (enc a) (enc b) (okW_mono _ _ (ok a) d h1) (okW_mono _ _ (ok b) d h1) (fun z hz => hz.elim (fun e => e ▸ ha a List.mem_cons_self) (fun e => e ▸ hb b List.mem_cons_self)) (by omega)
        have t2 : decide ((enc a : W) = enc b) = decide (a = b) := by
          rw [Bool.eq_iff_iff, decide_eq_true_eq, decide_eq_true_eq]
          exact ⟨fun h => Enc.inj h, fun h => by rw [h]⟩
        rw [List.map_cons, List.map_cons, List.zip_cons_cons, mapO]
        simp only [t, u1, Option.bind_some, Option.map_some, List.all_cons, id, u2, t2]
        rw [Bool.eq_iff_iff.mpr (show (decide (a = b) && decide (as = bs)) = true ↔ decide (a :: as = b :: bs) = true by simp)]
  unfold F__law_like
  simp only
  rw [likeW, q1, q2]
  simp only [ne_eq, not_true_eq_false, if_false, List.length_map]
  by_cases hlen : as.length = bs.length
  · rw [if_neg (by simpa using hlen), if_pos hl, zz as bs hlen sa sb]; rfl
  · rw [if_pos hlen, show decide (as = bs) = false by rw [decide_eq_false_iff_not]; intro e; exact hlen (by rw [e])]; rfl
theorem lcL_range {α : Type} [Enc α] {gd : Mem → Bool} {g : CG} {e : CE} {vs : List Nat} {σ : Sl} (lo : Int) (n : Nat) (f : Nat → α) (M : Mem) (hl : n ≤ 16777216) (hg : ∀ l, gd (M ++ [.lst l]) = true)
    (h : ∀ i, i < n → ∀ l, ∃ σ1, g (.int (lo + (i : Nat))) (wipe σ vs) = some σ1 ∧ e σ1 (M ++ [.lst l]) = some (enc (f i), M ++ [.lst l])) :
    lcL gd g tTrue e vs σ M.length (rangeW lo n) (M ++ [.lst []]) = some (M ++ [.lst (((List.range n).map f).map enc)]) := by
  have := lcL_pure (gd := gd) (g := g) (e := e) (vs := vs) (σ := σ) (rangeW lo n) (fun w => match w with | .int z => enc (f (z - lo).toNat) | _ => .non) M [] (by rw [rangeW_length]; simpa using hl) hg (by
    intro w hw l
    obtain ⟨i, hi, rfl⟩ := rangeW_mem hw
    obtain ⟨σ1, h1, h2⟩ := h i hi l
    refine ⟨σ1, h1, ?_⟩
    simp only
    rw [show (lo + (i : Int) - lo).toNat = i by omega]
    exact h2)
  rw [this, List.nil_append]
  congr 4
  unfold rangeW
  rw [List.map_map, List.map_map]
  apply List.map_congr_left
  intro i _
  simp only [Function.comp]
  rw [show (lo + (i : Int) - lo).toNat = i by omega]
end BF

set_option Elab.async false
set_option linter.all false
set_option autoImplicit false
set_option maxRecDepth 10000
namespace BF
open PySem Enc
/-! what all laws begin with -/
abbrev pool3 : List Str := ["a", "b", "c"]
theorem keeps_lawT {n : Nat} {body : CS} (h : ∀ ns : List Int, ns.length ≤ 63 → ∃ s g, body (some (.ref 0) :: List.replicate (n - 1) none) [.ro (ns.map W.int)] = some (.rt (.bl true) (TM ns s g))) : Keeps n body lawF := keeps_law fun ns hn => by
  obtain ⟨s, g, e⟩ := h ns hn
  exact ⟨_, e⟩
theorem small_sight (d : Nat) (x : Sight) : smallW (d + 2) (enc x) = true := by simp [enc_sight, smallW]
theorem small_hist (d : Nat) (x : Hist) (h : x.ps.length ≤ 100000) : smallW (d + 3) (enc x) = true := by simp [enc_hist, smallW]; exact h
theorem small_oi (d : Nat) (x : Option Int) : smallW (d + 1) (enc x) = true := by cases x <;> rfl
/-- a law's frame: the tape, the pages, so many turns -/
theorem law_shape {n K : Nat} {B : CS} {pe : CE} {pl : List Str} (hk : small62 (K : Int) = true) (hp : ∀ σ M, pe σ M = some (enc pl, M)) (hn : 4 ≤ n)
    (turn : ∀ ns s g σ, σ.length = n → σ[1]? = some (some (.ref 2)) → σ[2]? = some (some (enc pl)) → ∃ σ2 s' g', B σ (TM ns s g) = some (.nx σ2 (TM ns s' g')) ∧ σ2.length = n ∧ σ2[1]? = some (some (.ref 2)) ∧ σ2[2]? = some (some (enc pl))) :
    Keeps n (sSeq (sSet (gV 1) (eLst [(eN pList [(eV 0)]), (eL (.int 0)), (eL (.int 0))])) (sSeq (sSet (gV 2) pe) (sSeq (sFor (iRange1 (eL (.int K))) (gV 3) B) (sRet (eL (.bl true)))))) lawF := by
  refine keeps_lawT fun ns hl => ?_
  obtain ⟨m, rfl⟩ : ∃ m, n = m + 4 := ⟨n - 4, by omega⟩
  have key := forL_ind (gd := gdT) (g := gV 3) (body := B) (rangeW 0 K) (fun _ σ M => ∃ s g, M = TM ns s g ∧ σ.length = m + 4 ∧ σ[1]? = some (some (.ref 2)) ∧ σ[2]? = some (some (enc pl)))
    (σ := some (.ref 0) :: some (.ref 2) :: some (enc pl) :: none :: List.replicate m none) (M := TM ns (0, 0) []) ⟨_, _, rfl, by simp, rfl, rfl⟩ (fun _ _ _ _ => rfl) (by
    intro i w σ M _ ⟨s, g, hM, hl, h1, h2⟩
    subst hM
    obtain ⟨σ2, s', g', e, l1, l2, l3⟩ := turn ns s g (σ.set 3 (some w)) (by simpa using hl) (by simpa using h1) (by simpa using h2)
    exact ⟨σ.set 3 (some w), rfl, σ2, _, .inl e, _, _, rfl, l1, l2, l3⟩)
  obtain ⟨σ', M', e, s, g, hM, _⟩ := key
  subst hM
  refine ⟨s, g, ?_⟩
  have kl : ns.length ≤ 16777216 := by omega
  have e0 : List.replicate (m + 4 - 1) (none : Option W) = none :: none :: none :: List.replicate m none := rfl
  rw [e0]
  simp only [TM] at e
  simp [hp, e, kl, hk, TM]
theorem law_tape {R : CS} {n : Nat} {ns : List Int} (hl : ns.length ≤ 63) : (sSeq (sSet (gV 1) (eLst [(eN pList [(eV 0)]), (eL (.int 0)), (eL (.int 0))])) R) (some (.ref 0) :: none :: List.replicate n none) [.ro (ns.map W.int)] = R (some (.ref 0) :: some (.ref 2) :: List.replicate n none) (TM ns (0, 0) []) := by
  have kl : ns.length ≤ 16777216 := by omega
  simp [kl, TM]
end BF

set_option Elab.async false
set_option linter.all false
set_option autoImplicit false
set_option maxRecDepth 10000
namespace BF
open PySem Enc
noncomputable section
/-! the law's body (iEnumZ: enumerate(zip(..))) -/
abbrev b1_law_k11 : CS :=
  (sSeq (sSet (gV 4) (eN F__law_script [(eV 1), (eL (.int 9)), (eV 2)]))
  (sSeq (sSet (gV 5) (eLc (iRange1 (eN pLen [(eV 4)])) (gV 7) (tB (eN F__law_alike [(e2 gAdd (eSl (eV 4) none (some (eV 7))) (eSl (eV 4) (some (e2 gAdd (eV 7) (eL (.int 1)))) none)), (eV 4), (eL (.int 9))])) (eV 7) [7]))
  (sSeq (sSet (gV 6) (eN F_redundant_steps [(eV 4)]))
  (sSeq (sIf (tNot (tB (eN (F__law_like 8) [(eV 6), (eV 5)]))) (sRet (eL (.bl false))) sNil)
  (sSeq (sExpr (eML mAppend (eV 6) [(eL .non)]))
  (sSeq (sIf (tB (e2 gNe (eN F_redundant_steps [(eV 4)]) (eV 5))) (sRet (eL (.bl false))) sNil)
  (sFor (iEnumZ (eV 4) (eSl (eV 4) (some (eL (.int 1))) none)) (gT [(gV 7), (gT [(gV 8), (gV 9)])]) (sIf (tAnd (tB (e2 gEq (e2 gIx (eV 8) (eL (.int 0))) (eL (.str "visit")))) (tAnd (tB (e2 gEq (eV 9) (eTup [(eL (.str "forward"))]))) (tB (e2 gNotInD (e2 gAdd (eV 7) (eL (.int 1))) (eV 5))))) (sRet (eL (.bl false))) sNil))))))))
abbrev b2_law_k11 : CS :=
  (sIf (tAnd (tB (e2 gEq (e2 gIx (eV 8) (eL (.int 0))) (eL (.str "visit")))) (tAnd (tB (e2 gEq (eV 9) (eTup [(eL (.str "forward"))]))) (tB (e2 gNotInD (e2 gAdd (eV 7) (eL (.int 1))) (eV 5))))) (sRet (eL (.bl false))) sNil)
abbrev N_law_k11 : List Str := ["script", "tape", "pool", "turn", "actions", "due", "told", "at", "one", "two"]
def c_law_k11 : CS :=
  (sSeq (sSet (gV 1) (eLst [(eN pList [(eV 0)]), (eL (.int 0)), (eL (.int 0))]))
  (sSeq (sSet (gV 2) (eTup [(eL (.str "x")), (eL (.str "y"))]))
  (sSeq (sFor (iRange1 (eL (.int 4))) (gV 3) (sSeq (sSet (gV 4) (eN F__law_script [(eV 1), (eL (.int 9)), (eV 2)]))
  (sSeq (sSet (gV 5) (eLc (iRange1 (eN pLen [(eV 4)])) (gV 7) (tB (eN F__law_alike [(e2 gAdd (eSl (eV 4) none (some (eV 7))) (eSl (eV 4) (some (e2 gAdd (eV 7) (eL (.int 1)))) none)), (eV 4), (eL (.int 9))])) (eV 7) [7]))
  (sSeq (sSet (gV 6) (eN F_redundant_steps [(eV 4)]))
  (sSeq (sIf (tNot (tB (eN (F__law_like 8) [(eV 6), (eV 5)]))) (sRet (eL (.bl false))) sNil)
  (sSeq (sExpr (eML mAppend (eV 6) [(eL .non)]))
  (sSeq (sIf (tB (e2 gNe (eN F_redundant_steps [(eV 4)]) (eV 5))) (sRet (eL (.bl false))) sNil)
  (sFor (iEnumZ (eV 4) (eSl (eV 4) (some (eL (.int 1))) none)) (gT [(gV 7), (gT [(gV 8), (gV 9)])]) (sIf (tAnd (tB (e2 gEq (e2 gIx (eV 8) (eL (.int 0))) (eL (.str "visit")))) (tAnd (tB (e2 gEq (eV 9) (eTup [(eL (.str "forward"))]))) (tB (e2 gNotInD (e2 gAdd (eV 7) (eL (.int 1))) (eV 5))))) (sRet (eL (.bl false))) sNil)))))))))
  (sRet (eL (.bl true))))))
abbrev poolxy : List Str := ["x", "y"]
theorem up_app {M g : Mem} {n : Nat} {x : MO} (h : M[n]? = some x) : (M ++ g)[n]? = some x := by rw [List.getElem?_append_left (List.getElem?_eq_some_iff.mp h).1]; exact h
theorem lt_of_get {M : Mem} {n : Nat} {x : MO} (h : M[n]? = some x) : n < M.length := (List.getElem?_eq_some_iff.mp h).1
theorem keep_set {M0 M : Mem} {n : Nat} {x : MO} (h : M0 <+: M) (hn : M0.length ≤ n) : M0 <+: M.set n x := by
  obtain ⟨g, rfl⟩ := h
  rw [List.set_append_right _ _ hn]
  exact List.prefix_append _ _
theorem alike_eq {a b : List Act} (pa : a.all plain = true) (pb : b.all plain = true) (m : Nat) (h1 : mbA a b ≤ m) (h2 : maA a b ≤ m) : alikeB a b m = (diffR a b).isNone := by
  rw [← diffR_wide pa pb m h1 h2]
  have hs := firstD_spec (dif a b) m m
  cases hd : firstD (dif a b) m m with
  | none =>
    rw [hd] at hs
    have hs : ∀ i j, i ≤ m → j ≤ m → dif a b i j = false := hs
    unfold alikeB
    refine List.all_eq_true.mpr fun i hi => List.all_eq_true.mpr fun j hj => ?_
    have := List.mem_range.mp hi
    have := List.mem_range.mp hj
    rw [hs i j (by omega) (by omega)]; rfl
  | some q =>
    obtain ⟨i, j⟩ := q
    rw [hd] at hs
    obtain ⟨q1, q2, q3, _⟩ := hs
    unfold alikeB
    show _ = false
    rw [Bool.eq_false_iff]
    intro h
    have h4 := List.all_eq_true.mp h i (List.mem_range.mpr (by omega))
    have h5 := List.all_eq_true.mp h4 j (List.mem_range.mpr (by omega))
    rw [q3] at h5; cases h5
theorem runP_app (h : HistP) (l m : List Act) : runP h (l ++ m) = runP (runP h l) m := List.foldl_append
/-- a forward behind a visit does nothing -/
theorem red_forward {l : List Act} (hl : okS l) {k : Nat} {p : Str} (h1 : l[k]? = some (.visit p)) (h2 : l[k + 1]? = some .forward) : k + 1 ∈ redL l := by
  obtain ⟨k1, e1⟩ := List.getElem?_eq_some_iff.mp h1
  obtain ⟨k2, e2⟩ := List.getElem?_eq_some_iff.mp h2
  have d1 : delA l (k + 1) = (l.take k ++ [Act.visit p]) ++ l.drop (k + 2) := by
    unfold delA
    rw [List.take_succ_eq_append_getElem k1, e1]
  have d2 : l = (l.take k ++ [Act.visit p]) ++ (Act.forward :: l.drop (k + 2)) := by
    have q1 : l.drop (k + 1) = Act.forward :: l.drop (k + 2) := by rw [List.drop_eq_getElem_cons k2, e2]
    rw [← q1, ← e1, ← List.take_succ_eq_append_getElem k1, List.take_append_drop]
  have same : ∀ h : HistP, roomyP h 100 → runP h (delA l (k + 1)) = runP h l := by
    intro h hv
    have rv : runP h l = runP h ((l.take k ++ [Act.visit p]) ++ (Act.forward :: l.drop (k + 2))) := by rw [← d2]
    rw [rv, d1, runP_app h (l.take k ++ [Act.visit p]) (l.drop (k + 2)), runP_app h (l.take k ++ [Act.visit p]) (Act.forward :: l.drop (k + 2))]
    have q3 : runP h (l.take k ++ [Act.visit p]) = stepP (runP h (l.take k)) (.visit p) := by rw [runP_app]; rfl
    rw [q3]
    have q4 : runP (stepP (runP h (l.take k)) (.visit p)) (Act.forward :: l.drop (k + 2)) = runP (stepP (stepP (runP h (l.take k)) (.visit p)) .forward) (l.drop (k + 2)) := rfl
    rw [q4]
    have rr : roomyP (runP h (l.take k)) 0 := roomyP_run _ (roomyP_mono hv (by rw [List.length_take]; have := hl.1; omega))
    congr 1
    have vl := rr.1
    generalize runP h (l.take k) = t at vl
    show (⟨t.ps.take (t.at_ + 1) ++ [.s p], t.at_ + 1⟩ : HistP) = ⟨t.ps.take (t.at_ + 1) ++ [.s p], min ((t.ps.take (t.at_ + 1) ++ [Pg.s p]).length - 1) (t.at_ + 1 + 1)⟩
    congr 1
    rw [List.length_append, List.length_take, List.length_singleton]
    omega
  refine List.mem_filter.mpr ⟨List.mem_range.mpr k2, ?_⟩
  have mb : mbA (delA l (k + 1)) l ≤ 100 := by
    have c1 := cntA_le (delA l (k + 1)) "back"; have c2 := cntA_le l "back"
    have := (del_okS (k + 1) hl).1; have := hl.1
    unfold mbA; omega
  have ma : maA (delA l (k + 1)) l ≤ 100 := by
    have c1 := cntA_le (delA l (k + 1)) "forward"; have c2 := cntA_le l "forward"
    have := (del_okS (k + 1) hl).1; have := hl.1
    unfold maA; omega
  have hs := firstD_spec (dif (delA l (k + 1)) l) (mbA (delA l (k + 1)) l) (maA (delA l (k + 1)) l)
  have hd : diffR (delA l (k + 1)) l = none := by
    unfold diffR
    cases hq : firstD (dif (delA l (k + 1)) l) (mbA (delA l (k + 1)) l) (maA (delA l (k + 1)) l) with
    | none => rfl
    | some q =>
      obtain ⟨i, j⟩ := q
      rw [hq] at hs
      obtain ⟨q1, q2, q3, _⟩ := hs
      unfold dif at q3
      exact absurd (same _ (rangeH_roomy (by omega) (by omega))) (of_decide_eq_true q3)
  rw [hd]; rfl
theorem turn_k11 (ns : List Int) (s : Dr) (g : Mem) (s0 s3 s4 s5 s6 s7 s8 s9 : Option W) : ∃ σ2 s' g', b1_law_k11 [s0, some (.ref 2), some (enc poolxy), s3, s4, s5, s6, s7, s8, s9] (TM ns s g) = some (.nx σ2 (TM ns s' g')) ∧ σ2.length = 10 ∧ σ2[1]? = some (some (.ref 2)) ∧ σ2[2]? = some (some (enc poolxy)) := by
  have f1 := script_ok ns 9 poolxy s g (by omega) (by decide) (by decide)
  have p1 := scrD_plain ns 9 poolxy s
  have n1 := scrD_length ns 9 poolxy s
  generalize scrD ns 9 poolxy s = q at f1 p1 n1
  obtain ⟨l, s1⟩ := q
  simp only at f1 p1 n1
  have ol : okS l := ⟨by omega, p1⟩
  have q9 : ((9 : Nat) : Int) = 9 := rfl
  rw [q9] at f1
  obtain ⟨M0, hM0⟩ : ∃ M0, M0 = TM ns s1 g := ⟨_, rfl⟩
  rw [← hM0] at f1
  obtain ⟨R, hR⟩ : ∃ R, R = redL l := ⟨_, rfl⟩
  have Rl : R.length ≤ 100 := by
    rw [hR]
    unfold redL
    exact Nat.le_trans (List.length_filter_le _ _) (by rw [List.length_range]; omega)
  obtain ⟨M1, hM1⟩ : ∃ M1, M1 = M0 ++ [MO.lst (R.map enc)] := ⟨_, rfl⟩
  have due := lcL_rangeF (gd := gdT) (g := gV 7) (t := tB (eN F__law_alike [(e2 gAdd (eSl (eV 4) none (some (eV 7))) (eSl (eV 4) (some (e2 gAdd (eV 7) (eL (.int 1)))) none)), (eV 4), (eL (.int 9))])) (e := eV 7) (vs := [7]) (σ := [s0, some (.ref 2), some (enc poolxy), s3, some (enc l), s5, s6, s7, s8, s9]) l.length (fun i => (diffR (delA l i) l).isNone) M0 (by omega) (fun _ => rfl) (fun i hi m => by
    have od := del_okS i ol
    have dl : (delA l i).length ≤ 9 := by unfold delA; rw [List.length_append, List.length_take, List.length_drop]; omega
    have fa := alike_ok (m := 9) (M0 ++ [.lst m]) od ol (by omega)
    have w1 : mbA (delA l i) l ≤ 9 := by have := cntA_le (delA l i) "back"; have := cntA_le l "back"; unfold mbA; omega
    have w2 : maA (delA l i) l ≤ 9 := by have := cntA_le (delA l i) "forward"; have := cntA_le l "forward"; unfold maA; omega
    rw [alike_eq od.2 ol.2 9 w1 w2, q9] at fa
    have de := del_eval (σ := [s0, some (.ref 2), some (enc poolxy), s3, some (enc l), s5, s6, some (.int (i : Nat)), s8, s9]) (M := M0 ++ [.lst m]) (l := l) (k := i) (i := 4) (j := 7) (by omega) rfl rfl
    refine ⟨[s0, some (.ref 2), some (enc poolxy), s3, some (enc l), s5, s6, some (.int (i : Nat)), s8, s9], rfl, ?_, rfl⟩
    simp only [tB_eq, eN_eq, eArgs_cons, eArgs_nil, de, eV_eq, eL_eq, List.getD_cons_zero, List.getD_cons_succ, Option.map_some, Option.bind_some, fa])
  have rd : (List.range l.length).filter (fun i => (diffR (delA l i) l).isNone) = R := by rw [hR]; rfl
  rw [rd, ← hM1] at due
  have m1 : M1[M0.length]? = some (.lst (R.map enc)) := by rw [hM1]; simp
  have sl : small62 ((l.length : Nat) : Int) = true := small62_of (by omega)
  have pl : ∀ M : Mem, pLen [enc l] M = some (.int (l.length : Nat), M) := fun M => by rw [enc_list, pLen_tup, List.length_map]
  have f2 := red_ok M1 ol
  rw [← hR] at f2
  obtain ⟨M2, hM2⟩ : ∃ M2, M2 = M1 ++ [MO.lst (R.map enc)] := ⟨_, rfl⟩
  rw [← hM2] at f2
  have m2 : M2[M0.length]? = some (.lst (R.map enc)) := by rw [hM2]; exact up_app m1
  have m2' : M2[M1.length]? = some (.lst (R.map enc)) := by rw [hM2]; simp
  have lk := like_lst 7 M1.length M0.length R R M2 m2' m2 (by decide) (by decide) (fun _ _ => rfl) (fun _ _ => rfl) (by omega)
  rw [decide_eq_true rfl] at lk
  have b0 : (R.map (enc (α := Nat)) : List W).length < 16777216 := by rw [List.length_map]; omega
  have il : isLst M2 (.ref M1.length) = true := by simp [m2']
  obtain ⟨M3, hM3⟩ : ∃ M3, M3 = M2.set M1.length (.lst (R.map enc ++ [.non])) := ⟨_, rfl⟩
  have ap : mAppend [.ref M1.length, .non] M2 = some (.non, M3) := by
    rw [mAppend_ref, m2']
    simp only [if_pos b0]
    rw [hM3]
  have ne : M1.length ≠ M0.length := by rw [hM1]; simp
  have m3 : M3[M0.length]? = some (.lst (R.map enc)) := by rw [hM3, List.getElem?_set_ne ne]; exact m2
  have f3 := red_ok M3 ol
  rw [← hR] at f3
  obtain ⟨M4, hM4⟩ : ∃ M4, M4 = M3 ++ [MO.lst (R.map enc)] := ⟨_, rfl⟩
  rw [← hM4] at f3
  have m4 : M4[M0.length]? = some (.lst (R.map enc)) := by rw [hM4]; exact up_app m3
  have eq := eqW_lst M4 M3.length M0.length R R (by rw [hM4]; simp) m4
  rw [decide_eq_true rfl] at eq
  have key := forL_ind (gd := gdT) (g := gT [(gV 7), (gT [(gV 8), (gV 9)])]) (body := b2_law_k11) (enumW (zipW (l.map enc) ((l.drop 1).map enc))) (fun _ σ M' => M' = M4 ∧ ∃ s7 s8 s9, σ = [s0, some (.ref 2), some (enc poolxy), s3, some (enc l), some (.ref M0.length), some (.ref M1.length), s7, s8, s9])
    (σ := [s0, some (.ref 2), some (enc poolxy), s3, some (enc l), some (.ref M0.length), some (.ref M1.length), s7, s8, s9]) (M := M4) ⟨rfl, _, _, _, rfl⟩ (fun _ _ _ _ => rfl) (by
    rintro i w σ M' hw ⟨rfl, t7, t8, t9, rfl⟩
    obtain ⟨q, hq, rfl⟩ := enumW_get hw
    obtain ⟨x, y, hx, hy, rfl⟩ := zipW_get hq
    rw [List.getElem?_map] at hx hy
    obtain ⟨a, ha, rfl⟩ := Option.map_eq_some_iff.mp hx
    obtain ⟨b, hb, rfl⟩ := Option.map_eq_some_iff.mp hy
    rw [List.getElem?_drop, Nat.add_comm] at hb
    have pa : plain a = true := List.all_eq_true.mp p1 _ (List.mem_of_getElem? ha)
    refine ⟨[s0, some (.ref 2), some (enc poolxy), s3, some (enc l), some (.ref M0.length), some (.ref M1.length), some (.int (i : Nat)), some (enc a), some (enc b)], rfl, _, M', .inl ?_, rfl, some (.int (i : Nat)), some (enc a), some (enc b), rfl⟩
    have fw : (eTup [(eL (.str "forward"))]) [s0, some (.ref 2), some (enc poolxy), s3, some (enc l), some (.ref M0.length), some (.ref M1.length), some (.int (i : Nat)), some (enc a), some (enc b)] M' = some (enc Act.forward, M') := rfl
    have e2' := eqW_enc M' b Act.forward (by decide)
    have nin : ((((i : Nat) : Int) + 1) : Int) = ((i + 1 : Nat) : Int) := by omega
    have ni := gNotInD_enc M' M0.length R (i + 1) m4
    have en : (enc (i + 1 : Nat) : W) = .int ((i : Nat) + 1 : Int) := by rw [nin]; rfl
    rw [en] at ni
    show (sIf (tAnd (tB (e2 gEq (e2 gIx (eV 8) (eL (.int 0))) (eL (.str "visit")))) (tAnd (tB (e2 gEq (eV 9) (eTup [(eL (.str "forward"))]))) (tB (e2 gNotInD (e2 gAdd (eV 7) (eL (.int 1))) (eV 5))))) (sRet (eL (.bl false))) sNil) [s0, some (.ref 2), some (enc poolxy), s3, some (enc l), some (.ref M0.length), some (.ref M1.length), some (.int (i : Nat)), some (enc a), some (enc b)] M' = _
    have word : ∃ x : Str, gIx M' (enc a) (.int 0) = some (.str x, M') ∧ ((eqW M' (.str x) (.str "visit") = some true ∧ ∃ p, a = .visit p) ∨ eqW M' (.str x) (.str "visit") = some false) := by
      cases a with
      | visit p => exact ⟨"visit", by rw [enc_visit]; simp, .inl ⟨by have := eqW_enc M' ("visit" : Str) "visit" (by decide); simpa using this, p, rfl⟩⟩
      | back => exact ⟨"back", by rw [enc_back]; simp, .inr (by have := eqW_enc M' ("back" : Str) "visit" (by decide); rw [decide_eq_false (by decide)] at this; exact this)⟩
      | forward => exact ⟨"forward", by rw [enc_forward]; simp, .inr (by have := eqW_enc M' ("forward" : Str) "visit" (by decide); rw [decide_eq_false (by decide)] at this; exact this)⟩
      | go i => cases pa
    obtain ⟨x, w1, ⟨w2, p, rfl⟩ | w2⟩ := word
    · by_cases hf : b = .forward
      · subst hf
        rw [decide_eq_true rfl] at e2'
        rw [hR, decide_eq_true (red_forward ol ha hb)] at ni
        simp only [sIf_eq, tAnd_eq, tB_eq, e2_eq, fw, eV_eq, eL_eq, List.getD_cons_zero, List.getD_cons_succ, Option.map_some, Option.bind_some, w1, gEq_eq, w2, if_true, e2', gAdd_int, ni, Bool.not_true, Bool.false_eq_true, if_false, sNil_eq]
      · rw [decide_eq_false hf] at e2'
        simp only [sIf_eq, tAnd_eq, tB_eq, e2_eq gEq, e2_eq gIx, fw, eV_eq, eL_eq, List.getD_cons_zero, List.getD_cons_succ, Option.map_some, Option.bind_some, w1, gEq_eq, w2, if_true, e2', Bool.false_eq_true, if_false, sNil_eq]
    · simp only [sIf_eq, tAnd_eq, tB_eq, e2_eq gEq, e2_eq gIx, eV_eq, eL_eq, List.getD_cons_zero, List.getD_cons_succ, Option.map_some, Option.bind_some, w1, gEq_eq, w2, Bool.false_eq_true, if_false, sNil_eq])
  obtain ⟨σ', M5, el, rfl, t7, t8, t9, rfl⟩ := key
  have pre : TM ns s1 g <+: M5 := by
    rw [← hM0, hM4, hM3]
    refine (keep_set ?_ (by rw [hM1]; simp)).trans (List.prefix_append _ _)
    rw [hM2, hM1]
    exact (List.prefix_append _ _).trans (List.prefix_append _ _)
  obtain ⟨g', hg'⟩ := TM_pre pre
  refine ⟨[s0, some (.ref 2), some (enc poolxy), s3, some (enc l), some (.ref M0.length), some (.ref M1.length), t7, t8, t9], s1, g ++ g', ?_, rfl, rfl, rfl⟩
  rw [← hg']
  have z1 : (sSet (gV 4) (eN F__law_script [(eV 1), (eL (.int 9)), (eV 2)])) [s0, some (.ref 2), some (enc poolxy), s3, s4, s5, s6, s7, s8, s9] (TM ns s g) = some (.nx [s0, some (.ref 2), some (enc poolxy), s3, some (enc l), s5, s6, s7, s8, s9] M0) := by
    simp only [sSet_eq, eN_eq, eArgs_cons, eArgs_nil, eV_eq, eL_eq, gV_eq, List.set_cons_zero, List.set_cons_succ, List.getD_cons_zero, List.getD_cons_succ, Option.map_some, Option.bind_some, f1]
  have z2 : (sSet (gV 5) (eLc (iRange1 (eN pLen [(eV 4)])) (gV 7) (tB (eN F__law_alike [(e2 gAdd (eSl (eV 4) none (some (eV 7))) (eSl (eV 4) (some (e2 gAdd (eV 7) (eL (.int 1)))) none)), (eV 4), (eL (.int 9))])) (eV 7) [7])) [s0, some (.ref 2), some (enc poolxy), s3, some (enc l), s5, s6, s7, s8, s9] M0 = some (.nx [s0, some (.ref 2), some (enc poolxy), s3, some (enc l), some (.ref M0.length), s6, s7, s8, s9] M1) := by
    simp only [sSet_eq, eLc_eq, iRange1_eq, eN_eq pLen, eArgs_cons, eArgs_nil, eV_eq, gV_eq, List.set_cons_zero, List.set_cons_succ, List.getD_cons_zero, List.getD_cons_succ, Option.map_some, Option.bind_some, pl, sl, if_true, Int.toNat_natCast, due]
  have z3 : (sSet (gV 6) (eN F_redundant_steps [(eV 4)])) [s0, some (.ref 2), some (enc poolxy), s3, some (enc l), some (.ref M0.length), s6, s7, s8, s9] M1 = some (.nx [s0, some (.ref 2), some (enc poolxy), s3, some (enc l), some (.ref M0.length), some (.ref M1.length), s7, s8, s9] M2) := by
    simp only [sSet_eq, eN_eq, eArgs_cons, eArgs_nil, eV_eq, gV_eq, List.set_cons_zero, List.set_cons_succ, List.getD_cons_zero, List.getD_cons_succ, Option.map_some, Option.bind_some, f2]
  have z4 : (sIf (tNot (tB (eN (F__law_like 8) [(eV 6), (eV 5)]))) (sRet (eL (.bl false))) sNil) [s0, some (.ref 2), some (enc poolxy), s3, some (enc l), some (.ref M0.length), some (.ref M1.length), s7, s8, s9] M2 = some (.nx [s0, some (.ref 2), some (enc poolxy), s3, some (enc l), some (.ref M0.length), some (.ref M1.length), s7, s8, s9] M2) := by
    simp only [sIf_eq, tNot_eq, tB_eq, eN_eq, eArgs_cons, eArgs_nil, eV_eq, List.getD_cons_zero, List.getD_cons_succ, Option.map_some, Option.bind_some, lk, Bool.not_true, Bool.false_eq_true, if_false, sNil_eq]
  have z5 : (sExpr (eML mAppend (eV 6) [(eL .non)])) [s0, some (.ref 2), some (enc poolxy), s3, some (enc l), some (.ref M0.length), some (.ref M1.length), s7, s8, s9] M2 = some (.nx [s0, some (.ref 2), some (enc poolxy), s3, some (enc l), some (.ref M0.length), some (.ref M1.length), s7, s8, s9] M3) := by
    simp only [sExpr_eq, eML_eq, eArgs_cons, eArgs_nil, eV_eq, eL_eq, List.getD_cons_zero, List.getD_cons_succ, Option.map_some, Option.bind_some, il, if_true, ap]
  have z6 : (sIf (tB (e2 gNe (eN F_redundant_steps [(eV 4)]) (eV 5))) (sRet (eL (.bl false))) sNil) [s0, some (.ref 2), some (enc poolxy), s3, some (enc l), some (.ref M0.length), some (.ref M1.length), s7, s8, s9] M3 = some (.nx [s0, some (.ref 2), some (enc poolxy), s3, some (enc l), some (.ref M0.length), some (.ref M1.length), s7, s8, s9] M5) := by
    simp only [sIf_eq, tB_eq, e2_eq, eN_eq, eArgs_cons, eArgs_nil, eV_eq, List.getD_cons_zero, List.getD_cons_succ, Option.map_some, Option.bind_some, f3, gNe_eq, eq, Bool.not_true, Bool.false_eq_true, if_false, sNil_eq]
  have z7 : (sFor (iEnumZ (eV 4) (eSl (eV 4) (some (eL (.int 1))) none)) (gT [(gV 7), (gT [(gV 8), (gV 9)])]) b2_law_k11) [s0, some (.ref 2), some (enc poolxy), s3, some (enc l), some (.ref M0.length), some (.ref M1.length), s7, s8, s9] M5 = some (.nx [s0, some (.ref 2), some (enc poolxy), s3, some (enc l), some (.ref M0.length), some (.ref M1.length), t7, t8, t9] M5) := by
    have cd : cutW (l.map (enc (α := Act)) : List W) (some 1) none = (l.drop 1).map enc := by
      have := cutW_lo (l.map (enc (α := Act)) : List W) 1
      rw [← List.map_drop] at this
      exact this
    have it : iEnumZ (eV 4) (eSl (eV 4) (some (eL (.int 1))) none) [s0, some (.ref 2), some (enc poolxy), s3, some (enc l), some (.ref M0.length), some (.ref M1.length), s7, s8, s9] M5 = some (enumW (zipW (l.map enc) ((l.drop 1).map enc)), gdT, M5) := by
      rw [iEnumZ_eq]
      simp only [eSl_eq, ePart_some, ePart_none, eV_eq, eL_eq, List.getD_cons_zero, List.getD_cons_succ, Option.map_some, Option.bind_some, enc_list, gSl_tup, cd]
    rw [sFor_eq, it, Option.bind_some]
    exact el
  have hb : b1_law_k11 = sSeq (sSet (gV 4) (eN F__law_script [(eV 1), (eL (.int 9)), (eV 2)])) (sSeq (sSet (gV 5) (eLc (iRange1 (eN pLen [(eV 4)])) (gV 7) (tB (eN F__law_alike [(e2 gAdd (eSl (eV 4) none (some (eV 7))) (eSl (eV 4) (some (e2 gAdd (eV 7) (eL (.int 1)))) none)), (eV 4), (eL (.int 9))])) (eV 7) [7]))
    (sSeq (sSet (gV 6) (eN F_redundant_steps [(eV 4)])) (sSeq (sIf (tNot (tB (eN (F__law_like 8) [(eV 6), (eV 5)]))) (sRet (eL (.bl false))) sNil)
    (sSeq (sExpr (eML mAppend (eV 6) [(eL .non)])) (sSeq (sIf (tB (e2 gNe (eN F_redundant_steps [(eV 4)]) (eV 5))) (sRet (eL (.bl false))) sNil)
    (sFor (iEnumZ (eV 4) (eSl (eV 4) (some (eL (.int 1))) none)) (gT [(gV 7), (gT [(gV 8), (gV 9)])]) b2_law_k11)))))) := rfl
  rw [hb, sSeq_eq, z1, Option.bind_some]
  simp only []
  rw [sSeq_eq, z2, Option.bind_some]
  simp only []
  rw [sSeq_eq, z3, Option.bind_some]
  simp only []
  rw [sSeq_eq, z4, Option.bind_some]
  simp only []
  rw [sSeq_eq, z5, Option.bind_some]
  simp only []
  rw [sSeq_eq, z6, Option.bind_some]
  simp only []
  exact z7
theorem keeps_law_k11 : Keeps 10 c_law_k11 lawF := law_shape (K := 4) (pl := poolxy) rfl (fun σ M => rfl) (by decide) fun ns s g σ hl h1 h2 => by
  match σ, hl, h1, h2 with
  | [s0, s1, s2, s3, s4, s5, s6, s7, s8, s9], _, h1, h2 =>
    cases h1; cases h2
    exact turn_k11 ns s g s0 s3 s4 s5 s6 s7 s8 s9
end
end BF

namespace BF
open PySem PySem.Spec
open PyProof.Rows L2
/-! ### the text of k11 -/
def topS (i : Nat) : Stmt := PySem.Challenge.pw_backforward_k11_redundant_steps.main.body.getD i (.Pass ⟨0, 0, 0, 0⟩)
abbrev s__law_draw : Stmt := topS 10
theorem sc__law_draw : FnScope N__law_draw ["tape", "many"] (defScope s__law_draw) := ⟨rfl, rfl, rfl, by decide +kernel, rfl, by decide +kernel, by decide +kernel⟩
theorem bi__law_draw : BindsAll "_law_draw" s__law_draw ["tape", "many"] := fun _ _ _ _ _ _ us hl => match us, hl with | [_, _], _ => rfl
abbrev s__law_action : Stmt := topS 12
theorem sc__law_action : FnScope N__law_action ["tape", "pool"] (defScope s__law_action) := ⟨rfl, rfl, rfl, by decide +kernel, rfl, by decide +kernel, by decide +kernel⟩
theorem bi__law_action : BindsAll "_law_action" s__law_action ["tape", "pool"] := fun _ _ _ _ _ _ us hl => match us, hl with | [_, _], _ => rfl
abbrev s__law_script : Stmt := topS 13
theorem sc__law_script : FnScope N__law_script ["tape", "most", "pool"] (defScope s__law_script) := ⟨rfl, rfl, rfl, by decide +kernel, rfl, by decide +kernel, by decide +kernel⟩
theorem bi__law_script : BindsAll "_law_script" s__law_script ["tape", "most", "pool"] := fun _ _ _ _ _ _ us hl => match us, hl with | [_, _, _], _ => rfl
abbrev s__law_step : Stmt := topS 14
theorem sc__law_step : FnScope N__law_step ["history", "action"] (defScope s__law_step) := ⟨rfl, rfl, rfl, by decide +kernel, rfl, by decide +kernel, by decide +kernel⟩
theorem bi__law_step : BindsAll "_law_step" s__law_step ["history", "action"] := fun _ _ _ _ _ _ us hl => match us, hl with | [_, _], _ => rfl
abbrev s__law_run : Stmt := topS 15
theorem sc__law_run : FnScope N__law_run ["history", "script"] (defScope s__law_run) := ⟨rfl, rfl, rfl, by decide +kernel, rfl, by decide +kernel, by decide +kernel⟩
theorem bi__law_run : BindsAll "_law_run" s__law_run ["history", "script"] := fun _ _ _ _ _ _ us hl => match us, hl with | [_, _], _ => rfl
abbrev s__law_alike : Stmt := topS 16
theorem sc__law_alike : FnScope N__law_alike ["first", "second", "most"] (defScope s__law_alike) := ⟨rfl, rfl, rfl, by decide +kernel, rfl, by decide +kernel, by decide +kernel⟩
theorem bi__law_alike : BindsAll "_law_alike" s__law_alike ["first", "second", "most"] := fun _ _ _ _ _ _ us hl => match us, hl with | [_, _, _], _ => rfl
abbrev s_count_actions : Stmt := topS 4
theorem sc_count_actions : FnScope N_count_actions ["script", "word"] (defScope s_count_actions) := ⟨rfl, rfl, rfl, by decide +kernel, rfl, by decide +kernel, by decide +kernel⟩
theorem bi_count_actions : BindsAll "count_actions" s_count_actions ["script", "word"] := fun _ _ _ _ _ _ us hl => match us, hl with | [_, _], _ => rfl
abbrev s_after : Stmt := topS 1
theorem sc_after : FnScope N_after ["history", "action"] (defScope s_after) := ⟨rfl, rfl, rfl, by decide +kernel, rfl, by decide +kernel, by decide +kernel⟩
theorem bi_after : BindsAll "after" s_after ["history", "action"] := fun _ _ _ _ _ _ us hl => match us, hl with | [_, _], _ => rfl
abbrev s_apply : Stmt := topS 2
theorem sc_apply : FnScope N_apply ["history", "script"] (defScope s_apply) := ⟨rfl, rfl, rfl, by decide +kernel, rfl, by decide +kernel, by decide +kernel⟩
theorem bi_apply : BindsAll "apply" s_apply ["history", "script"] := fun _ _ _ _ _ _ us hl => match us, hl with | [_, _], _ => rfl
abbrev s_differs : Stmt := topS 5
theorem sc_differs : FnScope N_differs ["first", "second", "behind", "ahead"] (defScope s_differs) := ⟨rfl, rfl, rfl, by decide +kernel, rfl, by decide +kernel, by decide +kernel⟩
theorem bi_differs : BindsAll "differs" s_differs ["first", "second", "behind", "ahead"] := fun _ _ _ _ _ _ us hl => match us, hl with | [_, _, _, _], _ => rfl
abbrev s_difference : Stmt := topS 6
theorem sc_difference : FnScope N_difference ["first", "second"] (defScope s_difference) := ⟨rfl, rfl, rfl, by decide +kernel, rfl, by decide +kernel, by decide +kernel⟩
theorem bi_difference : BindsAll "difference" s_difference ["first", "second"] := fun _ _ _ _ _ _ us hl => match us, hl with | [_, _], _ => rfl
abbrev s_equal : Stmt := topS 7
theorem sc_equal : FnScope N_equal ["first", "second"] (defScope s_equal) := ⟨rfl, rfl, rfl, by decide +kernel, rfl, by decide +kernel, by decide +kernel⟩
theorem bi_equal : BindsAll "equal" s_equal ["first", "second"] := fun _ _ _ _ _ _ us hl => match us, hl with | [_, _], _ => rfl
abbrev s_redundant_steps : Stmt := topS 8
theorem sc_redundant_steps : FnScope N_redundant_steps ["script"] (defScope s_redundant_steps) := ⟨rfl, rfl, rfl, by decide +kernel, rfl, by decide +kernel, by decide +kernel⟩
theorem bi_redundant_steps : BindsAll "redundant_steps" s_redundant_steps ["script"] := fun _ _ _ _ _ _ us hl => match us, hl with | [_], _ => rfl
abbrev s__law_like : Stmt := topS 11
theorem sc__law_like : FnScope N__law_like ["one", "two"] (defScope s__law_like) := ⟨rfl, rfl, rfl, by decide +kernel, rfl, by decide +kernel, by decide +kernel⟩
theorem bi__law_like : BindsAll "_law_like" s__law_like ["one", "two"] := fun _ _ _ _ _ _ us hl => match us, hl with | [_, _], _ => rfl
abbrev s_law : Stmt := topS 17
theorem sc_law : FnScope N_law_k11 ["script"] (defScope s_law) := ⟨rfl, rfl, rfl, by decide +kernel, rfl, by decide +kernel, by decide +kernel⟩
theorem bi_law : BindsAll "law" s_law ["script"] := fun _ _ _ _ _ _ us hl => match us, hl with | [_], _ => rfl
section
variable {P : Program} {w : World} {K : PySem.W.Frag} {mg : Str → Option Value} {base : Heap}
theorem kn__law_draw (D : DefAt K mg "_law_draw" s__law_draw) (z_len : mg "len" = none) : Known P w K mg base 1 "_law_draw" ["tape", "many"] F__law_draw :=
  known D sc__law_draw bi__law_draw keeps__law_draw fun f cdv A outer s H E hr =>
  (ss_cons (s_set 2 sc__law_draw.nd r_int)
  (ss_cons (s_if (t_cmp op_lt l_lt (r_ix ix_seq l_ix (r_var 0) r_int) (r_var 1) (nomark _)) (ss_cons (s_set 3 sc__law_draw.nd r_int)
  (ss_cons (s_if (t_cmp op_gt l_gt (r_callB call_len_seq n_len (by rfl) z_len (by decide +kernel) (a_cons (r_ix ix_seq l_ix (r_var 0) r_int) a_nil)) r_int (nomark _)) (ss_one (s_set 3 sc__law_draw.nd (r_ix ix_seq l_ix (r_ix ix_seq l_ix (r_var 0) r_int) (r_op op_mod l_mod (r_ix ix_seq l_ix (r_var 0) r_int) (r_callB call_len_seq n_len (by rfl) z_len (by decide +kernel) (a_cons (r_ix ix_seq l_ix (r_var 0) r_int) a_nil)))))) ss_nil)
  (ss_cons (s_if (t_w (w_or (t_cmp op_ge l_ge (r_ix ix_seq l_ix (r_var 0) r_int) (r_callB call_len_seq n_len (by rfl) z_len (by decide +kernel) (a_cons (r_ix ix_seq l_ix (r_var 0) r_int) a_nil)) (nomark _)) (w_one (t_cmp op_lt l_lt (r_var 3) (r_op op_pow l_pow r_int r_int) (nomark _))))) (ss_cons (s_set 3 sc__law_draw.nd (r_op op_mod l_mod (r_op o_add l_add (r_var 3) (r_op op_mul l_mul r_int (r_ix ix_seq l_ix (r_var 0) r_int))) (r_var 2)))
  (ss_cons (s_set 3 sc__law_draw.nd (r_op op_mod l_mod (r_op o_add l_add (r_op o_add l_add (r_op op_mul l_mul (r_var 3) (r_var 3)) (r_op op_mul l_mul r_int (r_var 3))) r_int) (r_var 2)))
  (ss_one (s_set 3 sc__law_draw.nd (r_op op_mod l_mod (r_op o_add l_add (r_op op_mul l_mul (r_var 3) (r_var 3)) r_int) (r_var 2)))))) ss_nil)
  (ss_cons (s_put set_list p_lst (r_op o_add l_add (r_ix ix_seq l_ix (r_var 0) r_int) r_int) (r_var 0) r_int)
  (ss_one (s_put set_list p_lst (r_var 3) (r_var 0) r_int)))))) ss_nil)
  (ss_cons (s_set 4 sc__law_draw.nd (r_op op_mod l_mod (r_ix ix_seq l_ix (r_var 0) r_int) (r_var 1)))
  (ss_cons (s_put set_list p_lst (r_op op_fdivW l_div (r_ix ix_seq l_ix (r_var 0) r_int) (r_var 1)) (r_var 0) r_int)
  (ss_one (s_ret (r_var 4)))))))
theorem kn__law_action (D : DefAt K mg "_law_action" s__law_action) (G__law_draw : Known P w K mg base 1 "_law_draw" ["tape", "many"] F__law_draw) (z_len : mg "len" = none) : Known P w K mg base 2 "_law_action" ["tape", "pool"] F__law_action :=
  known D sc__law_action bi__law_action keeps__law_action fun f cdv A outer s H E hr =>
  (ss_cons (s_set 2 sc__law_action.nd (r_callK G__law_draw (hr.mono (by decide)) (by rfl) (a_cons (r_var 0) (a_cons r_int a_nil))))
  (ss_one (s_ret (r_ix ix_seq l_ix (r_lst (a_cons (r_tup (a_cons r_str a_nil)) (a_cons (r_tup (a_cons r_str a_nil)) (a_cons (r_tup (a_cons r_str a_nil)) (a_cons (r_tup (a_cons r_str (a_cons (r_ix ix_seq l_ix (r_var 1) (r_callK G__law_draw (hr.mono (by decide)) (by rfl) (a_cons (r_var 0) (a_cons (r_callB call_len_seq n_len (by rfl) z_len (by decide +kernel) (a_cons (r_var 1) a_nil)) a_nil)))) a_nil))) a_nil))))) (r_var 2)))))
theorem kn__law_script (D : DefAt K mg "_law_script" s__law_script) (G__law_draw : Known P w K mg base 1 "_law_draw" ["tape", "many"] F__law_draw) (G__law_action : Known P w K mg base 2 "_law_action" ["tape", "pool"] F__law_action) (z_tuple : mg "tuple" = none) (z_range : mg "range" = none) : Known P w K mg base 3 "_law_script" ["tape", "most", "pool"] F__law_script :=
  known D sc__law_script bi__law_script keeps__law_script fun f cdv A outer s H E hr =>
  (ss_one (s_ret (r_callTy call_tuple_of n_tuple (by rfl) z_tuple (by decide +kernel) (a_cons (r_lc (own := [("k", 3)]) sc__law_script.nd (i_range1 (by rfl) z_range (a_cons (r_callK G__law_draw (hr.mono (by decide)) (by rfl) (a_cons (r_var 0) (a_cons (r_op o_add l_add (r_var 1) r_int) a_nil))) a_nil)) (by kernel_rfl) (fun _ _ _ _ _ => (gw_name 3 sc__law_script.nd)) (fun _ _ _ _ _ => ts_nil) (fun _ _ _ _ _ => (r_callK G__law_action (hr.mono (by decide)) (by rfl) (a_cons (r_var 0) (a_cons (r_var 2) a_nil))))) a_nil))))
theorem kn__law_step (D : DefAt K mg "_law_step" s__law_step) (z_list : mg "list" = none) (z_tuple : mg "tuple" = none) (z_len : mg "len" = none) : Known P w K mg base 1 "_law_step" ["history", "action"] F__law_step :=
  known D sc__law_step bi__law_step keeps__law_step fun f cdv A outer s H E hr =>
  (ss_cons (s_asg (r_var 0) (g_tup rfl (gs_cons (g_name 2 sc__law_step.nd) (gs_cons (g_name 3 sc__law_step.nd) gs_nil))))
  (ss_cons (s_par2 4 5 rfl sc__law_step.nd (a_cons (r_callTy call_list_of n_list (by rfl) z_list (by decide +kernel) (a_cons (r_sl o_sl l_sl (r_var 2) o_none (o_some (r_var 3))) a_nil)) (a_cons (r_callTy call_list_of n_list (by rfl) z_list (by decide +kernel) (a_cons (r_sl o_sl l_sl (r_var 2) (o_some (r_op o_add l_add (r_var 3) r_int)) o_none) a_nil)) a_nil)))
  (ss_cons (s_set 6 sc__law_step.nd (r_ix ix_seq l_ix (r_var 2) (r_var 3)))
  (ss_cons (s_if (t_cmp (op_eqD (hu64 hr)) l_eq (r_ix ix_seq l_ix (r_var 1) r_int) r_str (nomark _)) (ss_one (s_par3 4 6 5 rfl sc__law_step.nd (a_cons (r_op o_add l_add (r_var 4) (r_lst (a_cons (r_var 6) a_nil))) (a_cons (r_ix ix_seq l_ix (r_var 1) r_int) (a_cons (r_lst a_nil) a_nil))))) (ss_one (s_if (t_w (w_and (t_cmp (op_eqD (hu64 hr)) l_eq (r_ix ix_seq l_ix (r_var 1) r_int) r_str (nomark _)) (w_one (t_cmp (op_neD (hu64 hr)) l_ne (r_var 4) (r_lst a_nil) (nomark _))))) (ss_cons (s_set 5 sc__law_step.nd (r_op o_add l_add (r_lst (a_cons (r_var 6) a_nil)) (r_var 5)))
  (ss_one (s_set 6 sc__law_step.nd (r_meth0 PySem.F.slot_list_pop PySem.F.type_list_pop mt_pop m_pop (r_var 4))))) (ss_one (s_if (t_w (w_and (t_cmp (op_eqD (hu64 hr)) l_eq (r_ix ix_seq l_ix (r_var 1) r_int) r_str (nomark _)) (w_one (t_cmp (op_neD (hu64 hr)) l_ne (r_var 5) (r_lst a_nil) (nomark _))))) (ss_cons (s_set 4 sc__law_step.nd (r_op o_add l_add (r_var 4) (r_lst (a_cons (r_var 6) a_nil))))
  (ss_one (s_set 6 sc__law_step.nd (r_meth PySem.F.slot_list_pop PySem.F.type_list_pop mt_popAt m_popAt (r_var 5) (a_cons r_int a_nil))))) ss_nil)))))
  (ss_one (s_ret (r_tup (a_cons (r_callTy call_tuple_of n_tuple (by rfl) z_tuple (by decide +kernel) (a_cons (r_op o_add l_add (r_op o_add l_add (r_var 4) (r_lst (a_cons (r_var 6) a_nil))) (r_var 5)) a_nil)) (a_cons (r_callB call_len_seq n_len (by rfl) z_len (by decide +kernel) (a_cons (r_var 4) a_nil)) a_nil)))))))))
theorem kn__law_run (D : DefAt K mg "_law_run" s__law_run) (G__law_step : Known P w K mg base 1 "_law_step" ["history", "action"] F__law_step) : Known P w K mg base 2 "_law_run" ["history", "script"] F__law_run :=
  known D sc__law_run bi__law_run keeps__law_run fun f cdv A outer s H E hr =>
  (ss_cons (s_for (i_tup (r_var 1)) (g_name 2 sc__law_run.nd) (ss_one (s_set 0 sc__law_run.nd (r_callK G__law_step (hr.mono (by decide)) (by rfl) (a_cons (r_var 0) (a_cons (r_var 2) a_nil))))))
  (ss_one (s_ret (r_var 0))))
theorem kn__law_alike (D : DefAt K mg "_law_alike" s__law_alike) (G__law_run : Known P w K mg base 2 "_law_run" ["history", "script"] F__law_run) (z_range : mg "range" = none) (z_tuple : mg "tuple" = none) : Known P w K mg base 3 "_law_alike" ["first", "second", "most"] F__law_alike :=
  known D sc__law_alike bi__law_alike keeps__law_alike fun f cdv A outer s H E hr =>
  (ss_cons (s_for (i_range1 (by rfl) z_range (a_cons (r_op o_add l_add (r_var 2) r_int) a_nil)) (g_name 3 sc__law_alike.nd) (ss_one (s_for (i_range1 (by rfl) z_range (a_cons (r_op o_add l_add (r_var 2) r_int) a_nil)) (g_name 4 sc__law_alike.nd) (ss_cons (s_set 5 sc__law_alike.nd (r_tup (a_cons (r_tupRg (by rfl) z_tuple (by rfl) z_range (r_op o_add l_add (r_op o_add l_add (r_var 3) r_int) (r_var 4))) (a_cons (r_var 3) a_nil))))
  (ss_one (s_if (t_cmp (op_neD (hu64 hr)) l_ne (r_callK G__law_run (hr.mono (by decide)) (by rfl) (a_cons (r_var 5) (a_cons (r_var 0) a_nil))) (r_callK G__law_run (hr.mono (by decide)) (by rfl) (a_cons (r_var 5) (a_cons (r_var 1) a_nil))) (nomark _)) (ss_one (s_ret r_bl)) ss_nil))))))
  (ss_one (s_ret r_bl)))
theorem kn_count_actions (D : DefAt K mg "count_actions" s_count_actions) (z_len : mg "len" = none) : Known P w K mg base 1 "count_actions" ["script", "word"] F_count_actions :=
  known D sc_count_actions bi_count_actions keeps_count_actions fun f cdv A outer s H E hr =>
  (ss_one (s_ret (r_callB call_len_seq n_len (by rfl) z_len (by decide +kernel) (a_cons (r_lc (own := [("action", 2)]) sc_count_actions.nd (i_tup (r_var 0)) (by kernel_rfl) (fun _ _ _ _ _ => (gw_name 2 sc_count_actions.nd)) (fun _ _ _ _ _ => (ts_one (t_cmp (op_eqD (hu64 hr)) l_eq (r_ix ix_seq l_ix (r_var 2) r_int) (r_var 1) (nomark _)))) (fun _ _ _ _ _ => (r_var 2))) a_nil))))
theorem kn_after (D : DefAt K mg "after" s_after) (z_max : mg "max" = none) (z_min : mg "min" = none) (z_len : mg "len" = none) : Known P w K mg base 1 "after" ["history", "action"] F_after :=
  known D sc_after bi_after keeps_after fun f cdv A outer s H E hr =>
  (ss_cons (s_asg (r_var 0) (g_tup rfl (gs_cons (g_name 2 sc_after.nd) (gs_cons (g_name 3 sc_after.nd) gs_nil))))
  (ss_cons (s_if (t_cmp (op_eqD (hu64 hr)) l_eq (r_ix ix_seq l_ix (r_var 1) r_int) r_str (nomark _)) (ss_one (s_ret (r_tup (a_cons (r_op o_add l_add (r_sl o_sl l_sl (r_var 2) o_none (o_some (r_op o_add l_add (r_var 3) r_int))) (r_tup (a_cons (r_ix ix_seq l_ix (r_var 1) r_int) a_nil))) (a_cons (r_op o_add l_add (r_var 3) r_int) a_nil))))) ss_nil)
  (ss_cons (s_if (t_cmp (op_eqD (hu64 hr)) l_eq (r_ix ix_seq l_ix (r_var 1) r_int) r_str (nomark _)) (ss_one (s_ret (r_tup (a_cons (r_var 2) (a_cons (r_callB (call_max2 rfl) n_max (by rfl) z_max (by decide +kernel) (a_cons r_int (a_cons (r_op op_sub l_sub (r_var 3) r_int) a_nil))) a_nil))))) ss_nil)
  (ss_one (s_ret (r_tup (a_cons (r_var 2) (a_cons (r_callB (call_min2 rfl) n_min (by rfl) z_min (by decide +kernel) (a_cons (r_op op_sub l_sub (r_callB call_len_seq n_len (by rfl) z_len (by decide +kernel) (a_cons (r_var 2) a_nil)) r_int) (a_cons (r_op o_add l_add (r_var 3) r_int) a_nil))) a_nil))))))))
theorem kn_apply (D : DefAt K mg "apply" s_apply) (G_after : Known P w K mg base 1 "after" ["history", "action"] F_after) : Known P w K mg base 2 "apply" ["history", "script"] F_apply :=
  known D sc_apply bi_apply keeps_apply fun f cdv A outer s H E hr =>
  (ss_cons (s_for (i_tup (r_var 1)) (g_name 2 sc_apply.nd) (ss_one (s_set 0 sc_apply.nd (r_callK G_after (hr.mono (by decide)) (by rfl) (a_cons (r_var 0) (a_cons (r_var 2) a_nil))))))
  (ss_one (s_ret (r_var 0))))
theorem kn_differs (D : DefAt K mg "differs" s_differs) (G_apply : Known P w K mg base 2 "apply" ["history", "script"] F_apply) (z_tuple : mg "tuple" = none) (z_range : mg "range" = none) : Known P w K mg base 3 "differs" ["first", "second", "behind", "ahead"] F_differs :=
  known D sc_differs bi_differs keeps_differs fun f cdv A outer s H E hr =>
  (ss_cons (s_set 4 sc_differs.nd (r_tup (a_cons (r_tupRg (by rfl) z_tuple (by rfl) z_range (r_op o_add l_add (r_op o_add l_add (r_var 2) r_int) (r_var 3))) (a_cons (r_var 2) a_nil))))
  (ss_one (s_ret (r_cmp (op_neD (hu64 hr)) l_ne (r_callK G_apply (hr.mono (by decide)) (by rfl) (a_cons (r_var 4) (a_cons (r_var 0) a_nil))) (r_callK G_apply (hr.mono (by decide)) (by rfl) (a_cons (r_var 4) (a_cons (r_var 1) a_nil))) (nomark _)))))
theorem kn_difference (D : DefAt K mg "difference" s_difference) (G_count_actions : Known P w K mg base 1 "count_actions" ["script", "word"] F_count_actions) (G_differs : Known P w K mg base 3 "differs" ["first", "second", "behind", "ahead"] F_differs) (z_max : mg "max" = none) (z_range : mg "range" = none) (z_min : mg "min" = none) : Known P w K mg base 4 "difference" ["first", "second"] F_difference :=
  known D sc_difference bi_difference keeps_difference fun f cdv A outer s H E hr =>
  (ss_cons (s_set 2 sc_difference.nd (r_callB (call_max2 rfl) n_max (by rfl) z_max (by decide +kernel) (a_cons (r_callK G_count_actions (hr.mono (by decide)) (by rfl) (a_cons (r_var 0) (a_cons r_str a_nil))) (a_cons (r_callK G_count_actions (hr.mono (by decide)) (by rfl) (a_cons (r_var 1) (a_cons r_str a_nil))) a_nil))))
  (ss_cons (s_set 3 sc_difference.nd (r_callB (call_max2 rfl) n_max (by rfl) z_max (by decide +kernel) (a_cons (r_callK G_count_actions (hr.mono (by decide)) (by rfl) (a_cons (r_var 0) (a_cons r_str a_nil))) (a_cons (r_callK G_count_actions (hr.mono (by decide)) (by rfl) (a_cons (r_var 1) (a_cons r_str a_nil))) a_nil))))
  (ss_cons (s_for (i_range1 (by rfl) z_range (a_cons (r_op o_add l_add (r_op o_add l_add (r_var 2) (r_var 3)) r_int) a_nil)) (g_name 4 sc_difference.nd) (ss_one (s_for (i_range2 (by rfl) z_range (a_cons (r_callB (call_max2 rfl) n_max (by rfl) z_max (by decide +kernel) (a_cons r_int (a_cons (r_op op_sub l_sub (r_var 4) (r_var 3)) a_nil))) (a_cons (r_op o_add l_add (r_callB (call_min2 rfl) n_min (by rfl) z_min (by decide +kernel) (a_cons (r_var 4) (a_cons (r_var 2) a_nil))) r_int) a_nil))) (g_name 5 sc_difference.nd) (ss_one (s_if (t_val (r_callK G_differs (hr.mono (by decide)) (by rfl) (a_cons (r_var 0) (a_cons (r_var 1) (a_cons (r_var 5) (a_cons (r_op op_sub l_sub (r_var 4) (r_var 5)) a_nil)))))) (ss_one (s_ret (r_tup (a_cons (r_var 5) (a_cons (r_op op_sub l_sub (r_var 4) (r_var 5)) a_nil))))) ss_nil)))))
  (ss_one (s_ret r_non)))))
theorem kn_equal (D : DefAt K mg "equal" s_equal) (G_difference : Known P w K mg base 4 "difference" ["first", "second"] F_difference) : Known P w K mg base 5 "equal" ["first", "second"] F_equal :=
  known D sc_equal bi_equal keeps_equal fun f cdv A outer s H E hr =>
  (ss_one (s_ret (r_isN (r_callK G_difference (hr.mono (by decide)) (by rfl) (a_cons (r_var 0) (a_cons (r_var 1) a_nil))))))
theorem kn_redundant_steps (D : DefAt K mg "redundant_steps" s_redundant_steps) (G_equal : Known P w K mg base 5 "equal" ["first", "second"] F_equal) (z_range : mg "range" = none) (z_len : mg "len" = none) : Known P w K mg base 6 "redundant_steps" ["script"] F_redundant_steps :=
  known D sc_redundant_steps bi_redundant_steps keeps_redundant_steps fun f cdv A outer s H E hr =>
  (ss_one (s_ret (r_lc (own := [("index", 1)]) sc_redundant_steps.nd (i_range1 (by rfl) z_range (a_cons (r_callB call_len_seq n_len (by rfl) z_len (by decide +kernel) (a_cons (r_var 0) a_nil)) a_nil)) (by kernel_rfl) (fun _ _ _ _ _ => (gw_name 1 sc_redundant_steps.nd)) (fun _ _ _ _ _ => (ts_one (t_val (r_callK G_equal (hr.mono (by decide)) (by rfl) (a_cons (r_op o_add l_add (r_sl o_sl l_sl (r_var 0) o_none (o_some (r_var 1))) (r_sl o_sl l_sl (r_var 0) (o_some (r_op o_add l_add (r_var 1) r_int)) o_none)) (a_cons (r_var 0) a_nil)))))) (fun _ _ _ _ _ => (r_var 1)))))
theorem kn__law_like (D : DefAt K mg "_law_like" s__law_like) (z_isinstance : mg "isinstance" = none) (z_list : mg "list" = none) (z_tuple : mg "tuple" = none) (z_len : mg "len" = none) (z_range : mg "range" = none) (z_bool : mg "bool" = none) : ∀ d : Nat, Known P w K mg base (d + 1) "_law_like" ["one", "two"] (F__law_like d)
  | 0 => known0 D sc__law_like bi__law_like (fun ws M => F0__law_like ws M)
  | d + 1 => by
    have R := kn__law_like D z_isinstance z_list z_tuple z_len z_range z_bool d
    exact known D sc__law_like bi__law_like (keeps__law_like d) fun f cdv A outer s H E hr =>
  (ss_cons (s_if (t_val (r_isi2 "list" "tuple" (by simp) (by simp) (by rfl) z_isinstance (by rfl) z_list (by decide +kernel) (by rfl) z_tuple (by decide +kernel) (r_var 0))) (ss_cons (s_if (t_w (w_or (t_cmp (op_neD (hu64 hr)) l_ne (r_isi "list" (by simp) (by rfl) z_isinstance (by rfl) z_list (by decide +kernel) (r_var 0)) (r_isi "list" (by simp) (by rfl) z_isinstance (by rfl) z_list (by decide +kernel) (r_var 1)) (nomark _)) (w_one (t_cmp (op_neD (hu64 hr)) l_ne (r_isi "tuple" (by simp) (by rfl) z_isinstance (by rfl) z_tuple (by decide +kernel) (r_var 0)) (r_isi "tuple" (by simp) (by rfl) z_isinstance (by rfl) z_tuple (by decide +kernel) (r_var 1)) (nomark _))))) (ss_one (s_ret r_bl)) ss_nil)
  (ss_cons (s_if (t_cmp (op_neD (hu64 hr)) l_ne (r_callB call_len_seq n_len (by rfl) z_len (by decide +kernel) (a_cons (r_var 0) a_nil)) (r_callB call_len_seq n_len (by rfl) z_len (by decide +kernel) (a_cons (r_var 1) a_nil)) (nomark _)) (ss_one (s_ret r_bl)) ss_nil)
  (ss_one (s_ret (r_cmp (op_eqD (hu64 hr)) l_eq (r_lc (own := [("k", 2)]) sc__law_like.nd (i_range1 (by rfl) z_range (a_cons (r_callB call_len_seq n_len (by rfl) z_len (by decide +kernel) (a_cons (r_var 0) a_nil)) a_nil)) (by kernel_rfl) (fun _ _ _ _ _ => (gw_name 2 sc__law_like.nd)) (fun _ _ _ _ _ => (ts_one (t_not (t_val (r_callK R (hr.mono (by omega)) (by rfl) (a_cons (r_ix ix_seq l_ix (r_var 0) (r_var 2)) (a_cons (r_ix ix_seq l_ix (r_var 1) (r_var 2)) a_nil))))))) (fun _ _ _ _ _ => (r_var 2))) (r_lst a_nil) (nomark _)))))) ss_nil)
  (ss_cons (s_if (t_val (r_isi2 "list" "tuple" (by simp) (by simp) (by rfl) z_isinstance (by rfl) z_list (by decide +kernel) (by rfl) z_tuple (by decide +kernel) (r_var 1))) (ss_one (s_ret r_bl)) ss_nil)
  (ss_one (s_ret (r_and (r_cmp (op_eqD (hu64 hr)) l_eq (r_isi "bool" (by simp) (by rfl) z_isinstance (by rfl) z_bool (by decide +kernel) (r_var 0)) (r_isi "bool" (by simp) (by rfl) z_isinstance (by rfl) z_bool (by decide +kernel) (r_var 1)) (nomark _)) (r_one (r_cmp (op_eqD (hu64 hr)) l_eq (r_var 0) (r_var 1) (nomark _))))))))
theorem kn_law {f : Addr} {fd : FuncData} (D : Fun K "law" "law" s_law f fd) (G__law_script : Known P w K mg base 3 "_law_script" ["tape", "most", "pool"] F__law_script) (G__law_alike : Known P w K mg base 3 "_law_alike" ["first", "second", "most"] F__law_alike) (G_redundant_steps : Known P w K mg base 6 "redundant_steps" ["script"] F_redundant_steps) (G__law_like : Known P w K mg base 9 "_law_like" ["one", "two"] (F__law_like 8)) (z_list : mg "list" = none) (z_range : mg "range" = none) (z_len : mg "len" = none) (z_enumerate : mg "enumerate" = none) (z_zip : mg "zip" = none) : FnOk P w K mg base CX0 10 f fd ["script"] (spF ⟨K, w⟩ (["script"] : List Str).length lawF) :=
  fn_ok D sc_law keeps_law_k11 fun cdv A outer s H E hr =>
  (ss_cons (s_set 1 sc_law.nd (r_lst (a_cons (r_callTy call_list_of n_list (by rfl) z_list (by decide +kernel) (a_cons (r_var 0) a_nil)) (a_cons r_int (a_cons r_int a_nil)))))
  (ss_cons (s_set 2 sc_law.nd (r_tup (a_cons r_str (a_cons r_str a_nil))))
  (ss_cons (s_for (i_range1 (by rfl) z_range (a_cons r_int a_nil)) (g_name 3 sc_law.nd) (ss_cons (s_set 4 sc_law.nd (r_callK G__law_script (hr.mono (by decide)) (by rfl) (a_cons (r_var 1) (a_cons r_int (a_cons (r_var 2) a_nil)))))
  (ss_cons (s_setLc 5 (own := [("at", 7)]) sc_law.nd (i_range1 (by rfl) z_range (a_cons (r_callB call_len_seq n_len (by rfl) z_len (by decide +kernel) (a_cons (r_var 4) a_nil)) a_nil)) (by kernel_rfl) (fun _ _ _ _ _ => (gw_name 7 sc_law.nd)) (fun _ _ _ _ _ => (ts_one (t_val (r_callK G__law_alike (hr.mono (by decide)) (by rfl) (a_cons (r_op o_add l_add (r_sl o_sl l_sl (r_var 4) o_none (o_some (r_var 7))) (r_sl o_sl l_sl (r_var 4) (o_some (r_op o_add l_add (r_var 7) r_int)) o_none)) (a_cons (r_var 4) (a_cons r_int a_nil))))))) (fun _ _ _ _ _ => (r_var 7)))
  (ss_cons (s_set 6 sc_law.nd (r_callK G_redundant_steps (hr.mono (by decide)) (by rfl) (a_cons (r_var 4) a_nil)))
  (ss_cons (s_if (t_not (t_val (r_callK G__law_like (hr.mono (by decide)) (by rfl) (a_cons (r_var 6) (a_cons (r_var 5) a_nil))))) (ss_one (s_ret r_bl)) ss_nil)
  (ss_cons (s_expr (r_meth PySem.F.slot_list_append PySem.F.type_list_append mt_append m_append (r_var 6) (a_cons r_non a_nil)))
  (ss_cons (s_if (t_cmp (op_neD (hu64 hr)) l_ne (r_callK G_redundant_steps (hr.mono (by decide)) (by rfl) (a_cons (r_var 4) a_nil)) (r_var 5) (nomark _)) (ss_one (s_ret r_bl)) ss_nil)
  (ss_one (s_for (i_enumZ (by rfl) z_enumerate (by rfl) z_zip (a_cons (r_var 4) (a_cons (r_sl o_sl l_sl (r_var 4) (o_some r_int) o_none) a_nil))) (g_tup rfl (gs_cons (g_name 7 sc_law.nd) (gs_cons (g_tup rfl (gs_cons (g_name 8 sc_law.nd) (gs_cons (g_name 9 sc_law.nd) gs_nil))) gs_nil))) (ss_one (s_if (t_w (w_and (t_cmp (op_eqD (hu64 hr)) l_eq (r_ix ix_seq l_ix (r_var 8) r_int) r_str (nomark _)) (w_and (t_cmp (op_eqD (hu64 hr)) l_eq (r_var 9) (r_tup (a_cons r_str a_nil)) (nomark _)) (w_one (t_cmp (op_notInD (hu65 hr)) l_notInD (r_op o_add l_add (r_var 7) r_int) (r_var 5) (by rfl)))))) (ss_one (s_ret r_bl)) ss_nil)))))))))))
  (ss_one (s_ret r_bl)))))
end
theorem all_k11 {l : PySem.W.OpenLaw} {w : World} {K : PySem.W.Frag} {h : Heap} {mg : Str → Option Value} {fa f : Addr} {oc : Value} {od an : Option Addr} {osl : Array (Option Value)} {kV doc pm cdv ct : Value} (X : K.In h) (G : h.Ns mainGlobals mg) (hfa : mg "law" = some (.ref fa))
    (a : PySem.W.nsIn K mainGlobals "law" = some (some (.ref f))) (lk : K.lookup f = some ⟨oc, od, .func (PySem.W.fnOf "law" "law" (defArgs s_law) (defBody s_law) (defScope s_law) .none kV doc pm an cdv ct), osl⟩) (c : PySem.W.codeIn K cdv "law" = true) (kp : PySem.W.keepIn K (.ref f) = true)
    (D__law_draw : DefAt K mg "_law_draw" s__law_draw) (D__law_action : DefAt K mg "_law_action" s__law_action) (D__law_script : DefAt K mg "_law_script" s__law_script) (D__law_step : DefAt K mg "_law_step" s__law_step) (D__law_run : DefAt K mg "_law_run" s__law_run) (D__law_alike : DefAt K mg "_law_alike" s__law_alike) (D_count_actions : DefAt K mg "count_actions" s_count_actions) (D_after : DefAt K mg "after" s_after) (D_apply : DefAt K mg "apply" s_apply) (D_differs : DefAt K mg "differs" s_differs) (D_difference : DefAt K mg "difference" s_difference) (D_equal : DefAt K mg "equal" s_equal) (D_redundant_steps : DefAt K mg "redundant_steps" s_redundant_steps) (D__law_like : DefAt K mg "_law_like" s__law_like) (z_bool : mg "bool" = none) (z_enumerate : mg "enumerate" = none) (z_isinstance : mg "isinstance" = none) (z_len : mg "len" = none) (z_list : mg "list" = none) (z_max : mg "max" = none) (z_min : mg "min" = none) (z_range : mg "range" = none) (z_tuple : mg "tuple" = none) (z_zip : mg "zip" = none) :
    ∃ fd : FuncData, (∀ (s : Shared) (v : Value), BindsTo s fd ⟨[v], []⟩ [("script", v)]) ∧ ∀ base : Heap, K.In base → base.Ns mainGlobals mg → FnOk l.prog w K mg base CX0 10 fa fd ["script"] (spLaw K) :=
  law_head X G hfa a lk c kp bi_law fun base fd D => by
    have G__law_draw := kn__law_draw (P := l.prog) (w := w) (base := base) D__law_draw z_len
    have G__law_action := kn__law_action (P := l.prog) (w := w) (base := base) D__law_action G__law_draw z_len
    have G__law_script := kn__law_script (P := l.prog) (w := w) (base := base) D__law_script G__law_draw G__law_action z_tuple z_range
    have G__law_step := kn__law_step (P := l.prog) (w := w) (base := base) D__law_step z_list z_tuple z_len
    have G__law_run := kn__law_run (P := l.prog) (w := w) (base := base) D__law_run G__law_step
    have G__law_alike := kn__law_alike (P := l.prog) (w := w) (base := base) D__law_alike G__law_run z_range z_tuple
    have G_count_actions := kn_count_actions (P := l.prog) (w := w) (base := base) D_count_actions z_len
    have G_after := kn_after (P := l.prog) (w := w) (base := base) D_after z_max z_min z_len
    have G_apply := kn_apply (P := l.prog) (w := w) (base := base) D_apply G_after
    have G_differs := kn_differs (P := l.prog) (w := w) (base := base) D_differs G_apply z_tuple z_range
    have G_difference := kn_difference (P := l.prog) (w := w) (base := base) D_difference G_count_actions G_differs z_max z_range z_min
    have G_equal := kn_equal (P := l.prog) (w := w) (base := base) D_equal G_difference
    have G_redundant_steps := kn_redundant_steps (P := l.prog) (w := w) (base := base) D_redundant_steps G_equal z_range z_len
    have G__law_like := kn__law_like (P := l.prog) (w := w) (base := base) D__law_like z_isinstance z_list z_tuple z_len z_range z_bool 8
    exact kn_law D G__law_script G__law_alike G_redundant_steps G__law_like z_list z_range z_len z_enumerate z_zip
end BF
open PySem PySem.W PyProof.Rows
set_option maxHeartbeats 0 in
theorem PySem.Challenge.cw_backforward_k11_redundant_steps_holds : PySem.Challenge.rw_backforward_k11_redundant_steps.Holds := by
  w_on; o_law; k_head; (case hw => w_witness2)
  k_fill
  refine L2.walk_of (l := PySem.Challenge.rw_backforward_k11_redundant_steps) (n := 63) (k := 10) (x := "script") (CX := fun _ => L2.CX0) (sp := fun w => BF.spLaw _) rfl (by decide) rfl ⟨rfl, by decide, by decide⟩ (fun w h Y => PySem.W.kIn_of Y) ?F (fun _ H a ns hl ho hS => ⟨a, ns, rfl, ho, hS, hl, fun _ => rfl⟩) (fun _ _ _ _ _ h => h)
  case F =>
    intro w mg fa h KX G hmg
    refine' BF.all_k11 KX G hmg ?a0 ?l0 ?c0 ?k0 (BF.defAt KX G ?a1 ?l1 ?c1 ?k1) (BF.defAt KX G ?a2 ?l2 ?c2 ?k2) (BF.defAt KX G ?a3 ?l3 ?c3 ?k3) (BF.defAt KX G ?a4 ?l4 ?c4 ?k4) (BF.defAt KX G ?a5 ?l5 ?c5 ?k5) (BF.defAt KX G ?a6 ?l6 ?c6 ?k6) (BF.defAt KX G ?a7 ?l7 ?c7 ?k7) (BF.defAt KX G ?a8 ?l8 ?c8 ?k8) (BF.defAt KX G ?a9 ?l9 ?c9 ?k9) (BF.defAt KX G ?a10 ?l10 ?c10 ?k10) (BF.defAt KX G ?a11 ?l11 ?c11 ?k11) (BF.defAt KX G ?a12 ?l12 ?c12 ?k12) (BF.defAt KX G ?a13 ?l13 ?c13 ?k13) (BF.defAt KX G ?a14 ?l14 ?c14 ?k14) (PySem.W.mg_none_of KX G ?z_bool) (PySem.W.mg_none_of KX G ?z_enumerate) (PySem.W.mg_none_of KX G ?z_isinstance) (PySem.W.mg_none_of KX G ?z_len) (PySem.W.mg_none_of KX G ?z_list) (PySem.W.mg_none_of KX G ?z_max) (PySem.W.mg_none_of KX G ?z_min) (PySem.W.mg_none_of KX G ?z_range) (PySem.W.mg_none_of KX G ?z_tuple) (PySem.W.mg_none_of KX G ?z_zip)
    (case a0 => k_is); (case l0 => k_is); (case c0 => k_is); (case k0 => k_is); (case a1 => k_is); (case l1 => k_is); (case c1 => k_is); (case k1 => k_is); (case a2 => k_is); (case l2 => k_is); (case c2 => k_is); (case k2 => k_is); (case a3 => k_is); (case l3 => k_is); (case c3 => k_is); (case k3 => k_is); (case a4 => k_is); (case l4 => k_is); (case c4 => k_is); (case k4 => k_is); (case a5 => k_is); (case l5 => k_is); (case c5 => k_is); (case k5 => k_is); (case a6 => k_is); (case l6 => k_is); (case c6 => k_is); (case k6 => k_is); (case a7 => k_is); (case l7 => k_is); (case c7 => k_is); (case k7 => k_is); (case a8 => k_is); (case l8 => k_is); (case c8 => k_is); (case k8 => k_is); (case a9 => k_is); (case l9 => k_is); (case c9 => k_is); (case k9 => k_is); (case a10 => k_is); (case l10 => k_is); (case c10 => k_is); (case k10 => k_is); (case a11 => k_is); (case l11 => k_is); (case c11 => k_is); (case k11 => k_is); (case a12 => k_is); (case l12 => k_is); (case c12 => k_is); (case k12 => k_is); (case a13 => k_is); (case l13 => k_is); (case c13 => k_is); (case k13 => k_is); (case a14 => k_is); (case l14 => k_is); (case c14 => k_is); (case k14 => k_is); (case z_bool => k_is); (case z_enumerate => k_is); (case z_isinstance => k_is); (case z_len => k_is); (case z_list => k_is); (case z_max => k_is); (case z_min => k_is); (case z_range => k_is); (case z_tuple => k_is); (case z_zip => k_is)
