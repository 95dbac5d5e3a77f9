import PyProof.Rows.All
import Wide.All
import OpenK.AllK
import Wide.FinOn
import HandS.ForMost
import HandS.TupAny
import HandS.TupMul
import HandS.Zip
import HandS.Wide
import HandS.IsInst
import HandS.Flow
import HandS.Style
import HandS.Steps
import HandS.Conv
import KE.KTupSum
import HandS.Dict
import KE.KDictKeyed
import KE.KDictDisplayH
import HandS.Iter
import HandS.Flt
import HandS.More
import HandS.Deep
import KE.GoesEnum
import KE.SortData
import HandS.TupSets
import KE.DataFind
import HandS.Text
import PySem.Challenge.RW_backforward_k01_history_and_script_value
set_option Elab.async false
set_option linter.all false
set_option autoImplicit false
/-! The plain reading: values, memory, and what each construct computes. -/
namespace BF
open PySem

inductive W where
  | non
  | bl (b : Bool)
  | int (i : Int)
  | str (x : Str)
  | tup (ws : List W)
  | ref (n : Nat)

instance : Inhabited W := ⟨.non⟩

mutual
def W.beq : W → W → Bool
  | .non, .non => true
  | .bl a, .bl b => a == b
  | .int a, .int b => decide (a = b)
  | .str a, .str b => decide (a = b)
  | .tup a, .tup b => W.beqs a b
  | .ref a, .ref b => decide (a = b)
  | .non, .bl _ | .non, .int _ | .non, .str _ | .non, .tup _ | .non, .ref _ => false
  | .bl _, .non | .bl _, .int _ | .bl _, .str _ | .bl _, .tup _ | .bl _, .ref _ => false
  | .int _, .non | .int _, .bl _ | .int _, .str _ | .int _, .tup _ | .int _, .ref _ => false
  | .str _, .non | .str _, .bl _ | .str _, .int _ | .str _, .tup _ | .str _, .ref _ => false
  | .tup _, .non | .tup _, .bl _ | .tup _, .int _ | .tup _, .str _ | .tup _, .ref _ => false
  | .ref _, .non | .ref _, .bl _ | .ref _, .int _ | .ref _, .str _ | .ref _, .tup _ => false
def W.beqs : List W → List W → Bool
  | [], [] => true
  | a :: as, b :: bs => W.beq a b && W.beqs as bs
  | [], _ :: _ => false
  | _ :: _, [] => false
end
mutual
theorem W.beq_self : ∀ a : W, W.beq a a = true
  | .non => rfl
  | .bl a => by simp [W.beq]
  | .int a => by simp [W.beq]
  | .str a => by simp [W.beq]
  | .tup a => by rw [W.beq]; exact W.beqs_self a
  | .ref a => by simp [W.beq]
theorem W.beqs_self : ∀ a : List W, W.beqs a a = true
  | [] => rfl
  | a :: as => by rw [W.beqs, W.beq_self a, W.beqs_self as]; rfl
end
mutual
theorem W.eq_of_beq : ∀ a b : W, W.beq a b = true → a = b
  | .non, b, h => by cases b <;> simp [W.beq] at h; rfl
  | .bl a, b, h => by cases b <;> simp [W.beq] at h; rw [h]
  | .int a, b, h => by cases b <;> simp [W.beq] at h; rw [h]
  | .str a, b, h => by cases b <;> simp [W.beq] at h; rw [h]
  | .tup a, b, h => by
    cases b with
    | tup b => rw [W.beq] at h; rw [W.eq_of_beqs a b h]
    | _ => simp [W.beq] at h
  | .ref a, b, h => by cases b <;> simp [W.beq] at h; rw [h]
theorem W.eq_of_beqs : ∀ a b : List W, W.beqs a b = true → a = b
  | [], b, h => by
    cases b with
    | nil => rfl
    | cons _ _ => simp [W.beqs] at h
  | a :: as, b, h => by
    cases b with
    | nil => simp [W.beqs] at h
    | cons b bs =>
      rw [W.beqs, Bool.and_eq_true] at h
      rw [W.eq_of_beq a b h.1, W.eq_of_beqs as bs h.2]
end
instance : DecidableEq W := fun a b =>
  if h : W.beq a b = true then .isTrue (W.eq_of_beq a b h) else .isFalse fun e => h (e ▸ W.beq_self a)

/-- a dict keyed by nested tuples; a dict that is walked (keys: numbers and texts; nested tuples) -/
inductive DM where
  | nest
  | lockF
  | lockN
  deriving DecidableEq
/-- what stands at an id: a list (made here), a list that is only read, a dict, one with int and text keys -/
inductive MO where
  | lst (ws : List W)
  | ro (ws : List W)
  | dT (m : DM) (kvs : List (W × W))
  | dK (kvs : List (W × W))
  deriving DecidableEq

abbrev Mem := List MO
abbrev Sl := List (Option W)
abbrev CE := Sl → Mem → Option (W × Mem)
abbrev CA := Sl → Mem → Option (List W × Mem)
abbrev CT := Sl → Mem → Option (Bool × Mem)
abbrev Fn := List W → Mem → Option (W × Mem)
inductive Out where
  | nx (σ : Sl) (M : Mem)
  | rt (w : W) (M : Mem)
  | bk (σ : Sl) (M : Mem)
  | ct (σ : Sl) (M : Mem)
abbrev CS := Sl → Mem → Option Out
abbrev CG := W → Sl → Option Sl
/-- what a loop walks: the items, and what must stay true of the memory meanwhile -/
abbrev CI := Sl → Mem → Option (List W × (Mem → Bool) × Mem)


/-! ### expressions -/
def eV (i : Nat) : CE := fun σ M => match σ.getD i none with
  | some w => some (w, M)
  | none => none
def eL (w : W) : CE := fun _ M => some (w, M)
def e1 (f : Mem → W → Option (W × Mem)) (a : CE) : CE := fun σ M => (a σ M).bind fun p => f p.2 p.1
def e2 (f : Mem → W → W → Option (W × Mem)) (a b : CE) : CE := fun σ M =>
  (a σ M).bind fun p => (b σ p.2).bind fun q => f q.2 p.1 q.1
def eArgs : List CE → CA
  | [] => fun _ M => some ([], M)
  | a :: as => fun σ M => (a σ M).bind fun p => (eArgs as σ p.2).bind fun q => some (p.1 :: q.1, q.2)
def eN (f : Fn) (as : List CE) : CE := fun σ M => (eArgs as σ M).bind fun p => f p.1 p.2
def eTup (as : List CE) : CE := fun σ M => (eArgs as σ M).bind fun p =>
  if p.1.length ≤ 16777216 then some (.tup p.1, p.2) else none
def eLst (as : List CE) : CE := fun σ M => (eArgs as σ M).bind fun p =>
  if p.1.length ≤ 16777216 then some (.ref p.2.length, p.2 ++ [.lst p.1]) else none
def eIf (t : CT) (a b : CE) : CE := fun σ M => (t σ M).bind fun p => if p.1 = true then a σ p.2 else b σ p.2
/-- a and b, a or b, not a: of truth values -/
def eAnd (a b : CE) : CE := fun σ M => (a σ M).bind fun p => match p.1 with
  | .bl true => b σ p.2
  | .bl false => some (.bl false, p.2)
  | _ => none
def eOr (a b : CE) : CE := fun σ M => (a σ M).bind fun p => match p.1 with
  | .bl true => some (.bl true, p.2)
  | .bl false => b σ p.2
  | _ => none
def eNot (a : CE) : CE := fun σ M => (a σ M).bind fun p => match p.1 with
  | .bl c => some (.bl (!c), p.2)
  | _ => none
/-- a op b op' c -/
def eChain (f g : Mem → W → W → Option (W × Mem)) (a b c : CE) : CE := fun σ M =>
  (a σ M).bind fun p => (b σ p.2).bind fun q => (f q.2 p.1 q.1).bind fun r => match r.1 with
    | .bl true => (c σ r.2).bind fun t => g t.2 q.1 t.1
    | .bl false => some (.bl false, r.2)
    | _ => none

/-! ### tests -/
def tB (e : CE) : CT := fun σ M => (e σ M).bind fun p => match p.1 with
  | .bl c => some (c, p.2)
  | _ => none
def tAnd (a b : CT) : CT := fun σ M => (a σ M).bind fun p => if p.1 = true then b σ p.2 else some (false, p.2)
def tOr (a b : CT) : CT := fun σ M => (a σ M).bind fun p => if p.1 = true then some (true, p.2) else b σ p.2
def tNot (a : CT) : CT := fun σ M => (a σ M).bind fun p => some (!p.1, p.2)
def tTrue : CT := fun _ M => some (true, M)

/-! ### targets -/
def gV (i : Nat) : CG := fun w σ => some (σ.set i (some w))
def gAll : List CG → List W → Sl → Option Sl
  | [], [], σ => some σ
  | g :: gs, w :: ws, σ => (g w σ).bind fun σ1 => gAll gs ws σ1
  | _, _, _ => none
def gT (gs : List CG) : CG := fun w σ => match w with
  | .tup ws => gAll gs ws σ
  | _ => none

/-! ### statements -/
def sSet (g : CG) (e : CE) : CS := fun σ M => (e σ M).bind fun p => (g p.1 σ).bind fun σ1 => some (.nx σ1 p.2)
/-- a, b = x, y of plain names -/
def sPar (is : List Nat) (as : List CE) : CS := fun σ M => (eArgs as σ M).bind fun p =>
  if p.1.length = is.length then some (.nx ((is.zip p.1).foldl (fun σ q => σ.set q.1 (some q.2)) σ) p.2) else none
def sAug (i : Nat) (f : Mem → W → W → Option (W × Mem)) (e : CE) : CS := fun σ M => match σ.getD i none with
  | some w => (e σ M).bind fun p => (f p.2 w p.1).bind fun q => some (.nx (σ.set i (some q.1)) q.2)
  | none => none
/-- o[k] = e -/
def sPut (f : Mem → W → W → W → Option Mem) (o k e : CE) : CS := fun σ M =>
  (e σ M).bind fun p => (o σ p.2).bind fun q => (k σ q.2).bind fun r => (f r.2 q.1 r.1 p.1).bind fun M' => some (.nx σ M')
def sExpr (e : CE) : CS := fun σ M => (e σ M).bind fun p => some (.nx σ p.2)
def sRet (e : CE) : CS := fun σ M => (e σ M).bind fun p => some (.rt p.1 p.2)
def sNil : CS := fun σ M => some (.nx σ M)
def sBreak : CS := fun σ M => some (.bk σ M)
def sSeq (a b : CS) : CS := fun σ M => (a σ M).bind fun o => match o with
  | .nx σ' M' => b σ' M'
  | .rt w M' => some (.rt w M')
  | .bk σ' M' => some (.bk σ' M')
  | .ct σ' M' => some (.ct σ' M')
def sIf (t : CT) (a b : CS) : CS := fun σ M => (t σ M).bind fun p => if p.1 = true then a σ p.2 else b σ p.2
def forL (gd : Mem → Bool) (g : CG) (body : CS) : List W → CS
  | [], σ, M => if gd M = true then some (.nx σ M) else none
  | w :: ws, σ, M => if gd M = true then (g w σ).bind fun σ1 => (body σ1 M).bind fun o => match o with
      | .nx σ' M' => forL gd g body ws σ' M'
      | .ct σ' M' => forL gd g body ws σ' M'
      | .bk σ' M' => some (.nx σ' M')
      | .rt w M' => some (.rt w M')
    else none
def sFor (it : CI) (g : CG) (body : CS) : CS := fun σ M => (it σ M).bind fun p => forL p.2.1 g body p.1 σ p.2.2
def whileL (t : CT) (body : CS) : Nat → CS
  | 0, _, _ => none
  | n + 1, σ, M => (t σ M).bind fun p => if p.1 = true then (body σ p.2).bind fun o => match o with
      | .nx σ' M' => whileL t body n σ' M'
      | .ct σ' M' => whileL t body n σ' M'
      | .bk σ' M' => some (.nx σ' M')
      | .rt w M' => some (.rt w M')
    else some (.nx σ p.2)
def sWhile (n : Nat) (t : CT) (body : CS) : CS := whileL t body n

/-! ### what is walked -/
def gdT : Mem → Bool := fun _ => true
def iTup (e : CE) : CI := fun σ M => (e σ M).bind fun p => match p.1 with
  | .tup ws => some (ws, gdT, p.2)
  | _ => none
def iLst (e : CE) : CI := fun σ M => (e σ M).bind fun p => match p.1 with
  | .ref n => match p.2[n]? with
    | some (.lst ws) => some (ws, fun M' => decide (M'[n]? = some (.lst ws)), p.2)
    | some (.ro ws) => some (ws, fun M' => decide (M'[n]? = some (.ro ws)), p.2)
    | _ => none
  | _ => none
def rangeW (lo : Int) (n : Nat) : List W := (List.range n).map fun i => .int (lo + (i : Nat))
def small62 (i : Int) : Bool := Nat.ble i.natAbs 4611686018427387903
theorem small62_of {i : Int} (h : i.natAbs ≤ 4611686018427387903) : small62 i = true := Nat.ble_eq_true_of_le h
def iRange1 (e : CE) : CI := fun σ M => (e σ M).bind fun p => match p.1 with
  | .int j => if small62 j = true then some (rangeW 0 j.toNat, gdT, p.2) else none
  | _ => none
def iRange2 (a b : CE) : CI := fun σ M => (a σ M).bind fun p => (b σ p.2).bind fun q => match p.1, q.1 with
  | .int i, .int j => if small62 i = true ∧ small62 j = true then some (rangeW i (j - i).toNat, gdT, q.2) else none
  | _, _ => none
def enumW (ws : List W) : List W := ws.zipIdx.map fun p => .tup [.int (p.2 : Nat), p.1]
def iEnumT (e : CE) : CI := fun σ M => (e σ M).bind fun p => match p.1 with
  | .tup ws => some (enumW ws, gdT, p.2)
  | _ => none
def iEnumL (e : CE) : CI := fun σ M => (e σ M).bind fun p => match p.1 with
  | .ref n => match p.2[n]? with
    | some (.lst ws) => some (enumW ws, fun M' => decide (M'[n]? = some (.lst ws)), p.2)
    | _ => none
  | _ => none
def zipW (xs ys : List W) : List W := (xs.zip ys).map fun p => .tup [p.1, p.2]
def iZipT (a b : CE) : CI := fun σ M => (a σ M).bind fun p => (b σ p.2).bind fun q => match p.1, q.1 with
  | .tup xs, .tup ys => some (zipW xs ys, gdT, q.2)
  | _, _ => none

/-! ### a list comprehension -/
def wipe (σ : Sl) : List Nat → Sl
  | [] => σ
  | v :: vs => (wipe σ vs).set v none
def lcL (gd : Mem → Bool) (g : CG) (t : CT) (e : CE) (vs : List Nat) (σ : Sl) (D : Nat) : List W → Mem → Option Mem
  | [], M => if gd M = true then some M else none
  | w :: ws, M => if gd M = true then (g w (wipe σ vs)).bind fun σ1 => (t σ1 M).bind fun p => if p.1 = true then
        (e σ1 p.2).bind fun q => match q.2[D]? with
          | some (.lst acc) => if acc.length < 16777216 then lcL gd g t e vs σ D ws (q.2.set D (.lst (acc ++ [q.1]))) else none
          | _ => none
      else lcL gd g t e vs σ D ws p.2
    else none
def eLc (it : CI) (g : CG) (t : CT) (e : CE) (vs : List Nat) : CE := fun σ M => (it σ M).bind fun p =>
  (lcL p.2.1 g t e vs σ p.2.2.length p.1 (p.2.2 ++ [.lst []])).bind fun M' => some (.ref p.2.2.length, M')

/-! ### data -/
def mapO {α β : Type} (f : α → Option β) : List α → Option (List β)
  | [] => some []
  | a :: as => match f a, mapO f as with
    | some b, some bs => some (b :: bs)
    | _, _ => none
def toD (M : Mem) : Nat → W → Option PyData
  | 0, _ => none
  | _ + 1, .non => some .none
  | _ + 1, .bl b => some (.bool b)
  | _ + 1, .int i => some (.int i)
  | _ + 1, .str x => some (.str x)
  | k + 1, .tup ws => (mapO (toD M k) ws).map .tuple
  | k + 1, .ref n => match M[n]? with
    | some (.lst ws) => (mapO (toD M k) ws).map .list
    | some (.ro ws) => (mapO (toD M k) ws).map .list
    | _ => none
/-- x == y of data -/
def eqW (M : Mem) (x y : W) : Option Bool := match toD M 64 x, toD M 64 y with
  | some d, some e => some (PyData.eqv d e)
  | _, _ => none

/-! ### operations -/
def gAdd (M : Mem) (x y : W) : Option (W × Mem) := match x, y with
  | .int i, .int j => some (.int (i + j), M)
  | .str a, .str b => if a.length + b.length ≤ 16777216 then some (.str (a ++ b), M) else none
  | .tup a, .tup b => if a.length + b.length ≤ 16777216 then some (.tup (a ++ b), M) else none
  | .ref a, .ref b => match M[a]?, M[b]? with
    | some (.lst xs), some (.lst ys) => if xs.length + ys.length ≤ 16777216 then some (.ref M.length, M ++ [.lst (xs ++ ys)]) else none
    | _, _ => none
  | _, _ => none
def gSub (M : Mem) (x y : W) : Option (W × Mem) := match x, y with
  | .int i, .int j => some (.int (i - j), M)
  | _, _ => none
def small64 (i : Int) : Bool := Nat.ble i.natAbs 18446744073709551615
theorem small64_of {i : Int} (h : i.natAbs ≤ 18446744073709551615) : small64 i = true := Nat.ble_eq_true_of_le h
/-- products of ints, one of them small; a tuple k times -/
def gMul (M : Mem) (x y : W) : Option (W × Mem) := match x, y with
  | .int i, .int j => if small64 i = true ∨ small64 j = true then some (.int (i * j), M) else none
  | _, _ => none
def gRep (M : Mem) (x y : W) : Option (W × Mem) := match x, y with
  | .tup a, .int k => if a.length ≤ 1000 ∧ k ≤ 1000 then some (.tup (List.replicate k.toNat a).flatten, M) else none
  | _, _ => none
def gMod (M : Mem) (x y : W) : Option (W × Mem) := match x, y with
  | .int i, .int j => if 0 < j then some (.int (i % j), M) else none
  | _, _ => none
def gDiv (M : Mem) (x y : W) : Option (W × Mem) := match x, y with
  | .int i, .int j => if 0 < j ∧ small64 j = true then some (.int (i / j), M) else none
  | _, _ => none
def gPow (M : Mem) (x y : W) : Option (W × Mem) := match x, y with
  | .int i, .int j => if 0 ≤ j ∧ j ≤ 1000 ∧ small62 i = true then some (.int (i ^ j.toNat), M) else none
  | _, _ => none
def gNeg (M : Mem) (x : W) : Option (W × Mem) := match x with
  | .int i => some (.int (-i), M)
  | _ => none
def gLt (M : Mem) (x y : W) : Option (W × Mem) := match x, y with
  | .int i, .int j => some (.bl (decide (i < j)), M)
  | _, _ => none
def gLe (M : Mem) (x y : W) : Option (W × Mem) := match x, y with
  | .int i, .int j => some (.bl (decide (i ≤ j)), M)
  | _, _ => none
def gGt (M : Mem) (x y : W) : Option (W × Mem) := match x, y with
  | .int i, .int j => some (.bl (decide (j < i)), M)
  | _, _ => none
def gGe (M : Mem) (x y : W) : Option (W × Mem) := match x, y with
  | .int i, .int j => some (.bl (decide (j ≤ i)), M)
  | _, _ => none
def gEq (M : Mem) (x y : W) : Option (W × Mem) := (eqW M x y).map fun b => (.bl b, M)
def gNe (M : Mem) (x y : W) : Option (W × Mem) := (eqW M x y).map fun b => (.bl (!b), M)
def isN : W → Bool
  | .non => true
  | _ => false
def gIsN (M : Mem) (x : W) : Option (W × Mem) := some (.bl (isN x), M)
def gNotN (M : Mem) (x : W) : Option (W × Mem) := some (.bl (!isN x), M)
/-- the place that an index means -/
def ixW (n : Nat) (i : Int) : Option Nat := if 0 ≤ i then (if i < n then some i.toNat else none) else if -(n : Int) ≤ i then some (i + n).toNat else none
def gIx (M : Mem) (x y : W) : Option (W × Mem) := match x, y with
  | .tup a, .int i => ((ixW a.length i).bind fun j => a[j]?).map fun w => (w, M)
  | .ref n, .int i => match M[n]? with
    | some (.lst a) => ((ixW a.length i).bind fun j => a[j]?).map fun w => (w, M)
    | some (.ro a) => ((ixW a.length i).bind fun j => a[j]?).map fun w => (w, M)
    | _ => none
  | _, _ => none
/-- a slice's bound -/
def sIx (n d : Nat) : Option Int → Nat
  | none => d
  | some v => if v < 0 then (v + (n : Int)).toNat else min v.toNat n
def cutW {α : Type} (xs : List α) (lo hi : Option Int) : List α := (xs.drop (sIx xs.length 0 lo)).take (sIx xs.length xs.length hi - sIx xs.length 0 lo)
def partW : Option W → Option (Option Int)
  | none => some none
  | some (.int i) => some (some i)
  | _ => none
def gSl (M : Mem) (x : W) (lo hi : Option Int) : Option (W × Mem) := match x with
  | .tup a => some (.tup (cutW a lo hi), M)
  | .ref n => match M[n]? with
    | some (.lst a) => some (.ref M.length, M ++ [.lst (cutW a lo hi)])
    | _ => none
  | _ => none
def ePart (e : Option CE) : Sl → Mem → Option (Option Int × Mem) := fun σ M => match e with
  | none => some (none, M)
  | some c => (c σ M).bind fun p => match p.1 with
    | .int i => some (some i, p.2)
    | _ => none
def eSl (e : CE) (lo hi : Option CE) : CE := fun σ M => (e σ M).bind fun p => (ePart lo σ p.2).bind fun q => (ePart hi σ q.2).bind fun r => gSl r.2 p.1 q.1 r.1

/-! ### calls of built-ins -/
def pLen : Fn := fun ws M => match ws with
  | [.tup a] => some (.int a.length, M)
  | [.ref n] => match M[n]? with
    | some (.lst a) => some (.int a.length, M)
    | some (.ro a) => some (.int a.length, M)
    | _ => none
  | _ => none
def pMin : Fn := fun ws M => match ws with
  | [.int i, .int j] => some (.int (if j < i then j else i), M)
  | _ => none
def pMax : Fn := fun ws M => match ws with
  | [.int i, .int j] => some (.int (if j > i then j else i), M)
  | _ => none
def pAbs : Fn := fun ws M => match ws with
  | [.int i] => some (.int (if i < 0 then -i else i), M)
  | _ => none
def pList : Fn := fun ws M => match ws with
  | [.tup a] => some (.ref M.length, M ++ [.lst a])
  | [.ref n] => match M[n]? with
    | some (.lst a) => some (.ref M.length, M ++ [.lst a])
    | some (.ro a) => some (.ref M.length, M ++ [.lst a])
    | _ => none
  | _ => none
def pTuple : Fn := fun ws M => match ws with
  | [.tup a] => some (.tup a, M)
  | [.ref n] => match M[n]? with
    | some (.lst a) => some (.tup a, M)
    | some (.ro a) => some (.tup a, M)
    | _ => none
  | _ => none
/-- a value's built-in class -/
def tyW (M : Mem) (w : W) : Option String := match w with
  | .non => some "NoneType"
  | .bl _ => some "bool"
  | .int _ => some "int"
  | .str _ => some "str"
  | .tup _ => some "tuple"
  | .ref n => match M[n]? with
    | some (.lst _) => some "list"
    | some (.ro _) => some "list"
    | _ => none
def isTy (C T : String) : Bool := T == C || (T == "bool" && C == "int")
def gIsi (C : String) (M : Mem) (x : W) : Option (W × Mem) := (tyW M x).map fun T => (.bl (isTy C T), M)
def gIsi2 (C D : String) (M : Mem) (x : W) : Option (W × Mem) := (tyW M x).map fun T => (.bl (isTy C T || isTy D T), M)
/-! ### methods of lists -/
def mAppend : Fn := fun ws M => match ws with
  | [.ref n, w] => match M[n]? with
    | some (.lst a) => if a.length < 16777216 then some (.non, M.set n (.lst (a ++ [w]))) else none
    | _ => none
  | _ => none
def mPop : Fn := fun ws M => match ws with
  | [.ref n] => match M[n]? with
    | some (.lst a) => a[a.length - 1]?.map fun w => (w, M.set n (.lst a.dropLast))
    | _ => none
  | _ => none
def mPopAt : Fn := fun ws M => match ws with
  | [.ref n, .int i] => match M[n]? with
    | some (.lst a) => if small62 i = true then (ixW a.length i).bind fun j => a[j]?.map fun w => (w, M.set n (.lst (a.eraseIdx j))) else none
    | _ => none
  | _ => none
def isLst (M : Mem) (w : W) : Bool := match w with
  | .ref n => match M[n]? with
    | some (.lst _) => true
    | _ => false
  | _ => false
/-- o.m(..), o a list -/
def eML (f : Fn) (o : CE) (as : List CE) : CE := fun σ M => (o σ M).bind fun p => if isLst p.2 p.1 = true then (eArgs as σ p.2).bind fun q => f (p.1 :: q.1) q.2 else none
/-- xs[i] = w -/
def putL (M : Mem) (o k w : W) : Option Mem := match o, k with
  | .ref n, .int i => match M[n]? with
    | some (.lst a) => (ixW a.length i).map fun j => M.set n (.lst (a.set j w))
    | _ => none
  | _, _ => none

/-! ### lists of ints -/
def asInts : List W → Option (List Int)
  | [] => some []
  | .int i :: ws => (asInts ws).map (i :: ·)
  | _ :: _ => none
theorem asInts_map (ns : List Int) : asInts (ns.map W.int) = some ns := by
  induction ns with
  | nil => rfl
  | cons n ns ih => rw [List.map_cons, asInts, ih]; rfl
theorem asInts_some : ∀ {ws : List W} {ns : List Int}, asInts ws = some ns → ws = ns.map W.int
  | [], _, h => by cases h; rfl
  | .int i :: ws, ns, h => by
    rw [asInts] at h
    obtain ⟨ms, h1, rfl⟩ := Option.map_eq_some_iff.mp h
    rw [asInts_some h1]; rfl
  | .non :: _, _, h => by cases h
  | .bl _ :: _, _, h => by cases h
  | .str _ :: _, _, h => by cases h
  | .tup _ :: _, _, h => by cases h
  | .ref _ :: _, _, h => by cases h

theorem rangeW_get {lo : Int} {n i : Nat} {w : W} (h : (rangeW lo n)[i]? = some w) : i < n ∧ w = .int (lo + (i : Nat)) := by
  unfold rangeW at h
  rw [List.getElem?_map] at h
  by_cases hi : i < n
  · rw [List.getElem?_range hi] at h
    cases h
    exact ⟨hi, rfl⟩
  · rw [List.getElem?_eq_none (by simpa using hi)] at h
    cases h
theorem rangeW_length {lo : Int} {n : Nat} : (rangeW lo n).length = n := by simp [rangeW]

/-! ### ids that stand -/
mutual
def W.closed (k : Nat) : W → Bool
  | .ref n => decide (n < k)
  | .tup ws => W.closeds k ws
  | .non | .bl _ | .int _ | .str _ => true
def W.closeds (k : Nat) : List W → Bool
  | [] => true
  | w :: ws => W.closed k w && W.closeds k ws
end
def MO.closed (k : Nat) : MO → Bool
  | .lst ws | .ro ws => W.closeds k ws
  | .dT _ kvs | .dK kvs => kvs.all fun p => p.1.closed k && p.2.closed k
def Closed (M : Mem) : Prop := ∀ mo ∈ M, mo.closed M.length = true
/-- a def's body keeps the promise F: n slots; what it laid besides is forgotten -/
def KeepsP (n : Nat) (body : CS) (F : Fn) : Prop := ∀ ws M w M', Closed M → (∀ x ∈ ws, x.closed M.length = true) → F ws M = some (w, M') →
  ∃ g, (body (ws.map some ++ List.replicate (n - ws.length) none) M = some (.rt w (M' ++ g)) ∨
      w = .non ∧ ∃ σ', body (ws.map some ++ List.replicate (n - ws.length) none) M = some (.nx σ' (M' ++ g))) ∧
    M.length ≤ M'.length ∧ Closed M' ∧ w.closed M'.length = true
/-! ### other ids for the same things -/
mutual
def W.ren (r : Nat → Nat) : W → W
  | .ref n => .ref (r n)
  | .tup ws => .tup (W.rens r ws)
  | .non => .non
  | .bl b => .bl b
  | .int i => .int i
  | .str x => .str x
def W.rens (r : Nat → Nat) : List W → List W
  | [] => []
  | w :: ws => W.ren r w :: W.rens r ws
end
def MO.ren (r : Nat → Nat) : MO → MO
  | .lst ws => .lst (W.rens r ws)
  | .ro ws => .ro (W.rens r ws)
  | .dT m kvs => .dT m (kvs.map fun p => (p.1.ren r, p.2.ren r))
  | .dK kvs => .dK (kvs.map fun p => (p.1.ren r, p.2.ren r))
/-- .. up to the new things' ids -/
def Keeps (n : Nat) (body : CS) (F : Fn) : Prop := ∀ ws M w M', Closed M → (∀ x ∈ ws, x.closed M.length = true) → F ws M = some (w, M') →
  ∃ (r : Nat → Nat) (M2 : Mem), (body (ws.map some ++ List.replicate (n - ws.length) none) M = some (.rt (w.ren r) M2) ∨
      w = .non ∧ ∃ σ', body (ws.map some ++ List.replicate (n - ws.length) none) M = some (.nx σ' M2)) ∧
    (∀ i < M.length, r i = i) ∧ (∀ (i : Nat) (mo : MO), M'[i]? = some mo → M2[r i]? = some (mo.ren r)) ∧ (∀ i j, i < M'.length → j < M'.length → r i = r j → i = j) ∧
    M.length ≤ M'.length ∧ Closed M' ∧ w.closed M'.length = true
mutual
theorem W.ren_id {r : Nat → Nat} (h : ∀ i, r i = i) : ∀ w : W, w.ren r = w
  | .ref n => by rw [W.ren, h]
  | .tup ws => by rw [W.ren, W.rens_id h ws]
  | .non => rfl
  | .bl _ => rfl
  | .int _ => rfl
  | .str _ => rfl
theorem W.rens_id {r : Nat → Nat} (h : ∀ i, r i = i) : ∀ ws : List W, W.rens r ws = ws
  | [] => rfl
  | w :: ws => by rw [W.rens, W.ren_id h w, W.rens_id h ws]
end
theorem MO.ren_id (mo : MO) : mo.ren id = mo := by
  have h : ∀ i : Nat, (id i : Nat) = i := fun _ => rfl
  cases mo with
  | lst ws => rw [MO.ren, W.rens_id h]
  | ro ws => rw [MO.ren, W.rens_id h]
  | dT m kvs => rw [MO.ren]; simp [W.ren_id h]
  | dK kvs => rw [MO.ren]; simp [W.ren_id h]
theorem KeepsP.keeps {n : Nat} {body : CS} {F : Fn} (h : KeepsP n body F) : Keeps n body F := by
  intro ws M w M' hc hw e
  obtain ⟨g, h1, h2, h3, h4⟩ := h ws M w M' hc hw e
  refine ⟨id, M' ++ g, by rw [W.ren_id (r := id) fun _ => rfl]; exact h1, fun _ _ => rfl, fun i mo hi => ?_, fun _ _ _ _ e => e, h2, h3, h4⟩
  rw [MO.ren_id]
  show (M' ++ g)[i]? = _
  rw [List.getElem?_append_left (List.getElem?_eq_some_iff.mp hi).1]; exact hi
mutual
theorem W.ren_eq {r : Nat → Nat} {k : Nat} (h : ∀ i < k, r i = i) : ∀ w : W, w.closed k = true → w.ren r = w
  | .ref n, c => by rw [W.closed] at c; rw [W.ren, h n (of_decide_eq_true c)]
  | .tup ws, c => by rw [W.closed] at c; rw [W.ren, W.rens_eq h ws c]
  | .non, _ => rfl
  | .bl _, _ => rfl
  | .int _, _ => rfl
  | .str _, _ => rfl
theorem W.rens_eq {r : Nat → Nat} {k : Nat} (h : ∀ i < k, r i = i) : ∀ ws : List W, W.closeds k ws = true → W.rens r ws = ws
  | [], _ => rfl
  | w :: ws, c => by
    rw [W.closeds, Bool.and_eq_true] at c
    rw [W.rens, W.ren_eq h w c.1, W.rens_eq h ws c.2]
end
theorem MO.ren_eq {r : Nat → Nat} {k : Nat} (h : ∀ i < k, r i = i) {mo : MO} (c : mo.closed k = true) : mo.ren r = mo := by
  cases mo with
  | lst ws => rw [MO.ren, W.rens_eq h ws c]
  | ro ws => rw [MO.ren, W.rens_eq h ws c]
  | dT m kvs =>
    rw [MO.ren]
    congr 1
    rw [MO.closed, List.all_eq_true] at c
    refine (List.map_congr_left fun p hp => ?_).trans (List.map_id _)
    have := c p hp
    rw [Bool.and_eq_true] at this
    rw [W.ren_eq h _ this.1, W.ren_eq h _ this.2]; rfl
  | dK kvs =>
    rw [MO.ren]
    congr 1
    rw [MO.closed, List.all_eq_true] at c
    refine (List.map_congr_left fun p hp => ?_).trans (List.map_id _)
    have := c p hp
    rw [Bool.and_eq_true] at this
    rw [W.ren_eq h _ this.1, W.ren_eq h _ this.2]; rfl
end BF

set_option Elab.async false
set_option linter.all false
set_option autoImplicit false
set_option maxRecDepth 100000
/-! The plain reading is kept by the program: one rule a construct, lifted from the hand layer's. -/
namespace BF
open PySem PySem.Spec
open PyProof.Rows L2

/-- the known objects, and the world -/
structure KW where
  fr : PySem.W.Frag
  wd : World
instance : Coe KW PySem.W.Frag := ⟨KW.fr⟩
abbrev _root_.L2.Cx.KW (X : L2.Cx) : KW := ⟨X.K, X.w⟩
/-! ### reading values off the abstract heap -/
mutual
inductive Rd (K : KW) (H : Hp) (loc : List Addr) : V → W → Prop
  | non : Rd K H loc .non .non
  | bl (b : Bool) : Rd K H loc (.bl b) (.bl b)
  | int (i : Int) : Rd K H loc (.int i) (.int i)
  | str (x : Str) : PyData.strOk x = true → x.length ≤ 16777216 → Rd K H loc (.str x) (.str x)
  | tup {a : Addr} {xs : List V} {ws : List W} : SqT K H a xs → Rds K H loc xs ws → Rd K H loc (.ref a) (.tup ws)
  | ref {a : Addr} {n : Nat} : loc[n]? = some a → Rd K H loc (.ref a) (.ref n)
inductive Rds (K : KW) (H : Hp) (loc : List Addr) : List V → List W → Prop
  | nil : Rds K H loc [] []
  | cons {v : V} {vs : List V} {w : W} {ws : List W} : Rd K H loc v w → Rds K H loc vs ws → Rds K H loc (v :: vs) (w :: ws)
end

/-- what stays: tuples, and what is locked -/
structure Ext (K : KW) (H H' : Hp) : Prop where
  tup : ∀ a xs, SqT K H a xs → SqT K H' a xs
  frz : ∀ a o u, H a = some (.frz o u) → H' a = some (.frz o u)
theorem Ext.refl {K : KW} {H : Hp} : Ext K H H := ⟨fun _ _ h => h, fun _ _ _ h => h⟩
theorem Ext.trans {K : KW} {H H1 H2 : Hp} (a : Ext K H H1) (b : Ext K H1 H2) : Ext K H H2 := ⟨fun _ _ h => b.tup _ _ (a.tup _ _ h), fun _ _ _ h => b.frz _ _ _ (a.frz _ _ _ h)⟩
theorem Ext.new {K : KW} {H : Hp} {p : Addr} {o : HO} (hp : H p = none) : Ext K H (upd H p o) := ⟨fun a xs h => by
  rcases h with (h | ⟨u, h⟩) | h
  · exact .inl (.inl (by rw [upd_ne (ne_of_none h hp)]; exact h))
  · exact .inl (.inr ⟨u, by rw [upd_ne (ne_of_none h hp)]; exact h⟩)
  · exact .inr h, fun a o u h => by rw [upd_ne (ne_of_none h hp)]; exact h⟩
/-- what is changed is no tuple, and not locked -/
theorem Ext.upd {K : KW} {H : Hp} {p : Addr} {o u : HO} (hp : H p = some u) (m : Mut (some u)) : Ext K H (upd H p o) := ⟨fun a xs h => by
  rcases h with (h | ⟨v, h⟩) | h
  · refine .inl (.inl ?_)
    rw [upd_ne fun e => ?_]
    · exact h
    · subst e; rw [hp] at h; cases h; exact m
  · refine .inl (.inr ⟨v, ?_⟩)
    rw [upd_ne fun e => ?_]
    · exact h
    · subst e; rw [hp] at h; cases h; exact m
  · exact .inr h, fun a o u h => by
  rw [upd_ne fun e => ?_]
  · exact h
  · subst e; rw [hp] at h; cases h; exact m⟩

section
variable {K : KW} {H H' : Hp} {loc loc' : List Addr}
theorem pre_get {α : Type} {l l' : List α} (h : l <+: l') {n : Nat} {a : α} (e : l[n]? = some a) : l'[n]? = some a := by
  obtain ⟨r, rfl⟩ := h
  rw [List.getElem?_append_left (List.getElem?_eq_some_iff.mp e).1]; exact e
mutual
theorem Rd.mono (e : Ext K H H') (l : loc <+: loc') : ∀ {v : V} {w : W}, Rd K H loc v w → Rd K H' loc' v w
  | _, _, .non => .non
  | _, _, .bl b => .bl b
  | _, _, .int i => .int i
  | _, _, .str x h h2 => .str x h h2
  | _, _, .tup h r => .tup (e.tup _ _ h) (Rds.mono e l r)
  | _, _, .ref h => .ref (pre_get l h)
theorem Rds.mono (e : Ext K H H') (l : loc <+: loc') : ∀ {vs : List V} {ws : List W}, Rds K H loc vs ws → Rds K H' loc' vs ws
  | _, _, .nil => .nil
  | _, _, .cons r rs => .cons (Rd.mono e l r) (Rds.mono e l rs)
end
theorem Rds.length : ∀ {vs : List V} {ws : List W}, Rds K H loc vs ws → vs.length = ws.length
  | _, _, .nil => rfl
  | _, _, .cons _ r => by rw [List.length_cons, List.length_cons, r.length]
theorem Rds.get : ∀ {vs : List V} {ws : List W} {i : Nat} {w : W}, Rds K H loc vs ws → ws[i]? = some w → ∃ v, vs[i]? = some v ∧ Rd K H loc v w
  | _, _, _, _, .nil, e => by simp at e
  | _, _, 0, _, .cons r _, e => ⟨_, rfl, by simp at e; subst e; exact r⟩
  | _, _, i + 1, _, .cons _ r, e => by
    obtain ⟨v, h1, h2⟩ := r.get (i := i) (by simpa using e)
    exact ⟨v, by simpa using h1, h2⟩
theorem Rds.get' : ∀ {vs : List V} {ws : List W} {i : Nat} {v : V}, Rds K H loc vs ws → vs[i]? = some v → ∃ w, ws[i]? = some w ∧ Rd K H loc v w
  | _, _, _, _, .nil, e => by simp at e
  | _, _, 0, _, .cons r _, e => ⟨_, rfl, by simp at e; subst e; exact r⟩
  | _, _, i + 1, _, .cons _ r, e => by
    obtain ⟨v, h1, h2⟩ := r.get' (i := i) (by simpa using e)
    exact ⟨v, by simpa using h1, h2⟩
theorem Rds.append : ∀ {vs us : List V} {ws zs : List W}, Rds K H loc vs ws → Rds K H loc us zs → Rds K H loc (vs ++ us) (ws ++ zs)
  | _, _, _, _, .nil, s => s
  | _, _, _, _, .cons r rs, s => .cons r (rs.append s)
theorem Rds.take : ∀ {vs : List V} {ws : List W} (n : Nat), Rds K H loc vs ws → Rds K H loc (vs.take n) (ws.take n)
  | _, _, 0, _ => .nil
  | _, _, _ + 1, .nil => .nil
  | _, _, n + 1, .cons r rs => .cons r (rs.take n)
theorem Rds.drop : ∀ {vs : List V} {ws : List W} (n : Nat), Rds K H loc vs ws → Rds K H loc (vs.drop n) (ws.drop n)
  | _, _, 0, r => r
  | _, _, _ + 1, .nil => .nil
  | _, _, n + 1, .cons _ rs => rs.drop n
theorem Rds.set {v : V} {w : W} (r : Rd K H loc v w) : ∀ {vs : List V} {ws : List W} (i : Nat), Rds K H loc vs ws → Rds K H loc (vs.set i v) (ws.set i w)
  | _, _, _, .nil => .nil
  | _, _, 0, .cons _ rs => .cons r rs
  | _, _, i + 1, .cons q rs => .cons q (Rds.set r i rs)
theorem Rds.erase : ∀ {vs : List V} {ws : List W} (i : Nat), Rds K H loc vs ws → Rds K H loc (vs.eraseIdx i) (ws.eraseIdx i)
  | _, _, _, .nil => .nil
  | _, _, 0, .cons _ rs => rs
  | _, _, i + 1, .cons q rs => .cons q (Rds.erase i rs)
theorem Rds.dropLast {vs : List V} {ws : List W} (h : Rds K H loc vs ws) : Rds K H loc vs.dropLast ws.dropLast := by
  rw [List.dropLast_eq_take, List.dropLast_eq_take, h.length]; exact h.take _
theorem Rds.rep {vs : List V} {ws : List W} (h : Rds K H loc vs ws) : ∀ k : Nat, Rds K H loc (List.replicate k vs).flatten (List.replicate k ws).flatten
  | 0 => .nil
  | k + 1 => by rw [List.replicate_succ, List.replicate_succ, List.flatten_cons, List.flatten_cons]; exact h.append (Rds.rep h k)
theorem Rds.rev : ∀ {vs : List V} {ws : List W}, Rds K H loc vs ws → Rds K H loc vs.reverse ws.reverse
  | _, _, .nil => .nil
  | _, _, .cons r rs => by rw [List.reverse_cons, List.reverse_cons]; exact rs.rev.append (.cons r .nil)

/-! ### the memory -/
/-- a list that nobody writes -/
def RO (K : KW) (H : Hp) (a : Addr) (xs : List V) : Prop := (∃ o, H a = some (.frz o (.lst xs))) ∨
  ∃ (o : Obj) (its : Array Value) (n : Nat), K.fr.lookup a = some o ∧ o.cls = .type "list" ∧ o.dict = none ∧ o.data = .seq its n ∧ its.size ≤ sizeLine ∧ Vals xs its.toList
theorem RO.sq {a : Addr} {xs : List V} (h : RO K H a xs) : SqL K H a xs := by
  rcases h with ⟨o, h⟩ | h
  · exact .inl (.inr ⟨o, h⟩)
  · exact .inr h
/-- a key that is a number or a text -/
def keyW : Key → W
  | .inl i => .int i
  | .inr x => .str x
def KeyOk : Key → Prop
  | .inl _ => True
  | .inr x => PyData.strOk x = true ∧ x.length ≤ 16777216
mutual
/-- a value as a key of a dict keyed by nested tuples -/
def keyN : W → Option NestedKey
  | .non => some .none
  | .bl b => some (.num (if b = true then 1 else 0))
  | .int i => some (.num i)
  | .str x => some (.text x)
  | .tup ws => (keyNs ws).map .tup
  | .ref _ => none
def keyNs : List W → Option (List NestedKey)
  | [] => some []
  | w :: ws => match keyN w, keyNs ws with
    | some k, some ks => some (k :: ks)
    | _, _ => none
end
/-- the dict at a, keyed by nested tuples: keys, where their tuples stand, values -/
abbrev NE := List (NestedKey × Addr × V)
def entryN (w : World) (x : NestedKey × Addr × Value) : DictEntry := ⟨x.1.hash w, .ref x.2.1, x.2.2⟩
abbrev NP : NE → List (NestedKey × Addr × Value) → Prop := Paired fun p q => p.1 = q.1 ∧ p.2.1 = q.2.1 ∧ RelV p.2.2 q.2.2
def nestO (w : World) (a : Addr) (es : NE) : HO := .ext fun h => es.length ≤ sizeLine ∧ (a == sysModules) = false ∧ ∃ xs : List (NestedKey × Addr × Value), NP es xs ∧
  ∃ o en ep, h.get? a = some o ∧ o.ExactDict ∧ o.data = .dict en ep ∧ en.toList = xs.map (entryN w) ∧ (xs.map (·.1)).Nodup
structure NestOk (K : KW) (H : Hp) (loc : List Addr) (es : NE) (ws : List (W × W)) : Prop where
  keys : es.map (fun e => some e.1) = ws.map (fun p => keyN p.1)
  dep : ∀ e ∈ es, e.1.depth ≤ 8
  ks : Rds K H loc (es.map fun e => V.ref e.2.1) (ws.map (·.1))
  vs : Rds K H loc (es.map fun e => e.2.2) (ws.map (·.2))
theorem NestOk.mono {es : NE} {ws : List (W × W)} (e : Ext K H H') (l : loc <+: loc') (h : NestOk K H loc es ws) : NestOk K H' loc' es ws := ⟨h.keys, h.dep, h.ks.mono e l, h.vs.mono e l⟩
structure FlatOk (K : KW) (H : Hp) (loc : List Addr) (kvs : List (Key × V)) (ws : List (W × W)) : Prop where
  keys : kvs.map (fun p => keyW p.1) = ws.map (·.1)
  ok : ∀ p ∈ kvs, KeyOk p.1
  vs : Rds K H loc (kvs.map (·.2)) (ws.map (·.2))
theorem FlatOk.mono {kvs : List (Key × V)} {ws : List (W × W)} (e : Ext K H H') (l : loc <+: loc') (h : FlatOk K H loc kvs ws) : FlatOk K H' loc' kvs ws := ⟨h.keys, h.ok, h.vs.mono e l⟩
def MOk (K : KW) (H : Hp) (loc : List Addr) (a : Addr) : MO → Prop
  | .lst ws => ∃ xs, H a = some (.lst xs) ∧ Rds K H loc xs ws
  | .ro ws => ∃ xs, RO K H a xs ∧ Rds K H loc xs ws
  | .dK ws => ∃ kvs : List (Key × V), H a = some (.dK kvs) ∧ kvs.map (fun p => keyW p.1) = ws.map (·.1) ∧ (∀ p ∈ kvs, KeyOk p.1) ∧ Rds K H loc (kvs.map (·.2)) (ws.map (·.2))
  | .dT .nest ws => ∃ es, H a = some (nestO K.wd a es) ∧ NestOk K H loc es ws
  | .dT .lockF ws => ∃ o kvs, H a = some (.frz o (.dK kvs)) ∧ FlatOk K H loc kvs ws
  | .dT .lockN ws => ∃ o es, H a = some (.frz o (nestO K.wd a es)) ∧ NestOk K H loc es ws
/-- written while it stands so -/
def isMut : MO → Bool
  | .ro _ => false
  | .dT .lockF _ => false
  | .dT .lockN _ => false
  | _ => true
/-- one id alone for it -/
def isOwn : MO → Bool
  | .ro _ => false
  | _ => true
theorem own_of {mo : MO} (h : isMut mo = true) : isOwn mo = true := by
  cases mo with
  | ro _ => cases h
  | _ => rfl
structure Store (K : KW) (H : Hp) (loc : List Addr) (M : Mem) : Prop where
  len : loc.length = M.length
  ok : ∀ (i : Nat) (a : Addr) (mo : MO), loc[i]? = some a → M[i]? = some mo → MOk K H loc a mo
  apart : ∀ (i j : Nat) (a : Addr) (m n : MO), loc[i]? = some a → loc[j]? = some a → M[i]? = some m → M[j]? = some n → isOwn m = true → isOwn n = true → i = j
theorem Store.at {M : Mem} (s : Store K H loc M) {i : Nat} {mo : MO} (h : M[i]? = some mo) : ∃ a, loc[i]? = some a ∧ MOk K H loc a mo := by
  have hi : i < loc.length := by rw [s.len]; exact (List.getElem?_eq_some_iff.mp h).1
  exact ⟨loc[i], List.getElem?_eq_getElem hi, s.ok i _ mo (List.getElem?_eq_getElem hi) h⟩
theorem RO.same {a : Addr} {xs : List V} (h : RO K H a xs) (hH : ∀ o, H a = some (.frz o (.lst xs)) → H' a = some (.frz o (.lst xs))) : RO K H' a xs := by
  rcases h with ⟨o, h⟩ | h
  · exact .inl ⟨o, hH o h⟩
  · exact .inr h
theorem MOk.mono {a : Addr} {mo : MO} (e : Ext K H H') (l : loc <+: loc') (hH : ∀ o, H a = some o → H' a = some o) (h : MOk K H loc a mo) : MOk K H' loc' a mo := by
  cases mo with
  | lst ws => obtain ⟨xs, h1, h2⟩ := h; exact ⟨xs, hH _ h1, h2.mono e l⟩
  | ro ws => obtain ⟨xs, h1, h2⟩ := h; exact ⟨xs, h1.same fun o q => hH _ q, h2.mono e l⟩
  | dK ws => obtain ⟨kvs, h1, h2, h3, h4⟩ := h; exact ⟨kvs, hH _ h1, h2, h3, h4.mono e l⟩
  | dT m ws =>
    cases m with
    | nest => obtain ⟨es, h1, h2⟩ := h; exact ⟨es, hH _ h1, h2.mono e l⟩
    | lockF => obtain ⟨o, es, h1, h2⟩ := h; exact ⟨o, es, hH _ h1, h2.mono e l⟩
    | lockN => obtain ⟨o, es, h1, h2⟩ := h; exact ⟨o, es, hH _ h1, h2.mono e l⟩
/-- a mutable thing is tracked as such -/
theorem MOk.there {a : Addr} {mo : MO} (m : isMut mo = true) (h : MOk K H loc a mo) : ∃ o, H a = some o ∧ Mut (some o) := by
  cases mo with
  | lst ws => obtain ⟨xs, h1, h2⟩ := h; exact ⟨_, h1, trivial⟩
  | ro ws => cases m
  | dK ws => obtain ⟨kvs, h1, _⟩ := h; exact ⟨_, h1, trivial⟩
  | dT q ws =>
    cases q with
    | nest => obtain ⟨es, h1, h2⟩ := h; exact ⟨_, h1, trivial⟩
    | lockF => cases m
    | lockN => cases m
theorem MOk.thereO {a : Addr} {mo : MO} (m : isOwn mo = true) (h : MOk K H loc a mo) : ∃ o, H a = some o := by
  cases mo with
  | lst ws => obtain ⟨xs, h1, h2⟩ := h; exact ⟨_, h1⟩
  | ro ws => cases m
  | dK ws => obtain ⟨kvs, h1, _⟩ := h; exact ⟨_, h1⟩
  | dT q ws =>
    cases q with
    | nest => obtain ⟨es, h1, h2⟩ := h; exact ⟨_, h1⟩
    | lockF => obtain ⟨o, es, h1, h2⟩ := h; exact ⟨_, h1⟩
    | lockN => obtain ⟨o, es, h1, h2⟩ := h; exact ⟨_, h1⟩
theorem ro_of {mo : MO} (h : isOwn mo = false) : isMut mo = false := by
  cases mo with
  | ro _ => rfl
  | _ => cases h
/-- what nobody writes stands while mutable things change -/
theorem MOk.calm {a : Addr} {mo : MO} {u v : HO} (z : isMut mo = false) (hu : H a = some u) (mu : Mut (some u)) (h : MOk K H loc a mo) : MOk K (upd H a v) loc a mo := by
  cases mo with
  | lst _ => cases z
  | ro ws =>
    obtain ⟨xs, r1, r2⟩ := h
    rcases r1 with ⟨o, r1⟩ | r1
    · rw [hu] at r1; cases r1; exact mu.elim
    · exact ⟨xs, .inr r1, r2.mono (.upd hu mu) (List.prefix_refl _)⟩
  | dK _ => cases z
  | dT q ws =>
    cases q with
    | nest => cases z
    | lockF => obtain ⟨o, es, r1, _⟩ := h; rw [hu] at r1; cases r1; exact mu.elim
    | lockN => obtain ⟨o, es, r1, _⟩ := h; rw [hu] at r1; cases r1; exact mu.elim
theorem Store.ext {M : Mem} (s : Store K H loc M) (e : Ext K H H') (hH : ∀ a o, H a = some o → H' a = some o) : Store K H' loc M :=
  ⟨s.len, fun i a mo h1 h2 => (s.ok i a mo h1 h2).mono e (List.prefix_refl _) (hH a), s.apart⟩
/-- a tuple is laid -/
theorem Store.newT {M : Mem} {p : Addr} {o : HO} (s : Store K H loc M) (hp : H p = none) : Store K (upd H p o) loc M :=
  s.ext (.new hp) fun a u h => by rw [upd_ne (ne_of_none h hp)]; exact h
/-- a list is laid -/
theorem Store.new {M : Mem} {p : Addr} {o : HO} {mo : MO} (s : Store K H loc M) (hp : H p = none) (hm : MOk K (upd H p o) (loc ++ [p]) p mo) : Store K (upd H p o) (loc ++ [p]) (M ++ [mo]) := by
  have hlt : ∀ {i : Nat} {a : Addr} {m : MO}, (loc ++ [p])[i]? = some a → (M ++ [mo])[i]? = some m → (loc[i]? = some a ∧ M[i]? = some m) ∨ (i = M.length ∧ a = p ∧ m = mo) := fun {i a m} h1 h2 => by
    by_cases hi : i < M.length
    · rw [List.getElem?_append_left (by rw [s.len]; exact hi)] at h1
      rw [List.getElem?_append_left hi] at h2
      exact .inl ⟨h1, h2⟩
    · rw [List.getElem?_append_right (by rw [s.len]; omega)] at h1
      rw [List.getElem?_append_right (by omega)] at h2
      have e := (List.getElem?_eq_some_iff.mp h2).1
      simp only [List.length_cons, List.length_nil] at e
      have e0 : i = M.length := by omega
      subst e0
      rw [s.len] at h1
      simp at h1 h2
      exact .inr ⟨rfl, h1.symm, h2.symm⟩
  refine ⟨by simp [s.len], fun i a m h1 h2 => ?_, fun i j a m n h1 h2 h3 h4 m1 m2 => ?_⟩
  · rcases hlt h1 h2 with ⟨h1, h2⟩ | ⟨_, rfl, rfl⟩
    · exact (s.ok i a m h1 h2).mono (.new hp) (List.prefix_append _ _) fun o h => by rw [upd_ne (ne_of_none h hp)]; exact h
    · exact hm
  · rcases hlt h1 h3 with ⟨g1, g3⟩ | ⟨e1, e2, _⟩
    · rcases hlt h2 h4 with ⟨g2, g4⟩ | ⟨_, e2, _⟩
      · exact s.apart i j a m n g1 g2 g3 g4 m1 m2
      · obtain ⟨o, q⟩ := (s.ok i a m g1 g3).thereO m1
        rw [e2, hp] at q; cases q
    · rcases hlt h2 h4 with ⟨g2, g4⟩ | ⟨e3, _, _⟩
      · obtain ⟨o, q⟩ := (s.ok j a n g2 g4).thereO m2
        rw [e2, hp] at q; cases q
      · rw [e1, e3]
/-- a mutable thing is changed -/
theorem Store.put0 {M : Mem} {i : Nat} {a : Addr} {m mo : MO} {o : HO} (s : Store K H loc M) (h1 : loc[i]? = some a) (h2 : M[i]? = some m) (m1 : isMut m = true) (hm : MOk K (upd H a o) loc a mo) : Store K (upd H a o) loc (M.set i mo) := by
  obtain ⟨u, hu, mu⟩ := (s.ok i a m h1 h2).there m1
  have hi : i < M.length := (List.getElem?_eq_some_iff.mp h2).1
  refine ⟨by simp [s.len], fun j b n q1 q2 => ?_, fun j k b m' n' q1 q2 q3 q4 z1 z2 => ?_⟩
  · by_cases e : i = j
    · subst e
      rw [List.getElem?_set_self hi] at q2
      cases q2
      rw [h1] at q1; cases q1
      exact hm
    · rw [List.getElem?_set_ne e] at q2
      have hb := s.ok j b n q1 q2
      have en : b ≠ a ∨ (isOwn n = false ∧ b = a) := by
        by_cases eb : b = a
        · subst eb
          refine .inr ⟨?_, rfl⟩
          cases z : isOwn n with
          | false => rfl
          | true => exact absurd (s.apart i j b m n h1 q1 h2 q2 (own_of m1) z) e
        · exact .inl eb
      rcases en with en | ⟨z, rfl⟩
      · exact hb.mono (.upd hu mu) (List.prefix_refl _) fun o h => by rw [upd_ne en]; exact h
      · exact hb.calm (ro_of z) hu mu
  · have wt : ∀ {x : Nat} {b : Addr} {y : MO}, (M.set i mo)[x]? = some y → isOwn y = true → ∃ y', M[x]? = some y' ∧ isOwn y' = true := fun {x b y} q z => by
      by_cases e : i = x
      · subst e; exact ⟨m, h2, own_of m1⟩
      · rw [List.getElem?_set_ne e] at q; exact ⟨y, q, z⟩
    obtain ⟨y1, w1, w2⟩ := wt (b := b) q3 z1
    obtain ⟨y2, w3, w4⟩ := wt (b := b) q4 z2
    exact s.apart j k b y1 y2 q1 q2 w1 w3 w2 w4

theorem Store.put {M : Mem} {i : Nat} {a : Addr} {m mo : MO} {o : HO} (s : Store K H loc M) (h1 : loc[i]? = some a) (h2 : M[i]? = some m) (m1 : isMut m = true) (m2 : isMut mo = true) (hm : MOk K (upd H a o) loc a mo) : Store K (upd H a o) loc (M.set i mo) := s.put0 h1 h2 m1 hm

structure Rel (K : KW) (loc : List Addr) (σ : Sl) (M : Mem) (σV : L2.St) (H : Hp) : Prop where
  st : Store K H loc M
  len : σ.length = σV.length
  sl : ∀ (i : Nat) (w : W), σ[i]? = some (some w) → ∃ v, σV[i]? = some (some v) ∧ Rd K H loc v w
theorem Rel.move {σ : Sl} {M M' : Mem} {σV : L2.St} (r : Rel K loc σ M σV H) (s : Store K H' loc' M') (e : Ext K H H') (l : loc <+: loc') : Rel K loc' σ M' σV H' :=
  ⟨s, r.len, fun i w h => by
    obtain ⟨v, h1, h2⟩ := r.sl i w h
    exact ⟨v, h1, h2.mono e l⟩⟩
theorem Rel.set {σ : Sl} {M : Mem} {σV : L2.St} (r : Rel K loc σ M σV H) {v : V} {w : W} (h : Rd K H loc v w) (i : Nat) : Rel K loc (σ.set i (some w)) M (σV.set i (some v)) H :=
  ⟨r.st, by rw [List.length_set, List.length_set]; exact r.len, fun j u e => by
    by_cases hij : i = j
    · subst hij
      have hi : i < σ.length := by have := (List.getElem?_eq_some_iff.mp e).1; simpa using this
      rw [List.getElem?_set_self hi] at e
      cases e
      exact ⟨v, by rw [List.getElem?_set_self (by rw [← r.len]; exact hi)], h⟩
    · rw [List.getElem?_set_ne hij] at e
      rw [List.getElem?_set_ne hij]
      exact r.sl j u e⟩
theorem Rel.unset {σ : Sl} {M : Mem} {σV : L2.St} (r : Rel K loc σ M σV H) (i : Nat) : Rel K loc (σ.set i none) M (σV.set i none) H :=
  ⟨r.st, by rw [List.length_set, List.length_set]; exact r.len, fun j u e => by
    by_cases hij : i = j
    · subst hij
      by_cases hi : i < σ.length
      · rw [List.getElem?_set_self hi] at e; cases e
      · rw [List.getElem?_eq_none (by simpa using hi)] at e; cases e
    · rw [List.getElem?_set_ne hij] at e
      rw [List.getElem?_set_ne hij]
      exact r.sl j u e⟩
theorem Rel.wipe {σ : Sl} {M : Mem} {σV : L2.St} (r : Rel K loc σ M σV H) : ∀ vs : List Nat, Rel K loc (wipe σ vs) M (L2.wipe σV vs) H
  | [] => r
  | v :: vs => (Rel.wipe r vs).unset v
end

/-! ### the readings -/
/-- what is wanted behind an expression -/
def Aft (K : KW) (H : Hp) (loc : List Addr) (w : W) (M' : Mem) (Q : VK) : Prop :=
  ∀ v H' loc', Store K H' loc' M' → Rd K H' loc' v w → Ext K H H' → loc <+: loc' → Q v H'
def TC (K : KW) (c : CE) : TE := fun σV H Q => ∃ loc σ M w M', Rel K loc σ M σV H ∧ c σ M = some (w, M') ∧ Aft K H loc w M' Q
def TA' (K : KW) (c : CA) : TA := fun σV H Q => ∃ loc σ M ws M', Rel K loc σ M σV H ∧ c σ M = some (ws, M') ∧
  ∀ vs H' loc', Store K H' loc' M' → Rds K H' loc' vs ws → Ext K H H' → loc <+: loc' → Q vs H'
def TT' (K : KW) (c : CT) : TT := fun σV H Q => ∃ loc σ M b M', Rel K loc σ M σV H ∧ c σ M = some (b, M') ∧
  ∀ H' loc', Store K H' loc' M' → Ext K H H' → loc <+: loc' → Q b H'
def TG' (K : KW) (c : CG) : TG := fun v σV H Q => ∃ loc σ M w σ', Rel K loc σ M σV H ∧ Rd K H loc v w ∧ c w σ = some σ' ∧ ∀ σV', Rel K loc σ' M σV' H → Q σV' H
def TGs' (K : KW) (c : List CG) : TGs := fun vs σV H Q => ∃ loc σ M ws σ', Rel K loc σ M σV H ∧ Rds K H loc vs ws ∧ gAll c ws σ = some σ' ∧ ∀ σV', Rel K loc σ' M σV' H → Q σV' H
def AftS (K : KW) (H : Hp) (loc : List Addr) (D : Ends) : Out → Prop
  | .nx σ' M' => ∀ σV' H' loc', Rel K loc' σ' M' σV' H' → Ext K H H' → loc <+: loc' → D.nx σV' H'
  | .bk σ' M' => ∀ σV' H' loc', Rel K loc' σ' M' σV' H' → Ext K H H' → loc <+: loc' → D.bk σV' H'
  | .ct σ' M' => ∀ σV' H' loc', Rel K loc' σ' M' σV' H' → Ext K H H' → loc <+: loc' → D.ct σV' H'
  | .rt w M' => Aft K H loc w M' D.rt
def TS' (K : KW) (c : CS) : TS := fun D σV H => ∃ loc σ M o, Rel K loc σ M σV H ∧ c σ M = some o ∧ AftS K H loc D o

abbrev EV (X : Cx) (e : Expr) (c : CE) : Prop := PE X e (TC X.KW c)
abbrev EA (X : Cx) (es : List Expr) (c : List CE) : Prop := PA X es (TA' X.KW (eArgs c))
abbrev ET (X : Cx) (e : Expr) (c : CT) : Prop := PT X e (TT' X.KW c)
abbrev EW (X : Cx) (e : Expr) (c : CT) : Prop := PW X e (TT' X.KW c)
abbrev EG (X : Cx) (e : Expr) (c : CG) : Prop := PG X e (TG' X.KW c)
abbrev EGs (X : Cx) (es : List Expr) (c : List CG) : Prop := PGs X es (TGs' X.KW c)
abbrev ES (X : Cx) (s : Stmt) (c : CS) : Prop := PS X s (TS' X.KW c)
abbrev ESs (X : Cx) (s : List Stmt) (c : CS) : Prop := PSs X s (TS' X.KW c)

theorem _root_.L2.PE.mono {X : Cx} {e : Expr} {t t' : TE} (h : PE X e t) (f : ∀ σ H Q, t' σ H Q → t σ H Q) : PE X e t' := ⟨fun p s σ H Q I q => h.run p s σ H Q I (f σ H Q q)⟩
theorem _root_.L2.PA.mono {X : Cx} {e : List Expr} {t t' : TA} (h : PA X e t) (f : ∀ σ H Q, t' σ H Q → t σ H Q) : PA X e t' := ⟨fun o p s σ H Q I q => h.run o p s σ H Q I (f σ H Q q)⟩
theorem _root_.L2.PT.mono {X : Cx} {e : Expr} {t t' : TT} (h : PT X e t) (f : ∀ σ H Q, t' σ H Q → t σ H Q) : PT X e t' := ⟨fun p s σ H Q I q => h.run p s σ H Q I (f σ H Q q)⟩
theorem _root_.L2.PW.mono {X : Cx} {e : Expr} {t t' : TT} (h : PW X e t) (f : ∀ σ H Q, t' σ H Q → t σ H Q) : PW X e t' := ⟨fun o p s σ H Q I q => h.run o p s σ H Q I (f σ H Q q)⟩
theorem _root_.L2.PG.mono {X : Cx} {e : Expr} {t t' : TG} (h : PG X e t) (f : ∀ v σ H Q, t' v σ H Q → t v σ H Q) : PG X e t' := ⟨fun p s σ H v u Q I r q => h.run p s σ H v u Q I r (f v σ H Q q)⟩
theorem _root_.L2.PGs.mono {X : Cx} {e : List Expr} {t t' : TGs} (h : PGs X e t) (f : ∀ v σ H Q, t' v σ H Q → t v σ H Q) : PGs X e t' := ⟨fun p s σ H v u Q I r q => h.run p s σ H v u Q I r (f v σ H Q q)⟩
theorem _root_.L2.PS.mono {X : Cx} {e : Stmt} {t t' : TS} (h : PS X e t) (f : ∀ D σ H, t' D σ H → t D σ H) : PS X e t' := ⟨fun p s σ H D I q => h.run p s σ H D I (f D σ H q)⟩
theorem _root_.L2.PSs.mono {X : Cx} {e : List Stmt} {t t' : TS} (h : PSs X e t) (f : ∀ D σ H, t' D σ H → t D σ H) : PSs X e t' := ⟨fun p s σ H D I q => h.run p s σ H D I (f D σ H q)⟩
end BF

set_option Elab.async false
set_option linter.all false
set_option autoImplicit false
set_option maxRecDepth 100000
/-! The rules: expressions, tests, targets, statements. -/
namespace BF
open PySem PySem.Spec
open PyProof.Rows L2

section
variable {X : Cx} {a b c e : Expr} {ca cb cc : CE} {pos : Pos}

/-! ### names, constants -/
theorem bind_some {α β : Type} {x : Option α} {f : α → Option β} {b : β} (h : x.bind f = some b) : ∃ a, x = some a ∧ f a = some b := Option.bind_eq_some_iff.mp h
theorem r_var (i : Nat) {x : Str} (hN : X.N[i]? = some x := by rfl)
    (hv : Vis X.env.scope x := by first | exact Or.inl rfl | exact Or.inr (Or.inl rfl) | exact Or.inr (Or.inr rfl))
    (hd : (x == ("__debug__" : Str)) = false := by decide) (hcd : (x == ("__classdict__" : Str)) = false := by decide) : EV X (.Name x pos) (eV i) :=
  (pe_var hN hv hd hcd).mono fun σV H Q ⟨loc, σ, M, w, M', rel, e, aft⟩ => by
    have h : σ.getD i none = some w ∧ M' = M := by
      unfold eV at e
      split at e
      · rename_i u hu; cases e; exact ⟨hu, rfl⟩
      · cases e
    obtain ⟨h, rfl⟩ := h
    have h' : σ[i]? = some (some w) := by
      rw [List.getD_eq_getElem?_getD] at h
      cases q : σ[i]? with
      | none => rw [q] at h; cases h
      | some z => rw [q] at h; exact congrArg some h
    obtain ⟨v, h1, h2⟩ := rel.sl i w h'
    exact ⟨v, h1, aft v H loc rel.st h2 .refl (List.prefix_refl _)⟩
theorem lit_aux {v : V} {w : W} (hr : ∀ H loc, Rd X.KW H loc v w) (h : PE X e (tC v)) : EV X e (eL w) :=
  h.mono fun σV H Q ⟨loc, σ, M, u, M', rel, e, aft⟩ => by
    cases e
    exact aft v H loc rel.st (hr H loc) .refl (List.prefix_refl _)
theorem r_int {i : Int} {j} : EV X (.Constant (.int i) j pos) (eL (.int i)) := lit_aux (fun _ _ => .int i) pe_int
theorem r_bl {i : Bool} {j} : EV X (.Constant (.bool i) j pos) (eL (.bl i)) := lit_aux (fun _ _ => .bl i) pe_bl
theorem r_non {j} : EV X (.Constant .none j pos) (eL .non) := lit_aux (fun _ _ => .non) pe_non
theorem r_str {x : Str} {j} (h : PyData.strOk x = true := by decide +kernel) (h2 : x.length ≤ 16777216 := by decide +kernel) : EV X (.Constant (.str x) j pos) (eL (.str x)) := lit_aux (fun _ _ => .str x h h2) pe_str

/-! ### two operands -/
def Lift1 (K : KW) (r : V → Hp → VK → Prop) (g : Mem → W → Option (W × Mem)) : Prop :=
  ∀ (H : Hp) (loc : List Addr) (M : Mem) (x : W) (v : V) (w : W) (M' : Mem) (Q : VK), Store K H loc M → Rd K H loc v x → g M x = some (w, M') → Aft K H loc w M' Q → r v H Q
def Lift2 (K : KW) (r : R2) (g : Mem → W → W → Option (W × Mem)) : Prop :=
  ∀ (H : Hp) (loc : List Addr) (M : Mem) (x y : W) (v u : V) (w : W) (M' : Mem) (Q : VK), Store K H loc M → Rd K H loc v x → Rd K H loc u y → g M x y = some (w, M') → Aft K H loc w M' Q → r v u H Q
theorem Aft.after {K : KW} {H H1 : Hp} {loc loc1 : List Addr} {w : W} {M' : Mem} {Q : VK} (h : Aft K H loc w M' Q) (e : Ext K H H1) (l : loc <+: loc1) : Aft K H1 loc1 w M' Q :=
  fun v H' loc' s r e' l' => h v H' loc' s r (e.trans e') (l.trans l')
theorem AftS.after {K : KW} {H H1 : Hp} {loc loc1 : List Addr} {o : Out} {D : Ends} (h : AftS K H loc D o) (e : Ext K H H1) (l : loc <+: loc1) : AftS K H1 loc1 D o := by
  cases o with
  | nx σ' M' => exact fun σV' H' loc' r e' l' => h σV' H' loc' r (e.trans e') (l.trans l')
  | bk σ' M' => exact fun σV' H' loc' r e' l' => h σV' H' loc' r (e.trans e') (l.trans l')
  | ct σ' M' => exact fun σV' H' loc' r e' l' => h σV' H' loc' r (e.trans e') (l.trans l')
  | rt w M' => exact Aft.after (K := K) h e l
/-- run a: then what follows -/
theorem run1 {K : KW} {σV : L2.St} {H : Hp} {loc : List Addr} {σ : Sl} {M : Mem} {p : W × Mem} {Q : VK} (rel : Rel K loc σ M σV H) (ha : ca σ M = some p)
    (h : ∀ v H1 loc1, Rel K loc1 σ p.2 σV H1 → Rd K H1 loc1 v p.1 → Ext K H H1 → loc <+: loc1 → Q v H1) : TC K ca σV H Q :=
  ⟨loc, σ, M, p.1, p.2, rel, ha, fun v H1 loc1 s r e l => h v H1 loc1 (rel.move s e l) r e l⟩
theorem op2 {r : R2} {g : Mem → W → W → Option (W × Mem)} (hl : Lift2 X.KW r g) (σV : L2.St) (H : Hp) (Q : VK) (h : TC X.KW (e2 g ca cb) σV H Q) : tOp r (TC X.KW ca) (TC X.KW cb) σV H Q := by
  obtain ⟨loc, σ, M, w, M', rel, e, aft⟩ := h
  obtain ⟨p, hp, e⟩ := bind_some e
  obtain ⟨q, hq, e⟩ := bind_some e
  refine run1 rel hp fun v H1 loc1 rel1 rd1 ex1 l1 => run1 rel1 hq fun u H2 loc2 rel2 rd2 ex2 l2 => ?_
  exact hl H2 loc2 q.2 p.1 q.1 v u w M' Q rel2.st (rd1.mono ex2 l2) rd2 e (aft.after (ex1.trans ex2) (l1.trans l2))
theorem r_op {op : Operator} {r : R2} {g : Mem → W → W → Option (W × Mem)} (ho : OpR X (binaryOp op) r) (hl : Lift2 X.KW r g) (ha : EV X a ca) (hb : EV X b cb) : EV X (.BinOp a op b pos) (e2 g ca cb) :=
  (pe_op ho ha hb).mono (op2 hl)
theorem r_un {op : UnaryOp} {r : V → Hp → VK → Prop} {g : Mem → W → Option (W × Mem)} (ho : UnR X (unaryOp op) r) (hl : Lift1 X.KW r g) (ha : EV X a ca) : EV X (.UnaryOp op a pos) (e1 g ca) :=
  (pe_un ho ha).mono fun σV H Q ⟨loc, σ, M, w, M', rel, e, aft⟩ => by
    obtain ⟨p, hp, e⟩ := bind_some e
    exact run1 rel hp fun v H1 loc1 rel1 rd1 ex1 l1 => hl H1 loc1 p.2 p.1 v w M' Q rel1.st rd1 e (aft.after ex1 l1)
theorem r_cmp {op : CmpOp} {r : R2} {g : Mem → W → W → Option (W × Mem)} (ho : OpR X (compareOp op) r) (hl : Lift2 X.KW r g) (ha : EV X a ca) (hb : EV X b cb) (hm : behindInMarks op b = false) : EV X (.Compare a [op] [b] pos) (e2 g ca cb) :=
  (pe_cmpR ho ha hb hm).mono (op2 hl)
theorem tb_aux {t : TE} {cv : CE} (hl : ∀ σV H Q, TC X.KW cv σV H Q → t σV H Q) (σV : L2.St) (H : Hp) (Q : Bool → Hp → Prop) (h : TT' X.KW (tB cv) σV H Q) :
    t σV H (fun x H' => ∃ k, x = V.bl k ∧ Q k H') := by
  obtain ⟨loc, σ, M, k, M', rel, e, aft⟩ := h
  obtain ⟨p, hp, e⟩ := bind_some e
  refine hl _ _ _ (run1 rel hp fun v H1 loc1 rel1 rd1 ex1 l1 => ?_)
  split at e
  · rename_i d hd
    cases e
    rw [hd] at rd1
    cases rd1
    exact ⟨_, rfl, aft H1 loc1 rel1.st ex1 l1⟩
  · cases e
theorem t_cmp {op : CmpOp} {r : R2} {g : Mem → W → W → Option (W × Mem)} (ho : OpR X (compareOp op) r) (hl : Lift2 X.KW r g) (ha : EV X a ca) (hb : EV X b cb) (hm : behindInMarks op b = false) : ET X (.Compare a [op] [b] pos) (tB (e2 g ca cb)) :=
  (pt_cmpR ho ha hb hm).mono (tb_aux (op2 hl))
/-- a test that is a plain value (a call, a name) -/
theorem t_val (ha : EV X a ca) (he : ∀ whole, isTrue a X.env whole = (do let v ← whole; standAt a.pos; holding [v] (truthy v)) := by intro _; rfl) : ET X a (tB ca) :=
  (pt_val ha he).mono (tb_aux fun _ _ _ h => h)
theorem isN_of {K : KW} {H : Hp} {loc : List Addr} {v : V} {w : W} (r : Rd K H loc v w) : decide (v = V.non) = isN w := by
  cases r <;> simp [isN]
theorem isN_aux (σV : L2.St) (H : Hp) (Q : VK) (h : TC X.KW (e1 gIsN ca) σV H Q) : tIsN (TC X.KW ca) σV H Q := by
  obtain ⟨loc, σ, M, w, M', rel, e, aft⟩ := h
  obtain ⟨p, hp, e⟩ := bind_some e
  refine run1 rel hp fun v H1 loc1 rel1 rd1 ex1 l1 => ?_
  cases e
  rw [isN_of rd1]
  exact aft _ H1 loc1 rel1.st (.bl _) ex1 l1
theorem notN_aux (σV : L2.St) (H : Hp) (Q : VK) (h : TC X.KW (e1 gNotN ca) σV H Q) : tNotN (TC X.KW ca) σV H Q := by
  obtain ⟨loc, σ, M, w, M', rel, e, aft⟩ := h
  obtain ⟨p, hp, e⟩ := bind_some e
  refine run1 rel hp fun v H1 loc1 rel1 rd1 ex1 l1 => ?_
  cases e
  rw [isN_of rd1]
  exact aft _ H1 loc1 rel1.st (.bl _) ex1 l1
theorem r_isN {j pos'} (ha : EV X a ca) : EV X (.Compare a [.Is] [.Constant .none j pos'] pos) (e1 gIsN ca) := (pe_cmp (pc_isN ha)).mono isN_aux
theorem r_notN {j pos'} (ha : EV X a ca) : EV X (.Compare a [.IsNot] [.Constant .none j pos'] pos) (e1 gNotN ca) := (pe_cmp (pc_notN ha)).mono notN_aux
theorem t_isN {j pos'} (ha : EV X a ca) : ET X (.Compare a [.Is] [.Constant .none j pos'] pos) (tB (e1 gIsN ca)) := (pt_cmp (pc_isN ha)).mono (tb_aux isN_aux)
theorem t_notN {j pos'} (ha : EV X a ca) : ET X (.Compare a [.IsNot] [.Constant .none j pos'] pos) (tB (e1 gNotN ca)) := (pt_cmp (pc_notN ha)).mono (tb_aux notN_aux)
theorem chain_aux {r r' : R2} {g g' : Mem → W → W → Option (W × Mem)} (hl : Lift2 X.KW r g) (hl' : Lift2 X.KW r' g') (σV : L2.St) (H : Hp) (Q : VK) (h : TC X.KW (eChain g g' ca cb cc) σV H Q) :
    tChain r r' (TC X.KW ca) (TC X.KW cb) (TC X.KW cc) σV H Q := by
  obtain ⟨loc, σ, M, w, M', rel, e, aft⟩ := h
  obtain ⟨p, hp, e⟩ := bind_some e
  obtain ⟨q, hq, e⟩ := bind_some e
  obtain ⟨z, hz, e⟩ := bind_some e
  refine run1 rel hp fun v H1 loc1 rel1 rd1 ex1 l1 => run1 rel1 hq fun u H2 loc2 rel2 rd2 ex2 l2 => ?_
  refine hl H2 loc2 q.2 p.1 q.1 v u z.1 z.2 _ rel2.st (rd1.mono ex2 l2) rd2 hz fun x H3 loc3 s3 rd3 ex3 l3 => ?_
  have rel3 := rel2.move s3 ex3 l3
  split at e
  · rename_i hz1
    rw [hz1] at rd3
    cases rd3
    refine ⟨_, rfl, ?_⟩
    rw [if_pos rfl]
    obtain ⟨t, ht, e⟩ := bind_some e
    refine run1 rel3 ht fun y H4 loc4 rel4 rd4 ex4 l4 => ?_
    exact hl' H4 loc4 t.2 q.1 t.1 u y w M' Q rel4.st (rd2.mono (ex3.trans ex4) (l3.trans l4)) rd4 e (aft.after (((ex1.trans ex2).trans ex3).trans ex4) (((l1.trans l2).trans l3).trans l4))
  · rename_i hz1
    rw [hz1] at rd3
    cases rd3
    refine ⟨_, rfl, ?_⟩
    rw [if_neg Bool.false_ne_true]
    cases e
    exact aft _ H3 loc3 s3 (.bl _) ((ex1.trans ex2).trans ex3) ((l1.trans l2).trans l3)
  · cases e
theorem r_chain {op op' : CmpOp} {r r' : R2} {g g' : Mem → W → W → Option (W × Mem)} (ho : OpR X (compareOp op) r) (hl : Lift2 X.KW r g) (ho' : OpR X (compareOp op') r') (hl' : Lift2 X.KW r' g') (ha : EV X a ca) (hb : EV X b cb) (hc : EV X c cc)
    (hm : lastMarks [op, op'] [b, c] = false := by with_unfolding_all rfl) : EV X (.Compare a [op, op'] [b, c] pos) (eChain g g' ca cb cc) := (pe_chain ho ho' ha hb hc hm).mono (chain_aux hl hl')
theorem t_chain {op op' : CmpOp} {r r' : R2} {g g' : Mem → W → W → Option (W × Mem)} (ho : OpR X (compareOp op) r) (hl : Lift2 X.KW r g) (ho' : OpR X (compareOp op') r') (hl' : Lift2 X.KW r' g') (ha : EV X a ca) (hb : EV X b cb) (hc : EV X c cc)
    (hm : lastMarks [op, op'] [b, c] = false := by with_unfolding_all rfl) : ET X (.Compare a [op, op'] [b, c] pos) (tB (eChain g g' ca cb cc)) := (pt_chain ho ho' ha hb hc hm).mono (tb_aux (chain_aux hl hl'))

/-! ### and, or, not, if -/
variable {tA tB' : CT} {rest : List Expr}
/-- run a test -/
theorem runT {K : KW} {σV : L2.St} {H : Hp} {loc : List Addr} {σ : Sl} {M : Mem} {p : Bool × Mem} {Q : Bool → Hp → Prop} (rel : Rel K loc σ M σV H) (ha : tA σ M = some p)
    (h : ∀ H1 loc1, Rel K loc1 σ p.2 σV H1 → Ext K H H1 → loc <+: loc1 → Q p.1 H1) : TT' K tA σV H Q :=
  ⟨loc, σ, M, p.1, p.2, rel, ha, fun H1 loc1 s e l => h H1 loc1 (rel.move s e l) e l⟩
theorem w_one {op} (ha : ET X a tA) : EW X (.BoolOp op [a] pos) tA := by
  cases op with
  | And => exact pw_and1 ha
  | Or => exact pw_or1 ha
theorem w_and (ha : ET X a tA) (hb : EW X (.BoolOp .And (b :: rest) pos) tB') : EW X (.BoolOp .And (a :: b :: rest) pos) (tAnd tA tB') :=
  (pw_and ha hb).mono fun σV H Q ⟨loc, σ, M, k, M', rel, e, aft⟩ => by
    obtain ⟨p, hp, e⟩ := bind_some e
    refine runT rel hp fun H1 loc1 rel1 ex1 l1 => ?_
    split at e
    · rename_i hc
      rw [if_pos hc]
      exact runT (p := (k, M')) rel1 e fun H2 loc2 rel2 ex2 l2 => aft H2 loc2 rel2.st (ex1.trans ex2) (l1.trans l2)
    · rename_i hc
      rw [if_neg hc]
      cases e
      exact aft H1 loc1 rel1.st ex1 l1
theorem w_or (ha : ET X a tA) (hb : EW X (.BoolOp .Or (b :: rest) pos) tB') : EW X (.BoolOp .Or (a :: b :: rest) pos) (tOr tA tB') :=
  (pw_or ha hb).mono fun σV H Q ⟨loc, σ, M, k, M', rel, e, aft⟩ => by
    obtain ⟨p, hp, e⟩ := bind_some e
    refine runT rel hp fun H1 loc1 rel1 ex1 l1 => ?_
    split at e
    · rename_i hc
      rw [if_pos hc]
      cases e
      exact aft H1 loc1 rel1.st ex1 l1
    · rename_i hc
      rw [if_neg hc]
      exact runT (p := (k, M')) rel1 e fun H2 loc2 rel2 ex2 l2 => aft H2 loc2 rel2.st (ex1.trans ex2) (l1.trans l2)
theorem t_w (h : EW X a tA) : ET X a tA := h.pt
theorem t_not (ha : ET X a tA) : ET X (.UnaryOp .Not a pos) (tNot tA) :=
  (pt_not ha).mono fun σV H Q ⟨loc, σ, M, k, M', rel, e, aft⟩ => by
    obtain ⟨p, hp, e⟩ := bind_some e
    cases e
    exact runT rel hp fun H1 loc1 rel1 ex1 l1 => aft H1 loc1 rel1.st ex1 l1
theorem r_one {op} (ha : EV X a ca) : EV X (.BoolOp op [a] pos) ca := pe_one ha
theorem r_and (ha : EV X a ca) (hb : EV X (.BoolOp .And (b :: rest) pos) cb) : EV X (.BoolOp .And (a :: b :: rest) pos) (eAnd ca cb) :=
  (pe_and ha hb).mono fun σV H Q ⟨loc, σ, M, w, M', rel, e, aft⟩ => by
    obtain ⟨p, hp, e⟩ := bind_some e
    refine run1 rel hp fun v H1 loc1 rel1 rd1 ex1 l1 => ?_
    split at e
    · rename_i hc
      rw [hc] at rd1
      cases rd1
      refine ⟨_, rfl, ?_⟩
      rw [if_pos rfl]
      exact run1 (p := (w, M')) rel1 e fun u H2 loc2 rel2 rd2 ex2 l2 => aft u H2 loc2 rel2.st rd2 (ex1.trans ex2) (l1.trans l2)
    · rename_i hc
      rw [hc] at rd1
      cases rd1
      refine ⟨_, rfl, ?_⟩
      rw [if_neg Bool.false_ne_true]
      cases e
      exact aft _ H1 loc1 rel1.st (.bl _) ex1 l1
    · cases e
theorem r_or (ha : EV X a ca) (hb : EV X (.BoolOp .Or (b :: rest) pos) cb) : EV X (.BoolOp .Or (a :: b :: rest) pos) (eOr ca cb) :=
  (pe_or ha hb).mono fun σV H Q ⟨loc, σ, M, w, M', rel, e, aft⟩ => by
    obtain ⟨p, hp, e⟩ := bind_some e
    refine run1 rel hp fun v H1 loc1 rel1 rd1 ex1 l1 => ?_
    split at e
    · rename_i hc
      rw [hc] at rd1
      cases rd1
      refine ⟨_, rfl, ?_⟩
      rw [if_pos rfl]
      cases e
      exact aft _ H1 loc1 rel1.st (.bl _) ex1 l1
    · rename_i hc
      rw [hc] at rd1
      cases rd1
      refine ⟨_, rfl, ?_⟩
      rw [if_neg Bool.false_ne_true]
      exact run1 (p := (w, M')) rel1 e fun u H2 loc2 rel2 rd2 ex2 l2 => aft u H2 loc2 rel2.st rd2 (ex1.trans ex2) (l1.trans l2)
    · cases e
theorem r_not (ha : EV X a ca) : EV X (.UnaryOp .Not a pos) (eNot ca) :=
  (pe_not ha).mono fun σV H Q ⟨loc, σ, M, w, M', rel, e, aft⟩ => by
    obtain ⟨p, hp, e⟩ := bind_some e
    refine run1 rel hp fun v H1 loc1 rel1 rd1 ex1 l1 => ?_
    split at e
    · rename_i hc
      rw [hc] at rd1
      cases rd1
      cases e
      exact ⟨_, rfl, aft _ H1 loc1 rel1.st (.bl _) ex1 l1⟩
    · cases e
theorem r_if (hc : ET X c tA) (ha : EV X a ca) (hb : EV X b cb) : EV X (.IfExp c a b pos) (eIf tA ca cb) :=
  (pe_ifExp hc ha hb).mono fun σV H Q ⟨loc, σ, M, w, M', rel, e, aft⟩ => by
    obtain ⟨p, hp, e⟩ := bind_some e
    refine runT rel hp fun H1 loc1 rel1 ex1 l1 => ?_
    split at e
    · rename_i hc
      rw [if_pos hc]
      exact run1 (p := (w, M')) rel1 e fun u H2 loc2 rel2 rd2 ex2 l2 => aft u H2 loc2 rel2.st rd2 (ex1.trans ex2) (l1.trans l2)
    · rename_i hc
      rw [if_neg hc]
      exact run1 (p := (w, M')) rel1 e fun u H2 loc2 rel2 rd2 ex2 l2 => aft u H2 loc2 rel2.st rd2 (ex1.trans ex2) (l1.trans l2)

/-! ### arguments, displays -/
variable {es : List Expr} {cs : List CE}
theorem runA {K : KW} {σV : L2.St} {H : Hp} {loc : List Addr} {σ : Sl} {M : Mem} {p : List W × Mem} {Q : List V → Hp → Prop} (rel : Rel K loc σ M σV H) (ha : eArgs cs σ M = some p)
    (h : ∀ vs H1 loc1, Rel K loc1 σ p.2 σV H1 → Rds K H1 loc1 vs p.1 → Ext K H H1 → loc <+: loc1 → Q vs H1) : TA' K (eArgs cs) σV H Q :=
  ⟨loc, σ, M, p.1, p.2, rel, ha, fun v H1 loc1 s r e l => h v H1 loc1 (rel.move s e l) r e l⟩
theorem a_nil : EA X [] [] := pa_nil.mono fun σV H Q ⟨loc, σ, M, ws, M', rel, e, aft⟩ => by
  cases e
  exact aft [] H loc rel.st .nil .refl (List.prefix_refl _)
theorem a_cons (ha : EV X a ca) (hb : EA X es cs) (hs : starEach (a :: es) X.env = (false, eval a X.env) :: starEach es X.env := by rfl) : EA X (a :: es) (ca :: cs) :=
  (pa_cons ha hb hs).mono fun σV H Q ⟨loc, σ, M, ws, M', rel, e, aft⟩ => by
    obtain ⟨p, hp, e⟩ := bind_some e
    obtain ⟨q, hq, e⟩ := bind_some e
    cases e
    exact run1 rel hp fun v H1 loc1 rel1 rd1 ex1 l1 => runA rel1 hq fun vs H2 loc2 rel2 rd2 ex2 l2 => aft _ H2 loc2 rel2.st (.cons (rd1.mono ex2 l2) rd2) (ex1.trans ex2) (l1.trans l2)
theorem lineOk {n : Nat} (h : n ≤ 16777216) : n ≤ sizeLine := h
theorem r_tup {x1} (h : EA X es cs) : EV X (.Tuple es x1 pos) (eTup cs) := (pe_tup h).mono fun σV H Q ⟨loc, σ, M, w, M', rel, e, aft⟩ => by
  obtain ⟨p, hp, e⟩ := bind_some e
  split at e
  · rename_i hz
    cases e
    refine runA rel hp fun vs H1 loc1 rel1 rd1 ex1 l1 => ⟨lineOk (by rw [rd1.length]; exact hz), fun q hq => ?_⟩
    exact aft _ _ loc1 (rel1.st.newT hq) (.tup (SqT.of upd_same) (rd1.mono (.new hq) (List.prefix_refl _))) (ex1.trans (.new hq)) l1
  · cases e
theorem last_get {α : Type} {l : List α} {a : α} {n : Nat} (h : n = l.length) : (l ++ [a])[n]? = some a := by subst h; simp
theorem new_lst {K : KW} {H : Hp} {loc : List Addr} {M : Mem} {xs : List V} {ws : List W} {q : Addr} (s : Store K H loc M) (r : Rds K H loc xs ws) (hq : H q = none) : Store K (upd H q (.lst xs)) (loc ++ [q]) (M ++ [.lst ws]) :=
  s.new hq ⟨xs, upd_same, r.mono (.new hq) (List.prefix_append _ _)⟩
theorem aft_lst {K : KW} {H : Hp} {loc : List Addr} {M : Mem} {xs : List V} {ws : List W} {q : Addr} {Q : VK} (s : Store K H loc M) (r : Rds K H loc xs ws) (hq : H q = none)
    (aft : Aft K H loc (.ref M.length) (M ++ [.lst ws]) Q) : Q (.ref q) (upd H q (.lst xs)) :=
  aft _ _ (loc ++ [q]) (new_lst s r hq) (.ref (last_get s.len.symm)) (.new hq) (List.prefix_append _ _)
theorem aft_tup {K : KW} {H : Hp} {loc : List Addr} {M : Mem} {xs : List V} {ws : List W} {q : Addr} {Q : VK} (s : Store K H loc M) (r : Rds K H loc xs ws) (hq : H q = none)
    (aft : Aft K H loc (.tup ws) M Q) : Q (.ref q) (upd H q (.tup xs)) :=
  aft _ _ loc (s.newT hq) (.tup (SqT.of upd_same) (r.mono (.new hq) (List.prefix_refl _))) (.new hq) (List.prefix_refl _)
theorem r_lst (h : EA X es cs) : EV X (.List es pos) (eLst cs) := (pe_lst h).mono fun σV H Q ⟨loc, σ, M, w, M', rel, e, aft⟩ => by
  obtain ⟨p, hp, e⟩ := bind_some e
  split at e
  · rename_i hz
    cases e
    refine runA rel hp fun vs H1 loc1 rel1 rd1 ex1 l1 => ⟨lineOk (by rw [rd1.length]; exact hz), fun q hq => ?_⟩
    exact aft_lst rel1.st rd1 hq (aft.after ex1 l1)
  · cases e

/-! ### calls -/
def LiftN (K : KW) (r : List V → Hp → VK → Prop) (f : Fn) : Prop :=
  ∀ (H : Hp) (loc : List Addr) (M : Mem) (ws : List W) (vs : List V) (w : W) (M' : Mem) (Q : VK), Store K H loc M → Rds K H loc vs ws → f ws M = some (w, M') → Aft K H loc w M' Q → r vs H Q
theorem cb_aux {r : List V → Hp → VK → Prop} {f : Fn} (hl : LiftN X.KW r f) (σV : L2.St) (H : Hp) (Q : VK) (h : TC X.KW (eN f cs) σV H Q) : tCB r (TA' X.KW (eArgs cs)) σV H Q := by
  obtain ⟨loc, σ, M, w, M', rel, e, aft⟩ := h
  obtain ⟨p, hp, e⟩ := bind_some e
  exact runA rel hp fun vs H1 loc1 rel1 rd1 ex1 l1 => hl H1 loc1 p.2 p.1 vs w M' Q rel1.st rd1 e (aft.after ex1 l1)
variable {x : Str} {p : Pos} {id T : String}
theorem r_callB {r : List V → Hp → VK → Prop} {f : Fn} (hc : CallR X (.builtin id) r) (hl : LiftN X.KW r f) (hg : Gl X x) (hm : X.mg x = none) (hv : bootBuiltins x = some (.builtin id)) (ha : EA X (e :: es) cs) (hn : x ≠ "__name__" := by decide) (hdb : (x == ("__debug__" : Str)) = false := by decide)
    (he : starEach (e :: es) X.env = (false, eval e X.env) :: starEach es X.env := by rfl) (hpl : (backTo pos (starEach es X.env)).any (·.1) = false := by rfl) : EV X (.Call (.Name x p) (e :: es) [] pos) (eN f cs) :=
  (pe_callB hc hg hm hv ha hn hdb he hpl).mono (cb_aux hl)
theorem r_callTy {r : List V → Hp → VK → Prop} {f : Fn} (hc : CallR X (.type T) r) (hl : LiftN X.KW r f) (hg : Gl X x) (hm : X.mg x = none) (hv : bootBuiltins x = some (.type T)) (ha : EA X (e :: es) cs) (hn : x ≠ "__name__" := by decide) (hdb : (x == ("__debug__" : Str)) = false := by decide)
    (he : starEach (e :: es) X.env = (false, eval e X.env) :: starEach es X.env := by rfl) (hpl : (backTo pos (starEach es X.env)).any (·.1) = false := by rfl) : EV X (.Call (.Name x p) (e :: es) [] pos) (eN f cs) :=
  (pe_callTy hc hg hm hv ha hn hdb he hpl).mono (cb_aux hl)
/-- the promise of a def of one's own: what F says -/
def spF (K : KW) (n : Nat) (F : Fn) : Sp := fun vs H Q _ => vs.length = n ∧ ∃ loc M ws w M', Store K H loc M ∧ Rds K H loc vs ws ∧ F ws M = some (w, M') ∧ Aft K H loc w M' Q
theorem eArgs_length : ∀ {cs : List CE} {σ : Sl} {M : Mem} {p : List W × Mem}, eArgs cs σ M = some p → p.1.length = cs.length
  | [], _, _, _, h => by cases h; rfl
  | c :: cs, σ, M, p, h => by
    obtain ⟨q, hq, h⟩ := bind_some h
    obtain ⟨t, ht, h⟩ := bind_some h
    cases h
    rw [List.length_cons, List.length_cons, eArgs_length ht]
theorem r_call {F : Fn} {k : Nat} {f : Addr} {fd : FuncData} {ps : List Str} (G : FnOk X.prog X.w X.KW X.mg X.base CX0 k f fd ps (spF X.KW ps.length F)) (hr : Room k X.A) (hg : Gl X x) (hm : X.mg x = some (.ref f)) (hk : PySem.W.keepIn X.KW (.ref f) = true) (hb : Binds X.KW fd ps [])
    (ha : EA X (e :: es) cs) (hn : cs.length = ps.length := by rfl) (hdb : (x == ("__debug__" : Str)) = false := by decide) (he : starEach (e :: es) X.env = (false, eval e X.env) :: starEach es X.env := by rfl) (hpl : (backTo pos (starEach es X.env)).any (·.1) = false := by rfl) :
    EV X (.Call (.Name x p) (e :: es) [] pos) (eN F cs) :=
  (pe_call G hr hg hm hk hb .nil pass0 ha hdb he hpl).mono fun σV H Q ⟨loc, σ, M, w, M', rel, e, aft⟩ => by
    obtain ⟨q, hq, e⟩ := bind_some e
    refine runA rel hq fun vs H1 loc1 rel1 rd1 ex1 l1 => ?_
    rw [List.append_nil]
    exact ⟨by rw [rd1.length, eArgs_length hq, hn], loc1, q.2, q.1, w, M', rel1.st, rd1, e, aft.after ex1 l1⟩
/-! ### methods of lists -/
variable {o : Expr} {co : CE} {name : Str} {apos cpos : Pos}
theorem isLst_ty {K : KW} {H : Hp} {loc : List Addr} {M : Mem} {v : V} {w : W} (s : Store K H loc M) (r : Rd K H loc v w) (h : isLst M w = true) : tyV K "list" v H := by
  cases r with
  | @ref a n hn =>
    simp only [isLst] at h
    split at h
    · rename_i zs e2
      obtain ⟨xs, h1, _⟩ := s.ok n a _ hn e2
      exact .inl ⟨rfl, xs, SqL.of h1⟩
    · cases h
  | _ => cases h
theorem r_meth {r : V → List V → Hp → VK → Prop} {f : Fn} (slot : Slot "list" name id) (hty : typeOf (.builtin id) = pure (.type "method_descriptor")) (hm : MtR X id r)
    (hl : LiftN X.KW (fun vs H Q => ∃ v us, vs = v :: us ∧ r v us H Q) f) (ho : EV X o co) (ha : EA X (e :: es) cs)
    (hbase : attributeBase o name X.env (eval o X.env) = eval o X.env := by rfl)
    (hfew : ((backTo cpos (starEach (e :: es) X.env)).all (fun x => !x.1) && (backToKw cpos (keywordEach [] X.env)).all (fun x => x.1.isSome)
      && decide ((e :: es).length + ([] : List Keyword).length + (if ([] : List Keyword).isEmpty then 0 else 1) < 30)) = true := by rfl)
    (hline : (apos.endLine == cpos.line) = true := by rfl) (hs : starEach (e :: es) X.env = (false, eval e X.env) :: starEach es X.env := by rfl) (hplain : (backTo cpos (starEach es X.env)).any (·.1) = false := by rfl) :
    EV X (.Call (.Attribute o name apos) (e :: es) [] cpos) (eML f co cs) :=
  (pe_bm PySem.F.plainAttrs_list slot hty hm ho ha hbase hfew hline hs hplain).mono fun σV H Q ⟨loc, σ, M, w, M', rel, e, aft⟩ => by
    obtain ⟨q, hq, e⟩ := bind_some e
    split at e
    · rename_i hi
      obtain ⟨t, ht, e⟩ := bind_some e
      refine run1 rel hq fun v H1 loc1 rel1 rd1 ex1 l1 => ⟨isLst_ty rel1.st rd1 hi, ?_⟩
      refine runA rel1 ht fun vs H2 loc2 rel2 rd2 ex2 l2 => ?_
      obtain ⟨v', us, e', h⟩ := hl H2 loc2 t.2 (q.1 :: t.1) (v :: vs) w M' Q rel2.st (.cons (rd1.mono ex2 l2) rd2) e (aft.after (ex1.trans ex2) (l1.trans l2))
      cases e'
      exact h
    · cases e
theorem r_meth0 {r : V → List V → Hp → VK → Prop} {f : Fn} (slot : Slot "list" name id) (hty : typeOf (.builtin id) = pure (.type "method_descriptor")) (hm : MtR X id r)
    (hl : LiftN X.KW (fun vs H Q => ∃ v us, vs = v :: us ∧ r v us H Q) f) (ho : EV X o co)
    (hbase : attributeBase o name X.env (eval o X.env) = eval o X.env := by rfl) (hline : (apos.endLine == cpos.line) = true := by rfl) :
    EV X (.Call (.Attribute o name apos) [] [] cpos) (eML f co []) :=
  (pe_bm0 PySem.F.plainAttrs_list slot hty hm ho hbase hline).mono fun σV H Q ⟨loc, σ, M, w, M', rel, e, aft⟩ => by
    obtain ⟨q, hq, e⟩ := bind_some e
    split at e
    · rename_i hi
      refine run1 rel hq fun v H1 loc1 rel1 rd1 ex1 l1 => ⟨isLst_ty rel1.st rd1 hi, ?_⟩
      obtain ⟨v', us, e', h⟩ := hl H1 loc1 q.2 [q.1] [v] w M' Q rel1.st (.cons rd1 .nil) e (aft.after ex1 l1)
      cases e'
      exact h
    · cases e

/-! ### items, slices -/
theorem r_ix {r : R2} {g : Mem → W → W → Option (W × Mem)} (hr : IxR X r) (hl : Lift2 X.KW r g) (ha : EV X a ca) (hb : EV X b cb) (hs : PlainIx b := by exact fun _ _ => rfl) : EV X (.Subscript a b pos) (e2 g ca cb) := (pe_ix hr ha hb hs).mono (op2 hl)
def TO' (K : KW) (c : Option CE) : TO := fun σV H Q => ∃ loc σ M o M', Rel K loc σ M σV H ∧ ePart c σ M = some (o, M') ∧ ∀ H' loc', Store K H' loc' M' → Ext K H H' → loc <+: loc' → Q o H'
abbrev EO (X : Cx) (e : Option Expr) (c : Option CE) : Prop := PO X e (TO' X.KW c)
theorem o_none : EO X none none := ⟨fun pins s σ H Q I h => po_none.run pins s σ H Q I (by
  obtain ⟨loc, σ', M, o, M', rel, e, aft⟩ := h
  cases e
  exact aft H loc rel.st .refl (List.prefix_refl _))⟩
theorem o_some (ha : EV X a ca) : EO X (some a) (some ca) := ⟨fun pins s σ H Q I h => (po_some ha).run pins s σ H Q I (by
  obtain ⟨loc, σ', M, o, M', rel, e, aft⟩ := h
  obtain ⟨p, hp, e⟩ := bind_some e
  refine run1 rel hp fun v H1 loc1 rel1 rd1 ex1 l1 => ?_
  split at e
  · rename_i i hi
    cases e
    rw [hi] at rd1
    cases rd1
    exact ⟨_, rfl, aft H1 loc1 rel1.st ex1 l1⟩
  · cases e)⟩
def LiftS (K : KW) (r : V → Option Int → Option Int → Hp → VK → Prop) (g : Mem → W → Option Int → Option Int → Option (W × Mem)) : Prop :=
  ∀ (H : Hp) (loc : List Addr) (M : Mem) (x : W) (v : V) (lo hi : Option Int) (w : W) (M' : Mem) (Q : VK), Store K H loc M → Rd K H loc v x → g M x lo hi = some (w, M') → Aft K H loc w M' Q → r v lo hi H Q
theorem r_sl {r : V → Option Int → Option Int → Hp → VK → Prop} {lo hi : Option Expr} {cl ch : Option CE} {p2 : Pos} (hr : SlR X r) (hl : LiftS X.KW r gSl) (ha : EV X a ca) (h1 : EO X lo cl) (h2 : EO X hi ch) : EV X (.Subscript a (.Slice lo hi none p2) pos) (eSl ca cl ch) :=
  (pe_slice hr ha h1 h2).mono fun σV H Q ⟨loc, σ, M, w, M', rel, e, aft⟩ => by
    obtain ⟨p, hp, e⟩ := bind_some e
    obtain ⟨q, hq, e⟩ := bind_some e
    obtain ⟨t, ht, e⟩ := bind_some e
    refine run1 rel hp fun v H1 loc1 rel1 rd1 ex1 l1 => ?_
    refine ⟨loc1, σ, p.2, q.1, q.2, rel1, hq, fun H2 loc2 s2 ex2 l2 => ?_⟩
    have rel2 := rel1.move s2 ex2 l2
    refine ⟨loc2, σ, q.2, t.1, t.2, rel2, ht, fun H3 loc3 s3 ex3 l3 => ?_⟩
    exact hl H3 loc3 t.2 p.1 v q.1 t.1 w M' Q s3 (rd1.mono (ex2.trans ex3) (l2.trans l3)) e (aft.after ((ex1.trans ex2).trans ex3) ((l1.trans l2).trans l3))
end
end BF

set_option Elab.async false
set_option linter.all false
set_option autoImplicit false
set_option maxRecDepth 100000
/-! The rules: targets, statements, loops, comprehensions, defs. -/
namespace BF
open PySem PySem.Spec
open PyProof.Rows L2

section
variable {X : Cx} {a b c e tg iter : Expr} {ca cb cc : CE} {pos : Pos} {g : CG} {gs : List CG} {es : List Expr} {cs : List CE}

/-! ### targets -/
theorem g_name (i : Nat) {x : Str} (hN : X.N.Nodup) (hi : X.N[i]? = some x := by rfl) (hx : Loc X.env.scope x := by first | exact Or.inl rfl | exact Or.inr rfl)
    (hf : X.fn x = true ∨ X.env.scope.names.lookup x = some .local := by first | exact .inl rfl | exact .inr rfl) : EG X (.Name x pos) (gV i) :=
  (pg_name hN hi hx hf).mono fun v σV H Q ⟨loc, σ, M, w, σ', rel, rd, e, q⟩ => by
    cases e
    exact q _ (rel.set rd i)
theorem gs_nil : EGs X [] [] := pgs_nil.mono fun vs σV H Q ⟨loc, σ, M, ws, σ', rel, rd, e, q⟩ => by
  cases rd with
  | nil => cases e; exact ⟨rfl, q σV rel⟩
  | cons _ _ => cases e
theorem gs_cons (h1 : EG X a g) (h2 : EGs X es gs) (hs : (assignEach (a :: es) X.env).map (·.2) = assign a X.env :: (assignEach es X.env).map (·.2) := by rfl) : EGs X (a :: es) (g :: gs) :=
  (pgs_cons h1 h2 hs).mono fun vs σV H Q ⟨loc, σ, M, ws, σ', rel, rd, e, q⟩ => by
    cases rd with
    | nil => cases e
    | @cons v vs w ws r rs =>
      obtain ⟨σ1, e1, e2⟩ := bind_some e
      exact ⟨v, vs, rfl, loc, σ, M, w, σ1, rel, r, e1, fun σV1 rel1 => ⟨loc, σ1, M, ws, σ', rel1, rs, e2, q⟩⟩
theorem gAll_length : ∀ {gs : List CG} {ws : List W} {σ σ' : Sl}, gAll gs ws σ = some σ' → ws.length = gs.length
  | [], [], _, _, _ => rfl
  | [], _ :: _, _, _, h => by cases h
  | _ :: _, [], _, _, h => by cases h
  | g :: gs, w :: ws, σ, σ', h => by
    obtain ⟨σ1, _, h⟩ := bind_some h
    rw [List.length_cons, List.length_cons, gAll_length h]
theorem g_tup {k : Nat} (hc : X.calm = true) (h : EGs X es gs) (hn : (assignEach es X.env).length = gs.length := by rfl) (hst : (assignEach es X.env).findIdx? (·.1) = none := by rfl) : EG X (.Tuple es k pos) (gT gs) :=
  (pg_tup hc h hn hst).mono fun v σV H Q ⟨loc, σ, M, w, σ', rel, rd, e, q⟩ => by
    cases rd with
    | @tup a xs ws sq rs => exact ⟨a, xs, rfl, sq, by rw [rs.length]; exact gAll_length e, loc, σ, M, ws, σ', rel, rs, e, q⟩
    | _ => cases e
/-- a comprehension's target: only the slots vs are touched -/
def TGw (K : KW) (vs : List Nat) (c : CG) : TG := fun v σV H Q => ∃ loc σ M w σ', Rel K loc σ M σV H ∧ Rd K H loc v w ∧ c w σ = some σ' ∧ ∀ σV', Rel K loc σ' M σV' H → L2.wipe σV' vs = L2.wipe σV vs → Q σV' H
def TGsw (K : KW) (vs : List Nat) (c : List CG) : TGs := fun us σV H Q => ∃ loc σ M ws σ', Rel K loc σ M σV H ∧ Rds K H loc us ws ∧ gAll c ws σ = some σ' ∧ ∀ σV', Rel K loc σ' M σV' H → L2.wipe σV' vs = L2.wipe σV vs → Q σV' H
abbrev EGw (X : Cx) (vs : List Nat) (e : Expr) (c : CG) : Prop := PG X e (TGw X.KW vs c)
abbrev EGsw (X : Cx) (vs : List Nat) (es : List Expr) (c : List CG) : Prop := PGs X es (TGsw X.KW vs c)
theorem wipe_set {σ : L2.St} {i : Nat} {x : Option V} : ∀ {vs : List Nat}, i ∈ vs → L2.wipe (σ.set i x) vs = L2.wipe σ vs
  | [], h => by cases h
  | v :: vs, h => by
    show (L2.wipe (σ.set i x) vs).set v none = (L2.wipe σ vs).set v none
    by_cases hv : i ∈ vs
    · rw [wipe_set hv]
    · have e : i = v := by
        rcases List.mem_cons.mp h with h | h
        · exact h
        · exact absurd h hv
      subst e
      have : ∀ (us : List Nat), i ∉ us → L2.wipe (σ.set i x) us = (L2.wipe σ us).set i x := by
        intro us
        induction us with
        | nil => intro _; rfl
        | cons u us ih =>
          intro hu
          show (L2.wipe (σ.set i x) us).set u none = ((L2.wipe σ us).set u none).set i x
          rw [ih (fun z => hu (List.mem_cons_of_mem _ z)), List.set_comm _ _ (fun z => hu (by rw [z]; exact List.mem_cons_self))]
      rw [this vs hv, List.set_set]
theorem wipe_wipe (σ : L2.St) : ∀ vs : List Nat, L2.wipe (L2.wipe σ vs) vs = L2.wipe σ vs := by
  have : ∀ (us vs : List Nat), (∀ v ∈ vs, v ∈ us) → L2.wipe (L2.wipe σ vs) us = L2.wipe σ us := by
    intro us vs
    induction vs with
    | nil => intro _; rfl
    | cons v vs ih =>
      intro h
      show L2.wipe ((L2.wipe σ vs).set v none) us = _
      rw [wipe_set (h v List.mem_cons_self), ih fun u hu => h u (List.mem_cons_of_mem _ hu)]
  exact fun vs => this vs vs fun _ h => h
theorem gw_name {vs : List Nat} (i : Nat) {x : Str} (hN : X.N.Nodup) (hv : i ∈ vs := by decide) (hi : X.N[i]? = some x := by rfl) (hx : Loc X.env.scope x := by first | exact Or.inl rfl | exact Or.inr rfl)
    (hf : X.fn x = true ∨ X.env.scope.names.lookup x = some .local := by first | exact .inl rfl | exact .inr rfl) : EGw X vs (.Name x pos) (gV i) :=
  (pg_name hN hi hx hf).mono fun v σV H Q ⟨loc, σ, M, w, σ', rel, rd, e, q⟩ => by
    cases e
    exact q _ (rel.set rd i) (wipe_set hv)
theorem gsw_nil {vs : List Nat} : EGsw X vs [] [] := pgs_nil.mono fun us σV H Q ⟨loc, σ, M, ws, σ', rel, rd, e, q⟩ => by
  cases rd with
  | nil => cases e; exact ⟨rfl, q σV rel rfl⟩
  | cons _ _ => cases e
theorem gsw_cons {vs : List Nat} (h1 : EGw X vs a g) (h2 : EGsw X vs es gs) (hs : (assignEach (a :: es) X.env).map (·.2) = assign a X.env :: (assignEach es X.env).map (·.2) := by rfl) : EGsw X vs (a :: es) (g :: gs) :=
  (pgs_cons h1 h2 hs).mono fun us σV H Q ⟨loc, σ, M, ws, σ', rel, rd, e, q⟩ => by
    cases rd with
    | nil => cases e
    | @cons v us w ws r rs =>
      obtain ⟨σ1, e1, e2⟩ := bind_some e
      exact ⟨v, us, rfl, loc, σ, M, w, σ1, rel, r, e1, fun σV1 rel1 z1 => ⟨loc, σ1, M, ws, σ', rel1, rs, e2, fun σV2 rel2 z2 => q σV2 rel2 (z2.trans z1)⟩⟩
theorem gw_tup {vs : List Nat} {k : Nat} (hc : X.calm = true) (h : EGsw X vs es gs) (hn : (assignEach es X.env).length = gs.length := by rfl) (hst : (assignEach es X.env).findIdx? (·.1) = none := by rfl) : EGw X vs (.Tuple es k pos) (gT gs) :=
  (pg_tup hc h hn hst).mono fun v σV H Q ⟨loc, σ, M, w, σ', rel, rd, e, q⟩ => by
    cases rd with
    | @tup a xs ws sq rs => exact ⟨a, xs, rfl, sq, by rw [rs.length]; exact gAll_length e, loc, σ, M, ws, σ', rel, rs, e, q⟩
    | _ => cases e

/-! ### statements -/
variable {st : Stmt} {rest : List Stmt} {s s' : CS}
theorem runS {K : KW} {σV : L2.St} {H : Hp} {loc : List Addr} {σ : Sl} {M : Mem} {o : Out} {D : Ends} (rel : Rel K loc σ M σV H) (ha : s σ M = some o) (h : AftS K H loc D o) : TS' K s D σV H := ⟨loc, σ, M, o, rel, ha, h⟩
theorem ss_nil : ESs X [] sNil := pss_nil.mono fun D σV H ⟨loc, σ, M, o, rel, e, aft⟩ => by
  cases e
  exact aft σV H loc rel .refl (List.prefix_refl _)
theorem ss_one (h : ES X st s) : ESs X [st] s := pss_one h
theorem ss_cons (h1 : ES X st s) (h2 : ESs X rest s') : ESs X (st :: rest) (sSeq s s') :=
  (pss_cons h1 h2).mono fun D σV H ⟨loc, σ, M, o, rel, e, aft⟩ => by
    obtain ⟨o1, h, e⟩ := bind_some e
    refine ⟨loc, σ, M, o1, rel, h, ?_⟩
    cases o1 with
    | nx σ1 M1 => exact fun σV1 H1 loc1 rel1 ex1 l1 => ⟨loc1, σ1, M1, o, rel1, e, aft.after ex1 l1⟩
    | rt w M1 => cases e; exact aft
    | bk σ1 M1 => cases e; exact aft
    | ct σ1 M1 => cases e; exact aft
theorem s_set (i : Nat) {x : Str} {pos' : Pos} (hN : X.N.Nodup) (he : EV X e ca) (hi : X.N[i]? = some x := by rfl) (hx : Loc X.env.scope x := by first | exact Or.inl rfl | exact Or.inr rfl)
    (hs : swapsWith e (some (.Name x pos')) pos.line X.env = pure false := by rfl) (hf : X.fn x = true ∨ X.env.scope.names.lookup x = some .local := by first | exact .inl rfl | exact .inr rfl) : ES X (.Assign [.Name x pos'] e pos) (sSet (gV i) ca) :=
  (ps_set hN hi hx he hs hf).mono fun D σV H ⟨loc, σ, M, o, rel, e, aft⟩ => by
    obtain ⟨p, hp, e⟩ := bind_some e
    cases e
    exact run1 rel hp fun v H1 loc1 rel1 rd1 ex1 l1 => aft _ H1 loc1 (rel1.set rd1 i) ex1 l1
theorem asg_aux {D : Ends} {σV : L2.St} {H : Hp} (h : TS' X.KW (sSet g ca) D σV H) : tAsg (TC X.KW ca) (TG' X.KW g) D σV H := by
  obtain ⟨loc, σ, M, o, rel, e, aft⟩ := h
  obtain ⟨p, hp, e⟩ := bind_some e
  obtain ⟨σ1, h1, e⟩ := bind_some e
  cases e
  exact run1 rel hp fun v H1 loc1 rel1 rd1 ex1 l1 => ⟨loc1, σ, p.2, p.1, σ1, rel1, rd1, h1, fun σV' rel' => aft σV' H1 loc1 rel' ex1 l1⟩
/-- any target -/
theorem s_asg (he : EV X e ca) (hg : EG X tg g) (hs : swapsWithSole [tg] e pos.line X.env = pure false := by rfl) (hw : swappedStores [tg] e X.env = pure none := by rfl)
    (h1 : (assignEach [tg] X.env).map (·.2) = [assign tg X.env] := by rfl) : ES X (.Assign [tg] e pos) (sSet g ca) :=
  (ps_asg he hg hs hw h1).mono fun D σV H h => asg_aux h
theorem s_par2 (i j : Nat) {x y : Str} {px py pt : Pos} {kt k2 pt2} (hc : X.calm = true) (hN : X.N.Nodup) (ha : EA X [a, b] [ca, cb]) (hi : X.N[i]? = some x := by rfl) (hj : X.N[j]? = some y := by rfl) (hij : i ≠ j := by decide)
    (hx : X.env.scope.names.lookup x = some .local := by rfl) (hy : X.env.scope.names.lookup y = some .local := by rfl)
    (hw : swappedStores [.Tuple [.Name x px, .Name y py] kt pt] (.Tuple [a, b] k2 pt2) X.env = pure (some [x, y]) := by rfl)
    (hs : swapsWithSole [.Tuple [.Name x px, .Name y py] kt pt] (.Tuple [a, b] k2 pt2) pos.line X.env = pure false := by rfl) :
    ES X (.Assign [.Tuple [.Name x px, .Name y py] kt pt] (.Tuple [a, b] k2 pt2) pos) (sPar [i, j] [ca, cb]) :=
  (ps_par hc hN hi hj hij hx hy ha hw hs).mono fun D σV H ⟨loc, σ, M, o, rel, e, aft⟩ => by
    obtain ⟨p, hp, e⟩ := bind_some e
    refine runA rel hp fun vs H1 loc1 rel1 rd1 ex1 l1 => ?_
    have hl : p.1.length = 2 := eArgs_length hp
    obtain ⟨p1, p2⟩ := p
    match p1, hl, rd1 with
    | [w1, w2], _, .cons (v := v1) r1 (.cons (v := v2) r2 .nil) =>
      cases e
      exact ⟨_, _, rfl, aft _ H1 loc1 ((rel1.set r1 i).set r2 j) ex1 l1⟩
theorem s_aug (i : Nat) {x : Str} {op : Operator} {r : R2} {f : Mem → W → W → Option (W × Mem)} {pos' : Pos} (hN : X.N.Nodup) (ho : OpR X (inplaceOp op) r) (hl : Lift2 X.KW r f) (he : EV X e ca) (hi : X.N[i]? = some x := by rfl) (hx : Loc X.env.scope x := by first | exact Or.inl rfl | exact Or.inr rfl)
    (hf : X.fn x = true ∨ X.env.scope.names.lookup x = some .local := by first | exact .inl rfl | exact .inr rfl) : ES X (.AugAssign (.Name x pos') op e pos) (sAug i f ca) :=
  (ps_aug hN hi hx he (show PIp X op r from ho) hf).mono fun D σV H ⟨loc, σ, M, o, rel, e, aft⟩ => by
    unfold sAug at e
    split at e
    · rename_i w hw
      obtain ⟨p, hp, e⟩ := bind_some e
      obtain ⟨q, hq, e⟩ := bind_some e
      cases e
      have hw' : σ[i]? = some (some w) := by
        rw [List.getD_eq_getElem?_getD] at hw
        cases z : σ[i]? with
        | none => rw [z] at hw; cases hw
        | some u => rw [z] at hw; exact congrArg some hw
      obtain ⟨v, h1, h2⟩ := rel.sl i w hw'
      refine ⟨v, h1, run1 rel hp fun u H1 loc1 rel1 rd1 ex1 l1 => ?_⟩
      refine hl H1 loc1 p.2 w p.1 v u q.1 q.2 _ rel1.st (h2.mono ex1 l1) rd1 hq fun z H2 loc2 s2 rd2 ex2 l2 => ?_
      exact aft _ H2 loc2 ((rel1.move s2 ex2 l2).set rd2 i) (ex1.trans ex2) (l1.trans l2)
    · cases e
def LiftP (K : KW) (r : TSet) (f : Mem → W → W → W → Option Mem) : Prop :=
  ∀ (H : Hp) (loc : List Addr) (M : Mem) (x y z : W) (o i v : V) (M' : Mem) (Q : Hp → Prop), Store K H loc M → Rd K H loc o x → Rd K H loc i y → Rd K H loc v z → f M x y z = some M' →
    (∀ H' loc', Store K H' loc' M' → Ext K H H' → loc <+: loc' → Q H') → r o i v H Q
theorem s_put {r : TSet} {f : Mem → W → W → W → Option Mem} {pos1 : Pos} (ho : PSet X r) (hl : LiftP X.KW r f) (he : EV X e ca) (h1 : EV X a cb) (h2 : EV X b cc)
    (hs : swapsWithSole [.Subscript a b pos1] e pos.line X.env = pure false := by rfl) (hw : swappedStores [.Subscript a b pos1] e X.env = pure none := by rfl)
    (h3 : (assignEach [.Subscript a b pos1] X.env).map (·.2) = [assign (.Subscript a b pos1) X.env] := by rfl)
    (ha : ∀ v, assign (.Subscript a b pos1) X.env v = (do
      let ov ← holding [v] (eval a X.env)
      let iv ← holding [v, ov] (eval b X.env)
      standAt pos1
      holding [v, ov, iv] (setItem ov iv v)
      release [v, ov, iv] []) := by intro _; rfl) : ES X (.Assign [.Subscript a b pos1] e pos) (sPut f cb cc ca) :=
  (ps_asg he (pg_sub h1 h2 ho ha) hs hw h3).mono fun D σV H ⟨loc, σ, M, o, rel, e, aft⟩ => by
    obtain ⟨p, hp, e⟩ := bind_some e
    obtain ⟨q, hq, e⟩ := bind_some e
    obtain ⟨t, ht, e⟩ := bind_some e
    obtain ⟨M', hM, e⟩ := bind_some e
    cases e
    refine run1 rel hp fun v H1 loc1 rel1 rd1 ex1 l1 => run1 rel1 hq fun u H2 loc2 rel2 rd2 ex2 l2 => run1 rel2 ht fun z H3 loc3 rel3 rd3 ex3 l3 => ?_
    refine hl H3 loc3 t.2 q.1 t.1 p.1 u z v M' _ rel3.st (rd2.mono ex3 l3) rd3 (rd1.mono (ex2.trans ex3) (l2.trans l3)) hM fun H4 loc4 s4 ex4 l4 => ?_
    exact aft σV H4 loc4 (rel3.move s4 ex4 l4) (((ex1.trans ex2).trans ex3).trans ex4) (((l1.trans l2).trans l3).trans l4)
theorem s_expr (he : EV X e ca) (hs : swapsWith e none pos.line X.env = pure false := by rfl) : ES X (.Expr e pos) (sExpr ca) :=
  (ps_expr he hs).mono fun D σV H ⟨loc, σ, M, o, rel, e, aft⟩ => by
    obtain ⟨p, hp, e⟩ := bind_some e
    cases e
    exact run1 rel hp fun v H1 loc1 rel1 rd1 ex1 l1 => aft _ H1 loc1 rel1 ex1 l1
theorem s_ret (he : EV X e ca) : ES X (.Return (some e) pos) (sRet ca) :=
  (ps_ret he).mono fun D σV H ⟨loc, σ, M, o, rel, e, aft⟩ => by
    obtain ⟨p, hp, e⟩ := bind_some e
    cases e
    exact ⟨loc, σ, M, p.1, p.2, rel, hp, aft⟩
theorem s_break : ES X (.Break pos) sBreak := ps_break.mono fun D σV H ⟨loc, σ, M, o, rel, e, aft⟩ => by
  cases e
  exact aft σV H loc rel .refl (List.prefix_refl _)
theorem s_if {tA : CT} {sa sb : List Stmt} (hc : ET X c tA) (ha : ESs X sa s) (hb : ESs X sb s') : ES X (.If c sa sb pos) (sIf tA s s') :=
  (ps_if hc ha hb).mono fun D σV H ⟨loc, σ, M, o, rel, e, aft⟩ => by
    obtain ⟨p, hp, e⟩ := bind_some e
    refine runT rel hp fun H1 loc1 rel1 ex1 l1 => ?_
    split at e
    · rename_i h; rw [if_pos h]; exact ⟨loc1, σ, p.2, o, rel1, e, aft.after ex1 l1⟩
    · rename_i h; rw [if_neg h]; exact ⟨loc1, σ, p.2, o, rel1, e, aft.after ex1 l1⟩

/-! ### loops -/
/-- the iterator J yields ws while the memory stays as gd says -/
def WalkW (K : KW) (H0 : Hp) (loc0 : List Addr) (J : It) (ws : List W) (gd : Mem → Bool) : Prop :=
  ∀ (i : Nat) (H : Hp) (loc : List Addr) (M : Mem), Store K H loc M → Ext K H0 H → loc0 <+: loc → gd M = true →
    (∀ w, ws[i]? = some w → J.go i H ∧ ∀ x H2, J.yld i H x H2 → Rd K H2 loc x w ∧ Store K H2 loc M ∧ Ext K H H2) ∧ (ws.length ≤ i → J.stop i H)
def TI' (K : KW) (c : CI) : TI := fun σV H R => ∃ loc σ M ws gd M', Rel K loc σ M σV H ∧ c σ M = some (ws, gd, M') ∧
  ∀ J H' loc', Store K H' loc' M' → Ext K H H' → loc <+: loc' → WalkW K H' loc' J ws gd → R J H'
abbrev EI (X : Cx) (tg iter : Expr) (c : CI) : Prop := PI X tg iter (TI' X.KW c)
theorem _root_.L2.PI.mono {t t' : TI} (h : PI X tg iter t) (f : ∀ σ H R, t' σ H R → t σ H R) : PI X tg iter t' := ⟨fun p s σ H R I q => h.run p s σ H R I (f σ H R q)⟩
theorem s_for {it : CI} {body : List Stmt} (hi : EI X tg iter it) (hg : EG X tg g) (hb : ESs X body s) (hp : PassesOwn (model X.prog X.w) X.A X.env X.xe := by exact PassesOwn.never) (hc : X.calm = true := by rfl)
    (hs : ∀ x, foldedSetIterable iter X.env x = pure x := by intro _; rfl) : ES X (.For tg iter body [] pos) (sFor it g s) :=
  (ps_for hp hc hi hg hb hs).mono fun D σV H ⟨loc, σ, M, o, rel, e, aft⟩ => by
    obtain ⟨p, hp, e⟩ := bind_some e
    obtain ⟨ws, gd, M1⟩ := p
    refine ⟨loc, σ, M, ws, gd, M1, rel, hp, fun J H1 loc1 s1 ex1 l1 wk => ?_⟩
    have aft1 := aft.after ex1 l1
    refine ⟨fun i m σV' Hc => i ≤ ws.length ∧ m = ws.length - i ∧ ∃ locc σc Mc, Rel X.KW locc σc Mc σV' Hc ∧ Ext X.KW H1 Hc ∧ loc1 <+: locc ∧ forL gd g s (ws.drop i) σc Mc = some o,
      ⟨ws.length, Nat.zero_le _, rfl, loc1, σ, M1, rel.move s1 ex1 l1, .refl, List.prefix_refl _, e⟩, fun i m σV' Hc hW => ?_⟩
    obtain ⟨hi, rfl, locc, σc, Mc, relc, exc, lc, ec⟩ := hW
    by_cases hlt : i < ws.length
    · rw [List.drop_eq_getElem_cons hlt] at ec
      rw [forL] at ec
      split at ec
      · rename_i hgd
        obtain ⟨σ1, hg1, ec⟩ := bind_some ec
        obtain ⟨ob, hob, ec⟩ := bind_some ec
        obtain ⟨w1, _⟩ := wk i Hc locc Mc relc.st exc lc hgd
        obtain ⟨go, yl⟩ := w1 ws[i] (List.getElem?_eq_getElem hlt)
        refine .inr ⟨go, fun σV'' H'' => ∃ loc'' σ'' M'', Rel X.KW loc'' σ'' M'' σV'' H'' ∧ Ext X.KW H1 H'' ∧ loc1 <+: loc'' ∧ forL gd g s (ws.drop (i + 1)) σ'' M'' = some o, fun σV'' H'' hN => ?_, fun x H2 y => ?_⟩
        · exact ⟨ws.length - (i + 1), by omega, hlt, rfl, hN⟩
        · obtain ⟨rd, st2, ex2⟩ := yl x H2 y
          refine ⟨locc, σc, Mc, ws[i], σ1, relc.move st2 ex2 (List.prefix_refl _), rd, hg1, fun σV2 rel2 => ?_⟩
          refine ⟨locc, σ1, Mc, ob, rel2, hob, ?_⟩
          have exA := exc.trans ex2
          cases ob with
          | nx σ3 M3 => exact fun σV3 H3 loc3 rel3 ex3 l3 => ⟨loc3, σ3, M3, rel3, exA.trans ex3, lc.trans l3, ec⟩
          | ct σ3 M3 => exact fun σV3 H3 loc3 rel3 ex3 l3 => ⟨loc3, σ3, M3, rel3, exA.trans ex3, lc.trans l3, ec⟩
          | bk σ3 M3 =>
            cases ec
            exact fun σV3 H3 loc3 rel3 ex3 l3 => aft1 σV3 H3 loc3 rel3 (exA.trans ex3) (lc.trans l3)
          | rt w M3 =>
            cases ec
            exact Aft.after (K := X.KW) aft1 exA lc
      · cases ec
    · have e0 : i = ws.length := by omega
      subst e0
      rw [List.drop_length, forL] at ec
      split at ec
      · rename_i hgd
        cases ec
        obtain ⟨_, w2⟩ := wk ws.length Hc locc Mc relc.st exc lc hgd
        exact .inl ⟨w2 (Nat.le_refl _), aft1 σV' Hc locc relc exc lc⟩
      · cases ec
theorem s_while (n : Nat) {tA : CT} {body : List Stmt} (hc : ET X c tA) (hb : ESs X body s) (hp : PassesOwn (model X.prog X.w) X.A X.env X.xe := by exact PassesOwn.never) : ES X (.While c body [] pos) (sWhile n tA s) :=
  (ps_while hp hc hb).mono fun D σV H ⟨loc, σ, M, o, rel, e, aft⟩ => by
    refine ⟨fun m σV' Hc => ∃ locc σc Mc, Rel X.KW locc σc Mc σV' Hc ∧ Ext X.KW H Hc ∧ loc <+: locc ∧ whileL tA s m σc Mc = some o,
      ⟨n, loc, σ, M, rel, .refl, List.prefix_refl _, e⟩, fun m σV' Hc hW => ?_⟩
    obtain ⟨locc, σc, Mc, relc, exc, lc, ec⟩ := hW
    cases m with
    | zero => cases ec
    | succ m =>
      rw [whileL] at ec
      obtain ⟨p, hp, ec⟩ := bind_some ec
      refine runT relc hp fun H1 loc1 rel1 ex1 l1 => ?_
      split at ec
      · rename_i hb
        rw [if_pos hb]
        obtain ⟨ob, hob, ec⟩ := bind_some ec
        have exA := exc.trans ex1
        have lA := lc.trans l1
        refine ⟨fun σV'' H'' => ∃ loc'' σ'' M'', Rel X.KW loc'' σ'' M'' σV'' H'' ∧ Ext X.KW H H'' ∧ loc <+: loc'' ∧ whileL tA s m σ'' M'' = some o, fun σV'' H'' hN => ⟨m, Nat.lt_succ_self _, hN⟩, ?_⟩
        refine ⟨loc1, σc, p.2, ob, rel1, hob, ?_⟩
        cases ob with
        | nx σ3 M3 => exact fun σV3 H3 loc3 rel3 ex3 l3 => ⟨loc3, σ3, M3, rel3, exA.trans ex3, lA.trans l3, ec⟩
        | ct σ3 M3 => exact fun σV3 H3 loc3 rel3 ex3 l3 => ⟨loc3, σ3, M3, rel3, exA.trans ex3, lA.trans l3, ec⟩
        | bk σ3 M3 =>
          cases ec
          exact fun σV3 H3 loc3 rel3 ex3 l3 => aft σV3 H3 loc3 rel3 (exA.trans ex3) (lA.trans l3)
        | rt w M3 =>
          cases ec
          exact Aft.after (K := X.KW) aft exA lA
      · rename_i hb
        rw [if_neg hb]
        cases ec
        exact aft σV' H1 loc1 rel1 (exc.trans ex1) (lc.trans l1)

/-! ### what is walked -/
theorem walk_of_tup {K : KW} {H : Hp} {loc : List Addr} {a : Addr} {xs : List V} {ws : List W} (sq : SqT K H a xs) (r : Rds K H loc xs ws) : WalkW K H loc (Itt K a) ws gdT :=
  fun i H1 loc1 M s ex l _ => ⟨fun w hw => by
    obtain ⟨v, h1, h2⟩ := r.get hw
    exact ⟨⟨xs, v, ex.tup _ _ sq, h1⟩, fun x H2 y => by
      obtain ⟨rfl, y⟩ := y
      have e := y xs (ex.tup _ _ sq)
      rw [h1] at e; cases e
      exact ⟨h2.mono ex l, s, .refl⟩⟩, fun hl => ⟨xs, ex.tup _ _ sq, by rw [r.length]; exact hl⟩⟩
theorem i_tup (h : EV X iter ca) : EI X tg iter (iTup ca) := (pi_tup h).mono fun σV H R ⟨loc, σ, M, ws, gd, M', rel, e, aft⟩ => by
  obtain ⟨p, hp, e⟩ := bind_some e
  refine run1 rel hp fun v H1 loc1 rel1 rd1 ex1 l1 => ?_
  split at e
  · rename_i zs hz
    cases e
    rw [hz] at rd1
    cases rd1 with
    | @tup a xs _ sq rs => exact ⟨a, rfl, ⟨xs, sq⟩, aft _ H1 loc1 rel1.st ex1 l1 (walk_of_tup sq rs)⟩
  · cases e
theorem walk_of_lst {K : KW} {H : Hp} {loc : List Addr} {a : Addr} {n : Nat} {ws : List W} (hn : loc[n]? = some a) : WalkW K H loc (Itl K a) ws (fun M' => decide (M'[n]? = some (.lst ws))) :=
  fun i H1 loc1 M s ex l hg => by
    have hg := of_decide_eq_true hg
    obtain ⟨xs, h1, r⟩ := s.ok n a _ (pre_get l hn) hg
    refine ⟨fun w hw => ?_, fun hl => ⟨xs, SqL.of h1, by rw [r.length]; exact hl⟩⟩
    obtain ⟨v, h2, h3⟩ := r.get hw
    refine ⟨⟨xs, v, SqL.of h1, h2⟩, fun x H2 y => ?_⟩
    obtain ⟨rfl, y⟩ := y
    have e := y xs (SqL.of h1)
    rw [h2] at e; cases e
    exact ⟨h3, s, .refl⟩
theorem walk_of_ro {K : KW} {H : Hp} {loc : List Addr} {a : Addr} {n : Nat} {ws : List W} (hn : loc[n]? = some a) : WalkW K H loc (Itl K a) ws (fun M' => decide (M'[n]? = some (.ro ws))) :=
  fun i H1 loc1 M s ex l hg => by
    have hg := of_decide_eq_true hg
    obtain ⟨xs, h1, r⟩ := s.ok n a _ (pre_get l hn) hg
    refine ⟨fun w hw => ?_, fun hl => ⟨xs, h1.sq, by rw [r.length]; exact hl⟩⟩
    obtain ⟨v, h2, h3⟩ := r.get hw
    refine ⟨⟨xs, v, h1.sq, h2⟩, fun x H2 y => ?_⟩
    obtain ⟨rfl, y⟩ := y
    have e := y xs h1.sq
    rw [h2] at e; cases e
    exact ⟨h3, s, .refl⟩
theorem i_lst (h : EV X iter ca) : EI X tg iter (iLst ca) := (pi_list h).mono fun σV H R ⟨loc, σ, M, ws, gd, M', rel, e, aft⟩ => by
  obtain ⟨p, hp, e⟩ := bind_some e
  refine run1 rel hp fun v H1 loc1 rel1 rd1 ex1 l1 => ?_
  split at e
  · rename_i n hn
    rw [hn] at rd1
    cases rd1 with
    | @ref a _ ha =>
      split at e
      · rename_i zs hz
        cases e
        obtain ⟨xs, h1, _⟩ := rel1.st.ok n a _ ha hz
        exact ⟨a, rfl, ⟨xs, SqL.of h1⟩, aft _ H1 loc1 rel1.st ex1 l1 (walk_of_lst ha)⟩
      · rename_i zs hz
        cases e
        obtain ⟨xs, h1, _⟩ := rel1.st.ok n a _ ha hz
        exact ⟨a, rfl, ⟨xs, h1.sq⟩, aft _ H1 loc1 rel1.st ex1 l1 (walk_of_ro ha)⟩
      · cases e
  · cases e
theorem walk_of_range {K : KW} {H : Hp} {loc : List Addr} {lo : Int} {n : Nat} : WalkW K H loc (Itr lo n) (rangeW lo n) gdT :=
  fun i H1 loc1 M s ex l _ => ⟨fun w hw => by
    obtain ⟨hi, rfl⟩ := rangeW_get hw
    exact ⟨hi, fun x H2 y => by
      obtain ⟨rfl, rfl⟩ := y
      exact ⟨.int _, s, .refl⟩⟩, fun hl => by rw [rangeW_length] at hl; exact hl⟩
theorem small62_iff {i : Int} (h : small62 i = true) : -(2 ^ 62) ≤ i ∧ i < 2 ^ 62 := by
  have := Nat.le_of_ble_eq_true h
  omega
theorem i_range1 {p pos : Pos} (hg : Gl X "range") (hm : X.mg "range" = none) (h : EA X [a] [ca]) (hs : starEach [a] X.env = [(false, eval a X.env)] := by rfl) : EI X tg (.Call (.Name "range" p) [a] [] pos) (iRange1 ca) :=
  (pi_range1 hg hm h hs).mono fun σV H R ⟨loc, σ, M, ws, gd, M', rel, e, aft⟩ => by
    obtain ⟨p, hp, e⟩ := bind_some e
    refine runA (p := ([p.1], p.2)) rel (by simp only [eArgs, hp, Option.bind_some]) fun vs H1 loc1 rel1 rd1 ex1 l1 => ?_
    split at e
    · rename_i j hj
      split at e
      · rename_i h62
        cases e
        obtain ⟨h1, h2⟩ := small62_iff h62
        rw [hj] at rd1
        match vs, rd1 with
        | [_], .cons (.int _) .nil => exact ⟨j, rfl, h1, h2, aft _ H1 loc1 rel1.st ex1 l1 walk_of_range⟩
      · cases e
    · cases e
theorem i_range2 {p pos : Pos} (hg : Gl X "range") (hm : X.mg "range" = none) (h : EA X [a, b] [ca, cb]) (hs : starEach [a, b] X.env = [(false, eval a X.env), (false, eval b X.env)] := by rfl) (hs2 : starEach [b] X.env = [(false, eval b X.env)] := by rfl) : EI X tg (.Call (.Name "range" p) [a, b] [] pos) (iRange2 ca cb) :=
  (pi_range2 hg hm h hs hs2).mono fun σV H R ⟨loc, σ, M, ws, gd, M', rel, e, aft⟩ => by
    obtain ⟨p, hp, e⟩ := bind_some e
    obtain ⟨q, hq, e⟩ := bind_some e
    refine runA (p := ([p.1, q.1], q.2)) rel (by simp only [eArgs, hp, hq, Option.bind_some]) fun vs H1 loc1 rel1 rd1 ex1 l1 => ?_
    split at e
    · rename_i i j hi hj
      split at e
      · rename_i h62
        cases e
        obtain ⟨h1, h2⟩ := small62_iff h62.1
        obtain ⟨h3, h4⟩ := small62_iff h62.2
        rw [hi, hj] at rd1
        match vs, rd1 with
        | [_, _], .cons (.int _) (.cons (.int _) .nil) => exact ⟨i, j, rfl, ⟨h1, h2, h3, h4⟩, aft _ H1 loc1 rel1.st ex1 l1 walk_of_range⟩
      · cases e
    · cases e
theorem zipW_get {xs ys : List W} {i : Nat} {w : W} (h : (zipW xs ys)[i]? = some w) : ∃ x y, xs[i]? = some x ∧ ys[i]? = some y ∧ w = .tup [x, y] := by
  unfold zipW at h
  rw [List.getElem?_map] at h
  cases q : (xs.zip ys)[i]? with
  | none => rw [q] at h; cases h
  | some p =>
    rw [q] at h
    cases h
    rw [List.getElem?_zip_eq_some] at q
    exact ⟨p.1, p.2, q.1, q.2, rfl⟩
theorem walk_of_zipT {K : KW} {H : Hp} {loc : List Addr} {a b : Addr} {xs ys : List V} {ws zs : List W} (sq : SqT K H a xs) (sq' : SqT K H b ys) (r : Rds K H loc xs ws) (r' : Rds K H loc ys zs) : WalkW K H loc (RZ.ItzT K a b) (zipW ws zs) gdT :=
  fun i H1 loc1 M s ex l _ => ⟨fun w hw => by
    obtain ⟨x, y, h1, h2, rfl⟩ := zipW_get hw
    obtain ⟨v, g1, g2⟩ := r.get h1
    obtain ⟨u, g3, g4⟩ := r'.get h2
    refine ⟨⟨xs, ys, v, u, ex.tup _ _ sq, ex.tup _ _ sq', g1, g3⟩, fun x H2 y => ?_⟩
    obtain ⟨T, x', y', rfl, hT, rfl, f1, f2⟩ := y
    have e1 := f1 xs (ex.tup _ _ sq)
    have e2 := f2 ys (ex.tup _ _ sq')
    rw [g1] at e1; cases e1
    rw [g3] at e2; cases e2
    have ex2 : Ext K H1 (upd H1 T (.tup [v, u])) := .new hT
    exact ⟨.tup (SqT.of upd_same) (.cons (g2.mono (ex.trans ex2) l) (.cons (g4.mono (ex.trans ex2) l) .nil)), s.newT hT, ex2⟩,
   fun hl => ⟨xs, ys, ex.tup _ _ sq, ex.tup _ _ sq', by
    rw [r.length, r'.length]
    have : (zipW ws zs).length = min ws.length zs.length := by simp [zipW]
    omega⟩⟩
theorem i_zipT {p pos tpos : Pos} {elts : List Expr} {kk : Nat} (hg : Gl X "zip") (hm : X.mg "zip" = none) (h : EA X [a, b] [ca, cb])
    (hs : starEach [a, b] X.env = (false, eval a X.env) :: starEach [b] X.env := by rfl) (hpl : (backTo pos (starEach [b] X.env)).any (·.1) = false := by rfl) :
    EI X (.Tuple elts kk tpos) (.Call (.Name "zip" p) [a, b] [] pos) (iZipT ca cb) :=
  (RZ.pi_zipA hg hm h hs hpl).mono fun σV H R ⟨loc, σ, M, ws, gd, M', rel, e, aft⟩ => by
    obtain ⟨p, hp, e⟩ := bind_some e
    obtain ⟨q, hq, e⟩ := bind_some e
    refine runA (p := ([p.1, q.1], q.2)) rel (by simp only [eArgs, hp, hq, Option.bind_some]) fun vs H1 loc1 rel1 rd1 ex1 l1 => ?_
    split at e
    · rename_i xs ys hx hy
      cases e
      rw [hx, hy] at rd1
      match vs, rd1 with
      | [_, _], .cons (.tup (a := a1) (xs := us1) sq1 r1) (.cons (.tup (a := a2) (xs := us2) sq2 r2) .nil) =>
        exact ⟨a1, a2, us1, us2, rfl, .inr ⟨sq1, sq2, aft _ H1 loc1 rel1.st ex1 l1 (walk_of_zipT sq1 sq2 r1 r2)⟩⟩
    · cases e

/-! ### comprehensions -/
abbrev TTs (X : Cx) (ifs : List Expr) (t : CT) : Prop := PTs X ifs (TT' X.KW t)
theorem ts_nil : TTs X [] tTrue := ⟨fun pins s σ H Q I h => pts_nil.run pins s σ H Q I (by
  obtain ⟨loc, σ', M, k, M', rel, e, aft⟩ := h
  cases e
  exact aft H loc rel.st .refl (List.prefix_refl _))⟩
theorem ts_one {tA : CT} (h : ET X c tA) : TTs X [c] tA := pts_one h
theorem lc_aux {K : KW} {it : CI} {t : CT} {vs : List Nat} {σV : L2.St} {H : Hp} {Q : VK} (h : TC K (eLc it g t ca vs) σV H Q) : tLc (TI' K it) (TGw K vs g) (TT' K t) (TC K ca) vs σV H Q := by
  obtain ⟨loc, σ, M, w, M', rel, e, aft⟩ := h
  obtain ⟨p, hp, e⟩ := bind_some e
  obtain ⟨ws, gd, M1⟩ := p
  obtain ⟨M2, hM2, e⟩ := bind_some e
  cases e
  refine ⟨loc, σ, M, ws, gd, M1, rel, hp, fun J H1 loc1 s1 ex1 l1 wk D hD => ?_⟩
  have aft1 := aft.after ex1 l1
  have rel1 := rel.move s1 ex1 l1
  have st0 : Store K (upd H1 D (.lst [])) (loc1 ++ [D]) (M1 ++ [.lst []]) := new_lst s1 .nil hD
  have exD : Ext K H1 (upd H1 D (.lst [])) := .new hD
  refine ⟨fun i m Hc => i ≤ ws.length ∧ m = ws.length - i ∧ ∃ locc Mc, Rel K locc σ Mc σV Hc ∧ Ext K H1 Hc ∧ (loc1 ++ [D]) <+: locc ∧ lcL gd g t ca vs σ M1.length (ws.drop i) Mc = some M',
    ⟨ws.length, Nat.zero_le _, rfl, loc1 ++ [D], M1 ++ [.lst []], rel1.move st0 exD (List.prefix_append _ _), exD, List.prefix_refl _, by rw [List.drop_zero]; exact hM2⟩, fun i m Hc hW => ?_⟩
  obtain ⟨hi, rfl, locc, Mc, relc, exc, lc, ec⟩ := hW
  have lc1 : loc1 <+: locc := (List.prefix_append _ _).trans lc
  have hDn : (loc1 ++ [D])[M1.length]? = some D := last_get s1.len.symm
  by_cases hlt : i < ws.length
  · rw [List.drop_eq_getElem_cons hlt] at ec
    rw [lcL] at ec
    split at ec
    · rename_i hgd
      obtain ⟨σ1, hg1, ec⟩ := bind_some ec
      obtain ⟨q, hq, ec⟩ := bind_some ec
      obtain ⟨w1, _⟩ := wk i Hc locc Mc relc.st exc lc1 hgd
      obtain ⟨go, yl⟩ := w1 ws[i] (List.getElem?_eq_getElem hlt)
      refine .inr ⟨go, fun H'' => ∃ loc'' M'', Rel K loc'' σ M'' σV H'' ∧ Ext K H1 H'' ∧ (loc1 ++ [D]) <+: loc'' ∧ lcL gd g t ca vs σ M1.length (ws.drop (i + 1)) M'' = some M', fun H'' hN => ⟨ws.length - (i + 1), by omega, hlt, rfl, hN⟩, fun x H2 y => ?_⟩
      obtain ⟨rd, st2, ex2⟩ := yl x H2 y
      have rel2 := relc.move st2 ex2 (List.prefix_refl _)
      refine ⟨locc, wipe σ vs, Mc, ws[i], σ1, rel2.wipe vs, rd, hg1, fun σV2 relw zw => ⟨zw.trans (wipe_wipe σV vs), ?_⟩⟩
      refine runT relw hq fun H3 loc3 rel3 ex3 l3 => ?_
      have exA := (exc.trans ex2).trans ex3
      have lA := lc.trans l3
      split at ec
      · rename_i hb
        rw [if_pos hb]
        obtain ⟨z, hz, ec⟩ := bind_some ec
        refine run1 rel3 hz fun v H4 loc4 rel4 rd4 ex4 l4 => ?_
        split at ec
        · rename_i acc hacc
          split at ec
          · rename_i hlen
            have hD4 := pre_get (lA.trans l4) hDn
            obtain ⟨xs, g1, g2⟩ := rel4.st.ok M1.length D _ hD4 hacc
            refine ⟨xs, g1, by rw [g2.length]; exact hlen, ?_⟩
            have ex5 : Ext K H4 (upd H4 D (.lst (xs ++ [v]))) := .upd g1 trivial
            have st5 : Store K (upd H4 D (.lst (xs ++ [v]))) loc4 (z.2.set M1.length (.lst (acc ++ [z.1]))) :=
              rel4.st.put hD4 hacc rfl rfl ⟨_, upd_same, (g2.append (.cons rd4 .nil)).mono ex5 (List.prefix_refl _)⟩
            exact ⟨loc4, _, relc.move st5 (((ex2.trans ex3).trans ex4).trans ex5) (l3.trans l4), ((exA.trans ex4).trans ex5), lA.trans l4, ec⟩
          · cases ec
        · cases ec
      · rename_i hb
        rw [if_neg hb]
        exact ⟨loc3, q.2, relc.move rel3.st (ex2.trans ex3) l3, exA, lA, ec⟩
    · cases ec
  · have e0 : i = ws.length := by omega
    subst e0
    rw [List.drop_length, lcL] at ec
    split at ec
    · rename_i hgd
      obtain ⟨_, w2⟩ := wk ws.length Hc locc Mc relc.st exc lc1 hgd
      cases ec
      exact .inl ⟨w2 (Nat.le_refl _), aft1 _ Hc locc relc.st (.ref (pre_get lc hDn)) exc lc1⟩
    · cases ec
abbrev _root_.L2.Cx.bl (X : Cx) (scope : Scope) (s : Shared) (H : Hp) (C : Addr) (cl : List (Str × Addr)) (fp : List Addr) : Cx := X.blk s H scope (compEnvC scope cl C X.env) fp
theorem r_lc {ifs : List Expr} {scope : Scope} {own : List (Str × Nat)} {it : CI} {t : CT} (hN : X.N.Nodup) (hi : EI X tg iter it) (ok : blkC X.N X.env.scope scope own = true)
    (hg : ∀ s H C cl fp, EGw (Cx.bl X scope s H C cl fp) (own.map (·.2)) tg g) (ht : ∀ s H C cl fp, TTs (Cx.bl X scope s H C cl fp) ifs t)
    (he : ∀ s H C cl fp, EV (Cx.bl X scope s H C cl fp) e ca) (hc : X.calm = true := by rfl) (hs : ∀ x, foldedSetIterable iter X.env x = pure x := by intro _; rfl) :
    EV X (.ListComp e [⟨tg, iter, ifs, 0⟩] scope pos) (eLc it g t ca (own.map (·.2))) :=
  (pe_lc hc hN hi (blkOk_by ok) hg ht he hs).mono fun σV H Q h => lc_aux h
theorem s_setLc (i : Nat) {y : Str} {py spos : Pos} {ifs : List Expr} {scope : Scope} {own : List (Str × Nat)} {it : CI} {t : CT} (hN : X.N.Nodup) (hi : EI X tg iter it) (ok : blkC X.N X.env.scope scope own = true)
    (hg : ∀ s H C cl fp, EGw (Cx.bl X scope s H C cl fp) (own.map (·.2)) tg g) (ht : ∀ s H C cl fp, TTs (Cx.bl X scope s H C cl fp) ifs t)
    (he : ∀ s H C cl fp, EV (Cx.bl X scope s H C cl fp) e ca) (hy : X.N[i]? = some y := by rfl) (hyl : X.env.scope.names.lookup y = some .local := by rfl)
    (ha : (scope.names.any fun (n, k) => n == y && (k == .local || k == .cell)) = false := by decide +kernel) (hk : X.env.scope.kind = .function := by rfl) (hl : (py.line == pos.line) = true := by rfl)
    (hc : X.calm = true := by rfl) (hs : ∀ x, foldedSetIterable iter X.env x = pure x := by intro _; rfl) :
    ES X (.Assign [.Name y py] (.ListComp e [⟨tg, iter, ifs, 0⟩] scope pos) spos) (sSet (gV i) (eLc it g t ca (own.map (·.2)))) :=
  (ps_setLc hc hN hy hyl (sw_true hk hyl hl ha) hi (blkOk_by ok) hg ht he hs).mono fun D σV H ⟨loc, σ, M, o, rel, e, aft⟩ => by
    obtain ⟨p, hp, e⟩ := bind_some e
    cases e
    exact lc_aux (run1 rel hp fun v H1 loc1 rel1 rd1 ex1 l1 => aft _ H1 loc1 (rel1.set rd1 i) ex1 l1)
end
end BF

set_option Elab.async false
set_option linter.all false
set_option autoImplicit false
set_option maxRecDepth 100000
/-! The operations lifted, and the rule for a def. -/
namespace BF
open PySem PySem.Spec
open PyProof.Rows L2

section
variable {K : KW}

theorem Lift2.or {r r' : R2} {g : Mem → W → W → Option (W × Mem)} (h : ∀ H loc M x y v u w M' Q, Store K H loc M → Rd K H loc v x → Rd K H loc u y → g M x y = some (w, M') → Aft K H loc w M' Q → r v u H Q ∨ r' v u H Q) :
    Lift2 K (fun x y H Q => r x y H Q ∨ r' x y H Q) g := h
/-- two ints in, a value out -/
theorem lift_int {C : Int → Int → Prop} {f : Int → Int → V} {f' : Int → Int → W} {g : Mem → W → W → Option (W × Mem)}
    (hg : ∀ M x y p, g M x y = some p → ∃ i j, x = .int i ∧ y = .int j ∧ C i j ∧ p = (f' i j, M)) (hf : ∀ H loc i j, Rd K H loc (f i j) (f' i j)) : Lift2 K (rI C f) g := by
  intro H loc M x y v u w M' Q s rx ry e aft
  obtain ⟨i, j, rfl, rfl, hC, e2⟩ := hg M x y _ e
  cases e2
  cases rx; cases ry
  exact ⟨i, j, rfl, rfl, hC, aft _ H loc s (hf H loc i j) .refl (List.prefix_refl _)⟩
theorem lift_int0 {f : Int → Int → V} {f' : Int → Int → W} {g : Mem → W → W → Option (W × Mem)}
    (hg : ∀ M x y p, g M x y = some p → ∃ i j, x = .int i ∧ y = .int j ∧ p = (f' i j, M)) (hf : ∀ H loc i j, Rd K H loc (f i j) (f' i j)) : Lift2 K (rI0 f) g := by
  intro H loc M x y v u w M' Q s rx ry e aft
  obtain ⟨i, j, rfl, rfl, e2⟩ := hg M x y _ e
  cases e2
  cases rx; cases ry
  exact ⟨i, j, rfl, rfl, aft _ H loc s (hf H loc i j) .refl (List.prefix_refl _)⟩
theorem l_sub : Lift2 K (rI0 fun i j => .int (i - j)) gSub := lift_int0 (f' := fun i j => .int (i - j)) (fun M x y p h => by
  unfold gSub at h; split at h
  · cases h; exact ⟨_, _, rfl, rfl, rfl⟩
  · cases h) fun _ _ _ _ => .int _
theorem l_lt : Lift2 K (rI0 fun i j => .bl (decide (i < j))) gLt := lift_int0 (f' := fun i j => .bl (decide (i < j))) (fun M x y p h => by
  unfold gLt at h; split at h
  · cases h; exact ⟨_, _, rfl, rfl, rfl⟩
  · cases h) fun _ _ _ _ => .bl _
theorem l_le : Lift2 K (rI0 fun i j => .bl (decide (i ≤ j))) gLe := lift_int0 (f' := fun i j => .bl (decide (i ≤ j))) (fun M x y p h => by
  unfold gLe at h; split at h
  · cases h; exact ⟨_, _, rfl, rfl, rfl⟩
  · cases h) fun _ _ _ _ => .bl _
theorem l_gt : Lift2 K (rI0 fun i j => .bl (decide (j < i))) gGt := lift_int0 (f' := fun i j => .bl (decide (j < i))) (fun M x y p h => by
  unfold gGt at h; split at h
  · cases h; exact ⟨_, _, rfl, rfl, rfl⟩
  · cases h) fun _ _ _ _ => .bl _
theorem l_ge : Lift2 K (rI0 fun i j => .bl (decide (j ≤ i))) gGe := lift_int0 (f' := fun i j => .bl (decide (j ≤ i))) (fun M x y p h => by
  unfold gGe at h; split at h
  · cases h; exact ⟨_, _, rfl, rfl, rfl⟩
  · cases h) fun _ _ _ _ => .bl _
theorem small64_iff {i : Int} (h : small64 i = true) : -(2 ^ 64) < i ∧ i < 2 ^ 64 := by
  have := Nat.le_of_ble_eq_true h
  omega
theorem l_mul : Lift2 K (rI CMul fun i j => .int (i * j)) gMul := lift_int (f' := fun i j => .int (i * j)) (fun M x y p h => by
  unfold gMul at h; split at h
  · split at h
    · rename_i hs
      cases h
      exact ⟨_, _, rfl, rfl, hs.elim (fun q => .inl (small64_iff q)) (fun q => .inr (small64_iff q)), rfl⟩
    · cases h
  · cases h) fun _ _ _ _ => .int _
theorem l_mod : Lift2 K (rI (fun _ j => 0 < j) fun i j => .int (i % j)) gMod := lift_int (f' := fun i j => .int (i % j)) (fun M x y p h => by
  unfold gMod at h; split at h
  · split at h
    · rename_i hs
      cases h
      exact ⟨_, _, rfl, rfl, hs, rfl⟩
    · cases h
  · cases h) fun _ _ _ _ => .int _
theorem l_div : Lift2 K (rI CDivW fun i j => .int (i / j)) gDiv := lift_int (f' := fun i j => .int (i / j)) (fun M x y p h => by
  unfold gDiv at h; split at h
  · split at h
    · rename_i hs
      cases h
      refine ⟨_, _, rfl, rfl, wide_div (b := 64) hs.1 (by have := small64_iff hs.2; omega) (by decide) (by decide), rfl⟩
    · cases h
  · cases h) fun _ _ _ _ => .int _
theorem l_pow : Lift2 K (rI CPow fun i j => .int (i ^ j.toNat)) gPow := lift_int (f' := fun i j => .int (i ^ j.toNat)) (fun M x y p h => by
  unfold gPow at h; split at h
  · split at h
    · rename_i hs
      cases h
      obtain ⟨h1, h2, h3⟩ := hs
      have h4 := small62_iff h3
      exact ⟨_, _, rfl, rfl, ⟨h1, by omega, by omega⟩, rfl⟩
    · cases h
  · cases h) fun _ _ _ _ => .int _
theorem l_neg : Lift1 K (rU fun i => .int (-i)) gNeg := by
  intro H loc M x v w M' Q s rx e aft
  unfold gNeg at e
  split at e
  · cases e
    cases rx
    exact ⟨_, rfl, aft _ H loc s (.int _) .refl (List.prefix_refl _)⟩
  · cases e
theorem strOk_append {a b : Str} (ha : PyData.strOk a = true) (hb : PyData.strOk b = true) : PyData.strOk (a ++ b) = true := by
  have e : (a ++ b).cps = a.cps ++ b.cps := rfl
  unfold PyData.strOk at *
  rw [e, Array.all_append, ha, hb]
  rfl
theorem length_append_str (a b : Str) : (a ++ b).length = a.length + b.length := by
  show (a.cps ++ b.cps).size = a.cps.size + b.cps.size
  rw [Array.size_append]
abbrev rAddW (K : KW) : R2 := fun x y H Q => rI0 (fun i j => .int (i + j)) x y H Q ∨ ((∃ i j, x = .str i ∧ y = .str j ∧ i.length + j.length ≤ sizeLine ∧ Q (.str (i ++ j)) H) ∨ (rCatA K x y H Q ∨ rCat x y H Q))
theorem o_add {X : Cx} : OpR X (binaryOp .Add) (rAddW X.KW) := op_add.or (op_add_str.or (op_catA.or op_cat))
theorem l_add : Lift2 K (rAddW K) gAdd := by
  intro H loc M x y v u w M' Q s rx ry e aft
  unfold gAdd at e
  split at e
  · cases e
    cases rx; cases ry
    exact .inl ⟨_, _, rfl, rfl, aft _ H loc s (.int _) .refl (List.prefix_refl _)⟩
  · split at e
    · rename_i hl
      cases e
      cases rx with
      | str a ha ha2 =>
        cases ry with
        | str b hb hb2 => exact .inr (.inl ⟨_, _, rfl, rfl, hl, aft _ H loc s (.str _ (strOk_append ha hb) (by rw [length_append_str]; exact hl)) .refl (List.prefix_refl _)⟩)
    · cases e
  · split at e
    · rename_i hl
      cases e
      cases rx with
      | @tup p xs ws sq rs =>
        cases ry with
        | @tup q ys zs sq' rs' =>
          refine .inr (.inr (.inl ⟨_, _, _, _, rfl, rfl, sq, sq', by rw [rs.length, rs'.length]; exact hl, fun z => ?_, fun z z' => ?_, fun z z' r hr => ?_⟩))
          · subst z
            cases rs
            exact aft _ H loc s (.tup sq' rs') .refl (List.prefix_refl _)
          · subst z'
            cases rs'
            rw [List.append_nil] at aft
            exact aft _ H loc s (.tup sq rs) .refl (List.prefix_refl _)
          · exact aft_tup s (rs.append rs') hr aft
    · cases e
  · split at e
    · rename_i hx hy
      split at e
      · rename_i hl
        cases e
        cases rx with
        | ref ha =>
          cases ry with
          | ref hb =>
            obtain ⟨us, h1, h2⟩ := s.ok _ _ _ ha hx
            obtain ⟨zs, h3, h4⟩ := s.ok _ _ _ hb hy
            exact .inr (.inr (.inr ⟨_, _, _, _, rfl, rfl, h1, h3, by rw [h2.length, h4.length]; exact hl, fun r hr => aft_lst s (h2.append h4) hr aft⟩))
      · cases e
    · cases e
  · cases e

/-! ### == -/
theorem mapO_get {α β : Type} {f : α → Option β} : ∀ {as : List α} {bs : List β}, mapO f as = some bs → Paired (fun a b => f a = some b) as bs
  | [], bs, h => by cases h; exact .nil
  | a :: as, bs, h => by
    rw [mapO] at h
    split at h
    · rename_i b bs' h1 h2
      cases h
      exact .cons h1 (mapO_get h2)
    · cases h
theorem toD_ok {H : Hp} {loc : List Addr} {M : Mem} (s : Store K H loc M) : ∀ (k : Nat) (v : V) (w : W) (d : PyData), Rd K H loc v w → toD M k w = some d → Dp K H v d ∧ d.canLay0 = true ∧ d.depth ≤ k
  | 0, _, _, _, _, h => by cases h
  | k + 1, v, w, d, r, h => by
    have all : ∀ (ws : List W) (vs : List V) (ds : List PyData), Rds K H loc vs ws → Paired (fun a b => toD M k a = some b) ws ds → DpAll K H vs ds ∧ PyData.canLayAll0 ds = true ∧ PyData.depthAll ds ≤ k := by
      intro ws
      induction ws with
      | nil =>
        intro vs ds r1 r2
        cases r1; cases r2
        exact ⟨.nil, rfl, Nat.zero_le _⟩
      | cons w ws ih =>
        intro vs ds r1 r2
        cases r1 with
        | cons a b =>
          cases r2 with
          | cons c d =>
            obtain ⟨g1, g2, g3⟩ := toD_ok s k _ _ _ a c
            obtain ⟨g4, g5, g6⟩ := ih _ _ b d
            refine ⟨.cons g1 g4, by rw [PyData.canLayAll0, g2, g5]; rfl, ?_⟩
            rw [PyData.depthAll]
            exact Nat.max_le.mpr ⟨g3, g6⟩
    cases r with
    | non => cases h; exact ⟨.non, by simp [PyData.canLay0], by simp [PyData.depth]⟩
    | bl b => cases h; exact ⟨.bl b, by simp [PyData.canLay0], by simp [PyData.depth]⟩
    | int i => cases h; exact ⟨.int i, by simp [PyData.canLay0], by simp [PyData.depth]⟩
    | str x hx => cases h; exact ⟨.str x, by simp [PyData.canLay0, hx], by simp [PyData.depth]⟩
    | @tup a xs ws sq rs =>
      rw [toD] at h
      obtain ⟨ds, h1, rfl⟩ := Option.map_eq_some_iff.mp h
      obtain ⟨g1, g2, g3⟩ := all ws xs ds rs (mapO_get h1)
      exact ⟨.tup sq g1, by rw [PyData.canLay0]; exact g2, by rw [PyData.depth]; omega⟩
    | @ref a n hn =>
      rw [toD] at h
      split at h
      · rename_i ws hw
        obtain ⟨ds, h1, rfl⟩ := Option.map_eq_some_iff.mp h
        obtain ⟨xs, q1, q2⟩ := s.ok _ _ _ hn hw
        obtain ⟨g1, g2, g3⟩ := all ws xs ds q2 (mapO_get h1)
        exact ⟨.lst (SqL.of q1) g1, by rw [PyData.canLay0]; exact g2, by rw [PyData.depth]; omega⟩
      · rename_i ws hw
        obtain ⟨ds, h1, rfl⟩ := Option.map_eq_some_iff.mp h
        obtain ⟨xs, q1, q2⟩ := s.ok _ _ _ hn hw
        obtain ⟨g1, g2, g3⟩ := all ws xs ds q2 (mapO_get h1)
        exact ⟨.lst q1.sq g1, by rw [PyData.canLay0]; exact g2, by rw [PyData.depth]; omega⟩
      · cases h
theorem eqW_ok {H : Hp} {loc : List Addr} {M : Mem} {v u : V} {x y : W} {b : Bool} (s : Store K H loc M) (rx : Rd K H loc v x) (ry : Rd K H loc u y) (h : eqW M x y = some b) :
    ∃ d e, Dp K H v d ∧ Dp K H u e ∧ SeqAt.shaped d = true ∧ SeqAt.shaped e = true ∧ PyData.eqv d e = b := by
  unfold eqW at h
  split at h
  · rename_i d e hd he
    cases h
    obtain ⟨g1, g2, g3⟩ := toD_ok s 64 v x d rx hd
    obtain ⟨g4, g5, g6⟩ := toD_ok s 64 u y e ry he
    exact ⟨d, e, g1, g4, by rw [SeqAt.shaped, g2, decide_eq_true g3]; rfl, by rw [SeqAt.shaped, g5, decide_eq_true g6]; rfl, rfl⟩
  · cases h
theorem l_eq : Lift2 K (rEqD K) gEq := by
  intro H loc M x y v u w M' Q s rx ry e aft
  obtain ⟨b, hb, e⟩ := Option.map_eq_some_iff.mp e
  cases e
  obtain ⟨d, d2, h1, h2, h3, h4, rfl⟩ := eqW_ok s rx ry hb
  exact ⟨d, d2, h1, h2, h3, h4, aft _ H loc s (.bl _) .refl (List.prefix_refl _)⟩
theorem l_ne : Lift2 K (rNeD K) gNe := by
  intro H loc M x y v u w M' Q s rx ry e aft
  obtain ⟨b, hb, e⟩ := Option.map_eq_some_iff.mp e
  cases e
  obtain ⟨d, d2, h1, h2, h3, h4, rfl⟩ := eqW_ok s rx ry hb
  exact ⟨d, d2, h1, h2, h3, h4, aft _ H loc s (.bl _) .refl (List.prefix_refl _)⟩

/-! ### items and slices -/
theorem ixW_eq (n : Nat) (i : Int) : ixW n i = ixN n i := rfl
theorem at_some {vs : List V} {ws : List W} {H : Hp} {loc : List Addr} {i : Int} {w : W} (r : Rds K H loc vs ws) (h : ((ixW ws.length i).bind fun j => ws[j]?) = some w) : ∃ v, atI vs i = some v ∧ Rd K H loc v w := by
  obtain ⟨j, h1, h2⟩ := bind_some h
  obtain ⟨v, g1, g2⟩ := r.get h2
  exact ⟨v, by unfold atI; rw [r.length, ← ixW_eq, h1]; exact g1, g2⟩
theorem l_ix : Lift2 K (rIx K) gIx := by
  intro H loc M x y v u w M' Q s rx ry e aft
  unfold gIx at e
  split at e
  · obtain ⟨z, hz, e⟩ := Option.map_eq_some_iff.mp e
    cases e
    cases ry
    cases rx with
    | @tup a xs ws sq rs =>
      obtain ⟨z', h1, h2⟩ := at_some rs hz
      exact .inr (.inl ⟨a, xs, _, z', rfl, rfl, sq, h1, aft _ H loc s h2 .refl (List.prefix_refl _)⟩)
  · cases ry
    cases rx with
    | @ref a n hn =>
      split at e
      · rename_i ws hw
        obtain ⟨z, hz, e⟩ := Option.map_eq_some_iff.mp e
        cases e
        obtain ⟨xs, q1, q2⟩ := s.ok _ _ _ hn hw
        obtain ⟨z', h1, h2⟩ := at_some q2 hz
        exact .inl ⟨a, xs, _, z', rfl, rfl, SqL.of q1, h1, aft _ H loc s h2 .refl (List.prefix_refl _)⟩
      · rename_i ws hw
        obtain ⟨z, hz, e⟩ := Option.map_eq_some_iff.mp e
        cases e
        obtain ⟨xs, q1, q2⟩ := s.ok _ _ _ hn hw
        obtain ⟨z', h1, h2⟩ := at_some q2 hz
        exact .inl ⟨a, xs, _, z', rfl, rfl, q1.sq, h1, aft _ H loc s h2 .refl (List.prefix_refl _)⟩
      · cases e
  · cases e
theorem sIx_eq (n d : Nat) (o : Option Int) : sIx n d o = HT.sIx n d o := by
  cases o <;> rfl
theorem Rds.cut {H : Hp} {loc : List Addr} {vs : List V} {ws : List W} (r : Rds K H loc vs ws) (lo hi : Option Int) : Rds K H loc (cutV vs lo hi) (cutW ws lo hi) := by
  unfold cutV cutW
  rw [← r.length, sIx_eq, sIx_eq]
  exact (r.drop _).take _
theorem cut_whole {α : Type} {xs : List α} {lo hi : Option Int} (h : sIx xs.length 0 lo = 0 ∧ sIx xs.length xs.length hi = xs.length) : cutW xs lo hi = xs := by
  unfold cutW
  rw [h.1, h.2, List.drop_zero, Nat.sub_zero, List.take_length]
abbrev rSlW (K : KW) : V → Option Int → Option Int → Hp → VK → Prop := fun x lo hi H Q => rSlA K x lo hi H Q ∨ rSlL K x lo hi H Q
theorem o_sl {X : Cx} : SlR X (rSlW X.KW) := sl_tupA.or sl_list
theorem l_sl : LiftS K (rSlW K) gSl := by
  intro H loc M x v lo hi w M' Q s rx e aft
  unfold gSl at e
  split at e
  · cases e
    cases rx with
    | @tup a xs ws sq rs =>
      refine .inl ⟨a, xs, rfl, sq, fun hw => ?_, fun _ p hp => aft_tup s (rs.cut lo hi) hp aft⟩
      rw [rs.length, ← sIx_eq, ← sIx_eq] at hw
      rw [cut_whole hw] at aft
      exact aft _ H loc s (.tup sq rs) .refl (List.prefix_refl _)
  · cases rx with
    | @ref a n hn =>
      split at e
      · rename_i ws hw
        cases e
        obtain ⟨xs, q1, q2⟩ := s.ok _ _ _ hn hw
        exact .inr ⟨a, xs, rfl, SqL.of q1, fun p hp => aft_lst s (q2.cut lo hi) hp aft⟩
      · cases e
  · cases e

/-! ### calls -/
theorem n_len : LiftN K (fun xs H Q => ∃ p ys, xs = [.ref p] ∧ (SqL K H p ys ∨ SqT K H p ys) ∧ Q (.int ys.length) H) pLen := by
  intro H loc M ws vs w M' Q s r e aft
  unfold pLen at e
  split at e
  · cases e
    match vs, r with
    | [_], .cons (.tup (a := a) (xs := xs) sq rs) .nil =>
      refine ⟨a, xs, rfl, .inr sq, ?_⟩
      rw [rs.length]
      exact aft _ H loc s (.int _) .refl (List.prefix_refl _)
  · match vs, r with
    | [_], .cons (.ref (a := a) hn) .nil =>
      split at e
      · rename_i zs hz
        cases e
        obtain ⟨xs, q1, q2⟩ := s.ok _ _ _ hn hz
        refine ⟨a, xs, rfl, .inl (SqL.of q1), ?_⟩
        rw [q2.length]
        exact aft _ H loc s (.int _) .refl (List.prefix_refl _)
      · rename_i zs hz
        cases e
        obtain ⟨xs, q1, q2⟩ := s.ok _ _ _ hn hz
        refine ⟨a, xs, rfl, .inl q1.sq, ?_⟩
        rw [q2.length]
        exact aft _ H loc s (.int _) .refl (List.prefix_refl _)
      · cases e
  · cases e
theorem n_min : LiftN K (fun xs H Q => ∃ i j, xs = [.int i, .int j] ∧ Q (.int (if j < i then j else i)) H) pMin := by
  intro H loc M ws vs w M' Q s r e aft
  unfold pMin at e
  split at e
  · cases e
    match vs, r with
    | [_, _], .cons (.int _) (.cons (.int _) .nil) => exact ⟨_, _, rfl, aft _ H loc s (.int _) .refl (List.prefix_refl _)⟩
  · cases e
theorem n_max : LiftN K (fun xs H Q => ∃ i j, xs = [.int i, .int j] ∧ Q (.int (if j > i then j else i)) H) pMax := by
  intro H loc M ws vs w M' Q s r e aft
  unfold pMax at e
  split at e
  · cases e
    match vs, r with
    | [_, _], .cons (.int _) (.cons (.int _) .nil) => exact ⟨_, _, rfl, aft _ H loc s (.int _) .refl (List.prefix_refl _)⟩
  · cases e
theorem n_abs : LiftN K (fun xs H Q => ∃ i, xs = [.int i] ∧ Q (.int (if i < 0 then -i else i)) H) pAbs := by
  intro H loc M ws vs w M' Q s r e aft
  unfold pAbs at e
  split at e
  · cases e
    match vs, r with
    | [_], .cons (.int _) .nil => exact ⟨_, rfl, aft _ H loc s (.int _) .refl (List.prefix_refl _)⟩
  · cases e
theorem n_list : LiftN K (fun xs H Q => ∃ p ys, xs = [.ref p] ∧ (SqL K H p ys ∨ SqT K H p ys) ∧ ∀ l, H l = none → Q (.ref l) (upd H l (.lst ys))) pList := by
  intro H loc M ws vs w M' Q s r e aft
  unfold pList at e
  split at e
  · cases e
    match vs, r with
    | [_], .cons (.tup (a := a) (xs := xs) sq rs) .nil => exact ⟨a, xs, rfl, .inr sq, fun l hl => aft_lst s rs hl aft⟩
  · match vs, r with
    | [_], .cons (.ref (a := a) hn) .nil =>
      split at e
      · rename_i zs hz
        cases e
        obtain ⟨xs, q1, q2⟩ := s.ok _ _ _ hn hz
        exact ⟨a, xs, rfl, .inl (SqL.of q1), fun l hl => aft_lst s q2 hl aft⟩
      · rename_i zs hz
        cases e
        obtain ⟨xs, q1, q2⟩ := s.ok _ _ _ hn hz
        exact ⟨a, xs, rfl, .inl q1.sq, fun l hl => aft_lst s q2 hl aft⟩
      · cases e
  · cases e
theorem n_tuple : LiftN K (fun xs H Q => ∃ p ys, xs = [.ref p] ∧ ((SqL K H p ys ∧ ∀ l, H l = none → Q (.ref l) (upd H l (.tup ys))) ∨ (SqT K H p ys ∧ Q (.ref p) H))) pTuple := by
  intro H loc M ws vs w M' Q s r e aft
  unfold pTuple at e
  split at e
  · cases e
    match vs, r with
    | [_], .cons (.tup (a := a) (xs := xs) sq rs) .nil => exact ⟨a, xs, rfl, .inr ⟨sq, aft _ H loc s (.tup sq rs) .refl (List.prefix_refl _)⟩⟩
  · match vs, r with
    | [_], .cons (.ref (a := a) hn) .nil =>
      split at e
      · rename_i zs hz
        cases e
        obtain ⟨xs, q1, q2⟩ := s.ok _ _ _ hn hz
        exact ⟨a, xs, rfl, .inl ⟨SqL.of q1, fun l hl => aft_tup s q2 hl aft⟩⟩
      · rename_i zs hz
        cases e
        obtain ⟨xs, q1, q2⟩ := s.ok _ _ _ hn hz
        exact ⟨a, xs, rfl, .inl ⟨q1.sq, fun l hl => aft_tup s q2 hl aft⟩⟩
      · cases e
  · cases e
/-- a list is changed: what is wanted behind it -/
theorem aft_put {H : Hp} {loc : List Addr} {M : Mem} {a : Addr} {n : Nat} {ws us : List W} {xs ys : List V} {w : W} {v : V} {Q : VK} (s : Store K H loc M) (hn : loc[n]? = some a) (hw : M[n]? = some (.lst ws)) (hx : H a = some (.lst xs))
    (ry : Rds K H loc ys us) (rv : Rd K H loc v w) (aft : Aft K H loc w (M.set n (.lst us)) Q) : Q v (upd H a (.lst ys)) := by
  have ex : Ext K H (upd H a (.lst ys)) := .upd hx trivial
  exact aft _ _ loc (s.put hn hw rfl rfl ⟨ys, upd_same, ry.mono ex (List.prefix_refl _)⟩) (rv.mono ex (List.prefix_refl _)) ex (List.prefix_refl _)
theorem m_append : LiftN K (fun vs H Q => ∃ v us, vs = v :: us ∧ rAppend v us H Q) mAppend := by
  intro H loc M ws vs w M' Q s r e aft
  unfold mAppend at e
  split at e
  · match vs, r with
    | [_, v], .cons (.ref (a := a) hn) (.cons rv .nil) =>
      split at e
      · rename_i zs hz
        split at e
        · rename_i hl
          cases e
          obtain ⟨xs, q1, q2⟩ := s.ok _ _ _ hn hz
          exact ⟨_, _, rfl, a, xs, v, rfl, rfl, q1, by rw [q2.length]; exact hl, aft_put s hn hz q1 (q2.append (.cons rv .nil)) .non aft⟩
        · cases e
      · cases e
  · cases e
theorem m_pop : LiftN K (fun vs H Q => ∃ v us, vs = v :: us ∧ rPop v us H Q) mPop := by
  intro H loc M ws vs w M' Q s r e aft
  unfold mPop at e
  split at e
  · match vs, r with
    | [_], .cons (.ref (a := a) hn) .nil =>
      split at e
      · rename_i zs hz
        obtain ⟨z, hz1, e⟩ := Option.map_eq_some_iff.mp e
        cases e
        obtain ⟨xs, q1, q2⟩ := s.ok _ _ _ hn hz
        obtain ⟨v, g1, g2⟩ := q2.get hz1
        rw [← q2.length] at g1
        exact ⟨_, _, rfl, a, xs, v, rfl, rfl, q1, g1, aft_put s hn hz q1 q2.dropLast g2 aft⟩
      · cases e
  · cases e
theorem m_popAt : LiftN K (fun vs H Q => ∃ v us, vs = v :: us ∧ rPopAt v us H Q) mPopAt := by
  intro H loc M ws vs w M' Q s r e aft
  unfold mPopAt at e
  split at e
  · match vs, r with
    | [_, _], .cons (.ref (a := a) hn) (.cons (.int i) .nil) =>
      split at e
      · rename_i zs hz
        split at e
        · rename_i h62
          obtain ⟨j, hj, e⟩ := bind_some e
          obtain ⟨z, hz1, e⟩ := Option.map_eq_some_iff.mp e
          cases e
          obtain ⟨xs, q1, q2⟩ := s.ok _ _ _ hn hz
          obtain ⟨v, g1, g2⟩ := q2.get hz1
          obtain ⟨b1, b2⟩ := small62_iff h62
          rw [ixW_eq] at hj
          obtain ⟨s1, _, _, _⟩ := ixN_seq hj
          exact ⟨_, _, rfl, a, xs, i, j, v, rfl, rfl, q1, by omega, by omega, by rw [q2.length]; exact s1, g1, aft_put s hn hz q1 (q2.erase j) g2 aft⟩
        · cases e
      · cases e
  · cases e
theorem p_lst : LiftP K rSetL putL := by
  intro H loc M x y z o i v M' Q s rx ry rz e h
  unfold putL at e
  split at e
  · cases ry
    cases rx with
    | @ref a n hn =>
      split at e
      · rename_i ws hw
        obtain ⟨j, hj, rfl⟩ := Option.map_eq_some_iff.mp e
        obtain ⟨xs, q1, q2⟩ := s.ok _ _ _ hn hw
        rw [ixW_eq, ← q2.length] at hj
        refine ⟨a, xs, _, j, rfl, rfl, q1, hj, ?_⟩
        have ex : Ext K H (upd H a (.lst (xs.set j v))) := .upd q1 trivial
        exact h _ loc (s.put hn hw rfl rfl ⟨_, upd_same, (q2.set rz j).mono ex (List.prefix_refl _)⟩) ex (List.prefix_refl _)
      · cases e
  · cases e

/-! ### a def -/
mutual
theorem Rd.closed {H : Hp} {loc : List Addr} : ∀ {v : V} {w : W}, Rd K H loc v w → w.closed loc.length = true
  | _, _, .non => by simp [W.closed]
  | _, _, .bl b => by simp [W.closed]
  | _, _, .int i => by simp [W.closed]
  | _, _, .str x _ _ => by simp [W.closed]
  | _, _, .tup _ r => by rw [W.closed]; exact Rds.closed r
  | _, _, .ref h => by rw [W.closed]; exact decide_eq_true (List.getElem?_eq_some_iff.mp h).1
theorem Rds.closed {H : Hp} {loc : List Addr} : ∀ {vs : List V} {ws : List W}, Rds K H loc vs ws → W.closeds loc.length ws = true
  | _, _, .nil => by simp [W.closeds]
  | _, _, .cons r rs => by rw [W.closeds, Rd.closed r, Rds.closed rs]; rfl
end
mutual
theorem Rd.cutLoc {H : Hp} {loc : List Addr} {k : Nat} : ∀ {v : V} {w : W}, Rd K H loc v w → w.closed k = true → Rd K H (loc.take k) v w
  | _, _, .non, _ => .non
  | _, _, .bl b, _ => .bl b
  | _, _, .int i, _ => .int i
  | _, _, .str x h h2, _ => .str x h h2
  | _, _, .tup h r, c => .tup h (Rds.cutLoc r (by rw [W.closed] at c; exact c))
  | _, _, .ref h, c => .ref (by rw [W.closed] at c; rw [List.getElem?_take, if_pos (of_decide_eq_true c)]; exact h)
theorem Rds.cutLoc {H : Hp} {loc : List Addr} {k : Nat} : ∀ {vs : List V} {ws : List W}, Rds K H loc vs ws → W.closeds k ws = true → Rds K H (loc.take k) vs ws
  | _, _, .nil, _ => .nil
  | _, _, .cons r rs, c => by
    rw [W.closeds, Bool.and_eq_true] at c
    exact .cons (Rd.cutLoc r c.1) (Rds.cutLoc rs c.2)
end
theorem closeds_mem {k : Nat} : ∀ {ws : List W} {w : W}, W.closeds k ws = true → w ∈ ws → w.closed k = true
  | [], _, _, h => by cases h
  | u :: ws, w, c, h => by
    rw [W.closeds, Bool.and_eq_true] at c
    rcases List.mem_cons.mp h with rfl | h
    · exact c.1
    · exact closeds_mem c.2 h
theorem closeds_of {k : Nat} : ∀ {ws : List W}, (∀ w ∈ ws, w.closed k = true) → W.closeds k ws = true
  | [], _ => rfl
  | u :: ws, h => by
    rw [W.closeds, Bool.and_eq_true]
    exact ⟨h u List.mem_cons_self, closeds_of fun w hw => h w (List.mem_cons_of_mem _ hw)⟩
theorem closed_vals {k : Nat} {ws : List (W × W)} (c : (MO.dK ws).closed k = true) : W.closeds k (ws.map (·.2)) = true := by
  rw [MO.closed, List.all_eq_true] at c
  refine closeds_of fun w hw => ?_
  obtain ⟨p, hp, rfl⟩ := List.mem_map.mp hw
  have := c p hp
  rw [Bool.and_eq_true] at this
  exact this.2
theorem closed_both {k : Nat} {ws : List (W × W)} (h1 : W.closeds k (ws.map (·.1)) = true) (h2 : W.closeds k (ws.map (·.2)) = true) : (ws.all fun p => p.1.closed k && p.2.closed k) = true := by
  rw [List.all_eq_true]
  intro p hp
  rw [Bool.and_eq_true]
  exact ⟨closeds_mem h1 (List.mem_map_of_mem hp), closeds_mem h2 (List.mem_map_of_mem hp)⟩
theorem closed_keyW {k : Nat} {kvs : List (Key × V)} {ws : List (W × W)} (h : kvs.map (fun p => keyW p.1) = ws.map (·.1)) : W.closeds k (ws.map (·.1)) = true := by
  rw [← h]
  refine closeds_of fun w hw => ?_
  obtain ⟨p, _, rfl⟩ := List.mem_map.mp hw
  cases p.1 <;> rfl
theorem closed_keys {k : Nat} {m : DM} {ws : List (W × W)} (c : (MO.dT m ws).closed k = true) : W.closeds k (ws.map (·.1)) = true ∧ W.closeds k (ws.map (·.2)) = true := by
  rw [MO.closed, List.all_eq_true] at c
  refine ⟨closeds_of fun w hw => ?_, closeds_of fun w hw => ?_⟩ <;> obtain ⟨p, hp, rfl⟩ := List.mem_map.mp hw <;> have := c p hp <;> rw [Bool.and_eq_true] at this
  · exact this.1
  · exact this.2
theorem MOk.closed {H : Hp} {loc : List Addr} {a : Addr} {mo : MO} (h : MOk K H loc a mo) : mo.closed loc.length = true := by
  cases mo with
  | lst ws => obtain ⟨xs, _, r⟩ := h; exact r.closed
  | ro ws => obtain ⟨xs, _, r⟩ := h; exact r.closed
  | dT m ws =>
    cases m with
    | nest => obtain ⟨es, h1, h2⟩ := h; exact closed_both h2.ks.closed h2.vs.closed
    | lockF => obtain ⟨o, es, h1, h2⟩ := h; exact closed_both (closed_keyW h2.keys) h2.vs.closed
    | lockN => obtain ⟨o, es, h1, h2⟩ := h; exact closed_both h2.ks.closed h2.vs.closed
  | dK ws =>
    obtain ⟨kvs, _, h2, _, r⟩ := h
    rw [MO.closed, List.all_eq_true]
    intro p hp
    rw [Bool.and_eq_true]
    refine ⟨?_, ?_⟩
    · have : p.1 ∈ ws.map (·.1) := List.mem_map_of_mem hp
      rw [← h2] at this
      obtain ⟨q, _, e⟩ := List.mem_map.mp this
      rw [← e]
      cases q.1 <;> rfl
    · exact closeds_mem r.closed (List.mem_map_of_mem hp)
theorem MOk.cutLoc {H : Hp} {loc : List Addr} {a : Addr} {mo : MO} {k : Nat} (h : MOk K H loc a mo) (c : mo.closed k = true) : MOk K H (loc.take k) a mo := by
  cases mo with
  | lst ws => obtain ⟨xs, h1, r⟩ := h; exact ⟨xs, h1, r.cutLoc c⟩
  | ro ws => obtain ⟨xs, h1, r⟩ := h; exact ⟨xs, h1, r.cutLoc c⟩
  | dT m ws =>
    obtain ⟨c1, c2⟩ := closed_keys c
    cases m with
    | nest => obtain ⟨es, h1, h2⟩ := h; exact ⟨es, h1, h2.keys, h2.dep, h2.ks.cutLoc c1, h2.vs.cutLoc c2⟩
    | lockF => obtain ⟨o, es, h1, h2⟩ := h; exact ⟨o, es, h1, h2.keys, h2.ok, h2.vs.cutLoc c2⟩
    | lockN => obtain ⟨o, es, h1, h2⟩ := h; exact ⟨o, es, h1, h2.keys, h2.dep, h2.ks.cutLoc c1, h2.vs.cutLoc c2⟩
  | dK ws => obtain ⟨kvs, h1, h2, h3, r⟩ := h; exact ⟨kvs, h1, h2, h3, r.cutLoc (closed_vals c)⟩
theorem Store.closed {H : Hp} {loc : List Addr} {M : Mem} (s : Store K H loc M) : Closed M := fun mo hm => by
  obtain ⟨i, hi⟩ := List.getElem?_of_mem hm
  obtain ⟨a, h1, h2⟩ := s.at hi
  rw [← s.len]
  exact h2.closed
theorem Rds.each {H : Hp} {loc : List Addr} {vs : List V} {ws : List W} (r : Rds K H loc vs ws) : ∀ x ∈ ws, x.closed loc.length = true := fun x hx => by
  obtain ⟨i, hi⟩ := List.getElem?_of_mem hx
  obtain ⟨v, _, h⟩ := r.get hi
  exact h.closed
/-- what was laid last is forgotten -/
theorem Store.cut {H : Hp} {loc : List Addr} {M g : Mem} (s : Store K H loc (M ++ g)) (c : Closed M) : Store K H (loc.take M.length) M := by
  have hl := s.len
  rw [List.length_append] at hl
  refine ⟨by rw [List.length_take]; omega, fun i a mo h1 h2 => ?_, fun i j a m n h1 h2 h3 h4 => ?_⟩
  · have hi : i < M.length := (List.getElem?_eq_some_iff.mp h2).1
    rw [List.getElem?_take, if_pos hi] at h1
    refine (s.ok i a mo h1 ?_).cutLoc (c mo (List.mem_of_getElem? h2))
    rw [List.getElem?_append_left hi]; exact h2
  · have hi : i < M.length := (List.getElem?_eq_some_iff.mp h3).1
    have hj : j < M.length := (List.getElem?_eq_some_iff.mp h4).1
    rw [List.getElem?_take, if_pos hi] at h1
    rw [List.getElem?_take, if_pos hj] at h2
    exact s.apart i j a m n h1 h2 (by rw [List.getElem?_append_left hi]; exact h3) (by rw [List.getElem?_append_left hj]; exact h4)
/-- the addresses by other ids -/
def renLoc (loc : List Addr) (r : Nat → Nat) (n : Nat) : List Addr := (List.range n).map fun i => loc.getD (r i) 0
theorem renLoc_get {loc : List Addr} {r : Nat → Nat} {n i : Nat} {a : Addr} (hi : i < n) (h : loc[r i]? = some a) : (renLoc loc r n)[i]? = some a := by
  unfold renLoc
  rw [List.getElem?_map, List.getElem?_range hi]
  show some (loc.getD (r i) 0) = some _
  rw [List.getD_eq_getElem?_getD, h]; rfl
mutual
theorem Rd.unren {H : Hp} {loc : List Addr} {r : Nat → Nat} {n : Nat} (look : ∀ i, i < n → ∃ a, loc[r i]? = some a) : ∀ {v : V} {w : W}, Rd K H loc v (w.ren r) → w.closed n = true → Rd K H (renLoc loc r n) v w
  | _, .non, h, _ => by rw [W.ren] at h; cases h; exact .non
  | _, .bl b, h, _ => by rw [W.ren] at h; cases h; exact .bl b
  | _, .int i, h, _ => by rw [W.ren] at h; cases h; exact .int i
  | _, .str x, h, _ => by rw [W.ren] at h; cases h with | str _ h1 h2 => exact .str x h1 h2
  | _, .tup ws, h, c => by
    rw [W.ren] at h
    rw [W.closed] at c
    cases h with
    | tup sq rs => exact .tup sq (Rds.unren look rs c)
  | _, .ref k, h, c => by
    rw [W.ren] at h
    rw [W.closed] at c
    cases h with
    | ref ha => exact .ref (renLoc_get (of_decide_eq_true c) ha)
theorem Rds.unren {H : Hp} {loc : List Addr} {r : Nat → Nat} {n : Nat} (look : ∀ i, i < n → ∃ a, loc[r i]? = some a) : ∀ {vs : List V} {ws : List W}, Rds K H loc vs (W.rens r ws) → W.closeds n ws = true → Rds K H (renLoc loc r n) vs ws
  | _, [], h, _ => by rw [W.rens] at h; cases h; exact .nil
  | _, w :: ws, h, c => by
    rw [W.rens] at h
    rw [W.closeds, Bool.and_eq_true] at c
    cases h with
    | cons a b => exact .cons (Rd.unren look a c.1) (Rds.unren look b c.2)
end
theorem isMut_ren (r : Nat → Nat) (mo : MO) : isMut (mo.ren r) = isMut mo := by
  cases mo with
  | dT m _ => cases m <;> rfl
  | _ => rfl
theorem isOwn_ren (r : Nat → Nat) (mo : MO) : isOwn (mo.ren r) = isOwn mo := by cases mo <;> rfl
mutual
theorem keyN_ren (r : Nat → Nat) : ∀ w : W, keyN (w.ren r) = keyN w
  | .non => rfl
  | .bl _ => rfl
  | .int _ => rfl
  | .str _ => rfl
  | .tup ws => by rw [W.ren, keyN, keyN, keyNs_ren r ws]
  | .ref _ => rfl
theorem keyNs_ren (r : Nat → Nat) : ∀ ws : List W, keyNs (W.rens r ws) = keyNs ws
  | [] => rfl
  | w :: ws => by rw [W.rens, keyNs, keyNs, keyN_ren r w, keyNs_ren r ws]
end
theorem rens_map {r : Nat → Nat} : ∀ ws : List W, W.rens r ws = ws.map (W.ren r)
  | [] => rfl
  | w :: ws => by rw [W.rens, rens_map ws]; rfl
theorem key_ren {r : Nat → Nat} {w : W} {k : Key} (h : keyW k = w.ren r) : keyW k = w := by
  cases k <;> cases w <;> simp [keyW, W.ren] at h ⊢ <;> exact h
theorem keys_ren {r : Nat → Nat} : ∀ {kvs : List (Key × V)} {ws : List (W × W)}, kvs.map (fun p => keyW p.1) = (ws.map fun p => (p.1.ren r, p.2.ren r)).map (·.1) → kvs.map (fun p => keyW p.1) = ws.map (·.1)
  | [], [], _ => rfl
  | [], _ :: _, h => by cases h
  | _ :: _, [], h => by cases h
  | p :: kvs, q :: ws, h => by
    simp only [List.map_cons, List.cons.injEq] at h ⊢
    exact ⟨key_ren h.1, keys_ren h.2⟩
theorem MOk.unren {H : Hp} {loc : List Addr} {r : Nat → Nat} {n : Nat} (look : ∀ i, i < n → ∃ a, loc[r i]? = some a) {a : Addr} {mo : MO} (h : MOk K H loc a (mo.ren r)) (c : mo.closed n = true) : MOk K H (renLoc loc r n) a mo := by
  cases mo with
  | lst ws => obtain ⟨xs, h1, h2⟩ := h; exact ⟨xs, h1, Rds.unren look h2 c⟩
  | ro ws => obtain ⟨xs, h1, h2⟩ := h; exact ⟨xs, h1, Rds.unren look h2 c⟩
  | dT m ws =>
    obtain ⟨c1, c2⟩ := closed_keys c
    have k1 : ∀ {es : NE}, NestOk K H loc es (ws.map fun p => (p.1.ren r, p.2.ren r)) → NestOk K H (renLoc loc r n) es ws := fun {es} q => by
      have q1 := q.ks
      have q2 := q.vs
      have q3 := q.keys
      rw [List.map_map] at q1 q2 q3
      refine ⟨q3.trans (List.map_congr_left fun p _ => keyN_ren r p.1), q.dep, Rds.unren look ?_ c1, Rds.unren look ?_ c2⟩
      · rw [rens_map, List.map_map]; exact q1
      · rw [rens_map, List.map_map]; exact q2
    cases m with
    | nest => obtain ⟨es, h1, h2⟩ := h; exact ⟨es, h1, k1 h2⟩
    | lockF =>
      obtain ⟨o, kvs, h1, h2⟩ := h
      refine ⟨o, kvs, h1, keys_ren h2.keys, h2.ok, Rds.unren look ?_ c2⟩
      have q2 := h2.vs
      rw [List.map_map] at q2
      rw [rens_map, List.map_map]; exact q2
    | lockN => obtain ⟨o, es, h1, h2⟩ := h; exact ⟨o, es, h1, k1 h2⟩
  | dK ws =>
    obtain ⟨kvs, h1, h2, h3, h4⟩ := h
    refine ⟨kvs, h1, ?_, h3, Rds.unren look ?_ (closed_vals c)⟩
    · exact keys_ren h2
    · rw [rens_map]
      rw [List.map_map] at h4 ⊢
      exact h4
theorem Store.ren {H : Hp} {loc : List Addr} {M M2 : Mem} {r : Nat → Nat} (s : Store K H loc M2) (c : Closed M) (hr : ∀ (i : Nat) (mo : MO), M[i]? = some mo → M2[r i]? = some (mo.ren r)) (inj : ∀ i j, i < M.length → j < M.length → r i = r j → i = j) :
    Store K H (renLoc loc r M.length) M := by
  have look : ∀ i, i < M.length → ∃ a, loc[r i]? = some a := fun i hi => by
    obtain ⟨a, ha, _⟩ := s.at (hr i _ (List.getElem?_eq_getElem hi))
    exact ⟨a, ha⟩
  refine ⟨by simp [renLoc], fun i a mo h1 h2 => ?_, fun i j a m n h1 h2 h3 h4 m1 m2 => ?_⟩
  · have hi := (List.getElem?_eq_some_iff.mp h2).1
    obtain ⟨b, hb⟩ := look i hi
    rw [renLoc_get hi hb] at h1
    cases h1
    exact MOk.unren look (s.ok _ _ _ hb (hr i mo h2)) (c mo (List.mem_of_getElem? h2))
  · have hi := (List.getElem?_eq_some_iff.mp h3).1
    have hj := (List.getElem?_eq_some_iff.mp h4).1
    obtain ⟨b, hb⟩ := look i hi
    obtain ⟨b', hb'⟩ := look j hj
    rw [renLoc_get hi hb] at h1
    rw [renLoc_get hj hb'] at h2
    cases h1; cases h2
    exact inj i j hi hj (s.apart _ _ _ _ _ hb hb' (hr i m h3) (hr j n h4) (by rw [isOwn_ren]; exact m1) (by rw [isOwn_ren]; exact m2))
end
end BF

set_option Elab.async false
set_option linter.all false
set_option autoImplicit false
set_option maxRecDepth 100000
/-! The rule for a def; three names at once; the law's own promise. -/
namespace BF
open PySem PySem.Spec
open PyProof.Rows L2

theorem hu64 {k : Nat} {A : Around} (hr : Room k A) : A.units + 64 < cLine := by have := hr.un; omega

section
variable {X : Cx} {a b c : Expr} {ca cb cc : CE} {pos : Pos}
/-- a, b, c = x, y, z of plain local names -/
theorem s_par3 (i j k : Nat) {x y z : Str} {px py pz pt : Pos} {kt k2 pt2} (hc : X.calm = true) (hN : X.N.Nodup) (ha : EA X [a, b, c] [ca, cb, cc]) (hi : X.N[i]? = some x := by rfl) (hj : X.N[j]? = some y := by rfl) (hk : X.N[k]? = some z := by rfl)
    (hx : X.env.scope.names.lookup x = some .local := by rfl) (hy : X.env.scope.names.lookup y = some .local := by rfl) (hz : X.env.scope.names.lookup z = some .local := by rfl) (hij : i ≠ j := by decide) (hik : i ≠ k := by decide) (hjk : j ≠ k := by decide)
    (hw : swappedStores [.Tuple [.Name x px, .Name y py, .Name z pz] kt pt] (.Tuple [a, b, c] k2 pt2) X.env = pure (some [x, y, z]) := by rfl)
    (hs : swapsWithSole [.Tuple [.Name x px, .Name y py, .Name z pz] kt pt] (.Tuple [a, b, c] k2 pt2) pos.line X.env = pure false := by rfl) :
    ES X (.Assign [.Tuple [.Name x px, .Name y py, .Name z pz] kt pt] (.Tuple [a, b, c] k2 pt2) pos) (sPar [i, j, k] [ca, cb, cc]) := by
  refine ⟨fun pins s σV H D I h => ?_⟩
  obtain ⟨loc, σ, M, o, rel, e, aft⟩ := h
  obtain ⟨p, hp, e⟩ := bind_some e
  have hl : p.1.length = 3 := eArgs_length hp
  obtain ⟨p1, M1⟩ := p
  match p1, hl with
  | [w1, w2, w3], _ =>
  cases e
  rw [exec_Assign_arm]
  refine wpAny_bind (wpAny_standAt ?_)
  rw [hs]
  refine wpAny_bind (wpAny_pure ?_)
  rw [if_neg (by decide)]
  refine wpAny_bind (Tuple_ ?_)
  refine thn (ha.run _ pins s σV H (fun vs H1 => ∃ v1 v2 v3, vs = [v1, v2, v3] ∧ ∀ σV', σV' = ((σV.set i (some v1)).set j (some v2)).set k (some v3) → D.nx σV' H1) I ?_) fun us s1 hus => ?_
  · refine runA rel hp fun vs H1 loc1 rel1 rd1 ex1 l1 => ?_
    match vs, rd1 with
    | [v1, v2, v3], .cons r1 (.cons r2 (.cons r3 .nil)) =>
      exact ⟨v1, v2, v3, rfl, fun σV' e' => by
        subst e'
        exact aft _ H1 loc1 (((rel1.set r1 i).set r2 j).set r3 k) ex1 l1⟩
  · obtain ⟨vs, H1, I1, r1, v1, v2, v3, e1, q1⟩ := hus
    subst e1
    obtain ⟨u1, u2, u3, e2, g1, g2, g3⟩ : ∃ u1 u2 u3, us = [u1, u2, u3] ∧ RelV v1 u1 ∧ RelV v2 u2 ∧ RelV v3 u3 := by
      cases r1 with
      | cons a1 t1 =>
        cases t1 with
        | cons a2 t2 =>
          cases t2 with
          | cons a3 t3 =>
            cases t3
            exact ⟨_, _, _, rfl, a1, a2, a3⟩
    subst e2
    refine wpAny_newObj_type ?_ (by show 3 ≤ sizeLine; decide)
    have I2 : Inv X pins σV H1 { s1 with heap := s1.heap.push { cls := .type "tuple", data := .seq [u1, u2, u3].toArray } } :=
      I1.kept (t' := s1.toks) fun b o e => Heap.get?_push_of_some _ e
    rw [hw]
    refine wpAny_bind (wpAny_pure ?_)
    show wpAny (model X.prog X.w) X.A (do
      rule "assign.swapped-stores"
      let items ← unpackItems (.ref s1.heap.objs.size) 3 none
      assignInOrder [fun v => bindName X.env z v, fun v => bindName X.env y v, fun v => bindName X.env x v] items.reverse
      pure Flow.next) _ _ _
    refine wpAny_bind (wpAny_rule (wpAny_bind (unpackItems_tuple (items := #[u1, u2, u3]) (I.ok.hd hc) (IsTup.new s1.heap _) fun h' hx' => ?_)))
    have I3 := I2.kept (h' := h') (t' := s1.toks) fun b o e => hx' b o (Nat.ne_of_lt (Heap.lt_size e)) e
    show wpAny _ _ (assignInOrder [fun v => bindName X.env z v, fun v => bindName X.env y v, fun v => bindName X.env x v] [u3, u2, u1] >>= fun _ => pure Flow.next) _ _ _
    refine wpAny_bind (assignInOrder_cons (wpAny_bindName (store_ok I3 hN hk (.inl hz) g3 (fun s2 I4 => ?_) (.inr hz))))
    refine assignInOrder_cons (wpAny_bindName (store_ok I4 hN hj (.inl hy) g2 (fun s3 I5 => ?_) (.inr hy)))
    refine assignInOrder_cons (wpAny_bindName (store_ok I5 hN hi (.inl hx) g1 (fun s4 I6 => assignInOrder_nil (wpAny_pure ?_)) (.inr hx)))
    refine ⟨_, H1, I6, q1 _ ?_⟩
    rw [List.set_comm _ _ (Ne.symm hij), List.set_comm _ _ (Ne.symm hik), List.set_comm _ _ (Ne.symm hjk)]
end

section
variable {P : Program} {w : World} {K : PySem.W.Frag} {mg : Str → Option Value} {base : Heap}
theorem rel_start {K : KW} {N : List Str} {loc : List Addr} {M : Mem} {H : Hp} {vs : List V} {ws : List W} (s : Store K H loc M) (r : Rds K H loc vs ws) : Rel K loc (ws.map some ++ List.replicate (N.length - ws.length) none) M (L2.start N vs) H := by
  have hl := r.length
  refine ⟨s, by unfold L2.start; simp [hl], fun i u e => ?_⟩
  by_cases hi : i < ws.length
  · rw [List.getElem?_append_left (by simpa using hi), List.getElem?_map] at e
    obtain ⟨z, hz, e⟩ := Option.map_eq_some_iff.mp e
    cases e
    obtain ⟨v, h1, h2⟩ := r.get hz
    refine ⟨v, ?_, h2⟩
    unfold L2.start
    rw [List.getElem?_append_left (by rw [List.length_map]; omega), List.getElem?_map, h1]
    rfl
  · rw [List.getElem?_append_right (by simpa using hi)] at e
    have := List.mem_of_getElem? e
    simp at this
/-- a def of one's own keeps the promise G: its text as der says, what it computes as hk says -/
theorem fn_ok {x qual : Str} {st : Stmt} {f : Addr} {fd : FuncData} {N ps : List Str} {k : Nat} {body : CS} {G : Fn} (F : Fun K x qual st f fd) (S : FnScope N ps (defScope st)) (hk : Keeps N.length body G)
    (der : ∀ (cdv : Value) (A : Around) (outer : List Env) (s : Shared) (H : Hp) (E : XK), Room k (A.deeper (envOfC qual (defScope st) s.heap.objs.size f cdv)) →
      ESs (cxOf CX0 P w K mg base N qual (defScope st) f cdv A outer s H E).nox (defBody st) body) : FnOk P w K mg base CX0 (k + 1) f fd ps (spF ⟨K, w⟩ ps.length G) := by
  refine F.ok S (fun vs H Q E h => h.1) fun cdv A outer s H vs Q E hr h => ⟨_, der cdv A outer s H E hr, ?_⟩
  obtain ⟨hl, loc, M, ws, u, M', st, rd, e, aft⟩ := h
  have hc := st.closed
  obtain ⟨r, M2, hor, hid, hr, hinj, hle, hcl, hcw⟩ := hk ws M u M' hc (by rw [← st.len]; exact rd.each) e
  have fin : Aft ⟨K, w⟩ H loc (u.ren r) M2 Q := fun v H' loc' s' r' ex l => by
    have look : ∀ i, i < M'.length → ∃ a, loc'[r i]? = some a := fun i hi => by
      obtain ⟨a, ha, _⟩ := s'.at (hr i _ (List.getElem?_eq_getElem hi))
      exact ⟨a, ha⟩
    have pre : loc <+: renLoc loc' r M'.length := by
      rw [List.prefix_iff_eq_take]
      refine List.ext_getElem? fun i => ?_
      by_cases hi : i < loc.length
      · have hi' : i < M.length := by rw [← st.len]; exact hi
        obtain ⟨a, ha⟩ := look i (by omega)
        rw [List.getElem?_take, if_pos hi, renLoc_get (by omega) ha]
        rw [hid i hi'] at ha
        have := pre_get l (List.getElem?_eq_getElem hi)
        rw [ha] at this
        rw [List.getElem?_eq_getElem hi, this]
      · rw [List.getElem?_take, if_neg hi, List.getElem?_eq_none (by omega)]
    refine aft v H' (renLoc loc' r M'.length) (s'.ren hcl hr hinj) (Rd.unren look r' hcw) ex pre
  rcases hor with hb | ⟨hu, σ', hb⟩
  · exact ⟨loc, _, M, _, rel_start st rd, hb, fin⟩
  · exact ⟨loc, _, M, _, rel_start st rd, hb, fun σV' H' loc' r' ex l => fin .non H' loc' r'.st (by rw [hu]; exact .non) ex l⟩

/-! ### the law -/
/-- the law at a script of ints answers True -/
def lawF : Fn := fun ws M => match ws, M with
  | [.ref 0], [.ro us] => match asInts us with
    | some ns => if ns.length ≤ 63 then some (.bl true, M) else none
    | none => none
  | _, _ => none
/-- to show: at each script the body answers True -/
theorem keeps_law {n : Nat} {body : CS} (h : ∀ ns : List Int, ns.length ≤ 63 → ∃ g, body (some (.ref 0) :: List.replicate (n - 1) none) [.ro (ns.map W.int)] = some (.rt (.bl true) (.ro (ns.map W.int) :: g))) : Keeps n body lawF := by
  refine KeepsP.keeps ?_
  intro ws M w M' hc _ e
  unfold lawF at e
  split at e
  · rename_i us
    split at e
    · rename_i ns hns
      split at e
      · rename_i hl
        cases e
        rw [asInts_some hns]
        obtain ⟨g, hg⟩ := h ns hl
        refine ⟨g, .inl hg, Nat.le_refl _, ?_, by simp [W.closed]⟩
        rw [← asInts_some hns]
        exact hc
      · cases e
    · cases e
  · cases e
def spLaw (K : PySem.W.Frag) : Sp := fun vs H Q _ => ∃ (a : Addr) (ns : List Int), vs = [V.ref a] ∧ Only H ∧ SqL K H a (ns.map V.int) ∧ ns.length ≤ 63 ∧ ∀ H', Q (.bl true) H'
theorem rds_ints {K : KW} {H : Hp} {loc : List Addr} (ns : List Int) : Rds K H loc (ns.map V.int) (ns.map W.int) := by
  induction ns with
  | nil => exact .nil
  | cons n ns ih => exact .cons (.int n) ih
theorem law_ok {f : Addr} {fd : FuncData} {ps : List Str} {k : Nat} (h1 : ps.length = 1) (F : FnOk P w K mg base CX0 k f fd ps (spF ⟨K, w⟩ ps.length lawF)) : FnOk P w K mg base CX0 k f fd ps (spLaw K) := by
  refine F.imp fun vs H Q E h => ?_
  obtain ⟨a, ns, rfl, ho, sq, hl, q⟩ := h
  have ro : RO ⟨K, w⟩ H a (ns.map V.int) := by
    rcases sq with (sq | sq) | sq
    · rcases ho a with h | ⟨o, xs, h⟩
      · rw [sq] at h; cases h
      · rw [sq] at h; cases h
    · exact .inl sq
    · exact .inr sq
  refine ⟨h1.symm, [a], [.ro (ns.map W.int)], [.ref 0], .bl true, [.ro (ns.map W.int)], ⟨rfl, fun i b mo h1 h2 => ?_, fun i j b m n _ _ h3 _ h5 _ => ?_⟩, .cons (.ref rfl) .nil, ?_, fun v H' loc' s' r' ex l => ?_⟩
  · match i, h1, h2 with
    | 0, h1, h2 =>
      cases h1; cases h2
      exact ⟨_, ro, rds_ints ns⟩
    | i + 1, h1, h2 => simp at h2
  · match i, h3 with
    | 0, h3 => cases h3; cases h5
    | i + 1, h3 => simp at h3
  · show lawF [.ref 0] [.ro (ns.map W.int)] = _
    unfold lawF
    simp only [asInts_map, if_pos hl]
  · cases r'
    exact q H'
end
end BF

set_option Elab.async false
set_option linter.all false
set_option autoImplicit false
set_option maxRecDepth 100000
/-! isinstance of a built-in class, or of a tuple of such. -/
namespace BF
open PySem PySem.Spec
open PyProof.Rows L2

section
variable {K : KW} {X : Cx} {e : Expr} {ca : CE} {p pos : Pos}
theorem tyX_of {H : Hp} {loc : List Addr} {M : Mem} {v : V} {w : W} {T : String} (s : Store K H loc M) (r : Rd K H loc v w) (h : tyW M w = some T) : TyX K H v (.type T) := by
  cases r with
  | non => cases h; exact .base .non
  | bl b => cases h; exact .base (.bl b)
  | int i => cases h; exact .base (.int i)
  | str x _ _ => cases h; exact .base (.str x)
  | @tup a xs ws sq rs =>
    cases h
    rcases sq with (sq | ⟨o, sq⟩) | ⟨o, its, n, hk, hc, _⟩
    · exact .base (.tup sq)
    · exact .fTuple sq
    · exact .kTuple hk hc
  | @ref a n hn =>
    simp only [tyW] at h
    split at h
    · rename_i ws hw
      cases h
      obtain ⟨xs, q1, _⟩ := s.ok _ _ _ hn hw
      exact .base (.lst q1)
    · rename_i ws hw
      cases h
      obtain ⟨xs, q1, _⟩ := s.ok _ _ _ hn hw
      rcases q1 with ⟨o, q1⟩ | ⟨o, its, n, hk, hc, _⟩
      · exact .base (.frz q1)
      · exact .kList hk hc
    · cases h
theorem kit_one {M : Mem} {w : W} {T : String} {C : String} (h : tyW M w = some T) (hC : C = "bool" ∨ C = "int" ∨ C = "str" ∨ C = "list" ∨ C = "tuple") : kitB T C = some (isTy C T) := by
  have hT : T = "NoneType" ∨ T = "bool" ∨ T = "int" ∨ T = "str" ∨ T = "tuple" ∨ T = "list" := by
    unfold tyW at h
    split at h
    · cases h; simp
    · cases h; simp
    · cases h; simp
    · cases h; simp
    · cases h; simp
    · split at h
      · cases h; simp
      · cases h; simp
      · cases h
  rcases hT with rfl | rfl | rfl | rfl | rfl | rfl <;> rcases hC with rfl | rfl | rfl | rfl | rfl <;> decide +kernel
/-- a built-in class as a value -/
theorem ty_val {x : Str} {T : String} {pos : Pos} (hg : Gl X x) (hm : X.mg x = none) (hv : bootBuiltins x = some (.type T)) (hn : x ≠ "__name__" := by decide) (hd : (x == ("__debug__" : Str)) = false := by decide) : PE X (.Name x pos) (tC (.ty T)) :=
  pe_bltn hg hm hv rfl hn hd
theorem r_isi (C : String) {x : Str} {p2 : Pos} (hC : C = "bool" ∨ C = "int" ∨ C = "str" ∨ C = "list" ∨ C = "tuple") (hg : Gl X "isinstance") (hm : X.mg "isinstance" = none) (hgC : Gl X x) (hmC : X.mg x = none) (hvC : bootBuiltins x = some (.type C)) (ha : EV X e ca) (hv : bootBuiltins "isinstance" = some (.builtin "isinstance") := by decide +kernel)
    (hn : x ≠ "__name__" := by decide) (hd : (x == ("__debug__" : Str)) = false := by decide)
    (he : starEach [e, .Name x p2] X.env = (false, eval e X.env) :: starEach [.Name x p2] X.env := by rfl) (hpl : (backTo pos (starEach [.Name x p2] X.env)).any (·.1) = false := by rfl) :
    EV X (.Call (.Name "isinstance" p) [e, .Name x p2] [] pos) (e1 (gIsi C) ca) :=
  (pe_callB call_isi hg hm hv (pa_cons ha (pa_cons (ty_val hgC hmC hvC hn hd) pa_nil) he) (by decide) (by decide) he hpl).mono fun σV H Q ⟨loc, σ, M, w, M', rel, e, aft⟩ => by
    obtain ⟨q, hq, e⟩ := bind_some e
    refine run1 rel hq fun v H1 loc1 rel1 rd1 ex1 l1 => ?_
    unfold gIsi at e
    obtain ⟨T, hT, e⟩ := Option.map_eq_some_iff.mp e
    cases e
    exact ⟨v, .ty C, .type T, .type C, _, rfl, .ty C, tyX_of rel1.st rd1 hT, kit_ty (kit_one hT hC), aft _ H1 loc1 rel1.st (.bl _) ex1 l1⟩
/-- isinstance(e, (C, D)) -/
theorem r_isi2 (C D : String) {x y : Str} {p2 p3 pt : Pos} {kt} (hC : C = "bool" ∨ C = "int" ∨ C = "str" ∨ C = "list" ∨ C = "tuple") (hD : D = "bool" ∨ D = "int" ∨ D = "str" ∨ D = "list" ∨ D = "tuple") (hg : Gl X "isinstance") (hm : X.mg "isinstance" = none)
    (hgC : Gl X x) (hmC : X.mg x = none) (hvC : bootBuiltins x = some (.type C)) (hgD : Gl X y) (hmD : X.mg y = none) (hvD : bootBuiltins y = some (.type D)) (ha : EV X e ca) (hv : bootBuiltins "isinstance" = some (.builtin "isinstance") := by decide +kernel)
    (hn : x ≠ "__name__" := by decide) (hd : (x == ("__debug__" : Str)) = false := by decide) (hn2 : y ≠ "__name__" := by decide) (hd2 : (y == ("__debug__" : Str)) = false := by decide)
    (hs : starEach [.Name x p2, .Name y p3] X.env = (false, eval (.Name x p2) X.env) :: starEach [.Name y p3] X.env := by rfl)
    (he : starEach [e, .Tuple [.Name x p2, .Name y p3] kt pt] X.env = (false, eval e X.env) :: starEach [.Tuple [.Name x p2, .Name y p3] kt pt] X.env := by rfl) (hpl : (backTo pos (starEach [.Tuple [.Name x p2, .Name y p3] kt pt] X.env)).any (·.1) = false := by rfl) :
    EV X (.Call (.Name "isinstance" p) [e, .Tuple [.Name x p2, .Name y p3] kt pt] [] pos) (e1 (gIsi2 C D) ca) :=
  (pe_callB call_isiT hg hm hv (pa_cons ha (pa_cons (pe_tup (pa_cons (ty_val hgC hmC hvC hn hd) (pa_cons (ty_val hgD hmD hvD hn2 hd2) pa_nil) hs)) pa_nil) he) (by decide) (by decide) he hpl).mono fun σV H Q ⟨loc, σ, M, w, M', rel, e, aft⟩ => by
    obtain ⟨q, hq, e⟩ := bind_some e
    refine run1 rel hq fun v H1 loc1 rel1 rd1 ex1 l1 => ?_
    refine ⟨by show 2 ≤ sizeLine; decide, fun t ht => ?_⟩
    unfold gIsi2 at e
    obtain ⟨T, hT, e⟩ := Option.map_eq_some_iff.mp e
    cases e
    have s2 : Store X.KW (upd H1 t (.tup [.ty C, .ty D])) loc1 q.2 := rel1.st.newT ht
    have ex2 : Ext X.KW H1 (upd H1 t (.tup [.ty C, .ty D])) := .new ht
    refine ⟨v, t, [.ty C, .ty D], .type T, [.type C, .type D], isTy C T || isTy D T, rfl, upd_same, .cons (.ty C) (.cons (.ty D) .nil), tyX_of s2 (rd1.mono ex2 (List.prefix_refl _)) hT, ?_, aft _ _ loc1 s2 (.bl _) (ex1.trans ex2) l1⟩
    exact kitAny_cons (kit_ty (kit_one hT hC)) (fun z => by
      rw [z, Bool.false_or]
      exact kitAny_cons (kit_ty (kit_one hT hD)) (fun z' => by rw [z']; exact kitAny_nil) fun z' => z') fun z => by rw [z]; rfl
end
end BF

set_option Elab.async false
set_option linter.all false
set_option autoImplicit false
set_option maxRecDepth 10000
/-! Plain facts: how the terms compute; texts; equality; encodings. -/
namespace BF
open PySem

theorem nr {α : Type} {a b : α} (h : a = b) : a = b := h
section
variable {σ : Sl} {M : Mem}
@[simp] theorem eV_eq (i : Nat) : eV i σ M = match σ.getD i none with
  | some w => some (w, M)
  | none => none := nr rfl
@[simp] theorem eL_eq (w : W) : eL w σ M = some (w, M) := nr rfl
@[simp] theorem e1_eq (f) (a : CE) : e1 f a σ M = (a σ M).bind fun p => f p.2 p.1 := nr rfl
@[simp] theorem e2_eq (f) (a b : CE) : e2 f a b σ M = (a σ M).bind fun p => (b σ p.2).bind fun q => f q.2 p.1 q.1 := nr rfl
@[simp] theorem eArgs_nil : eArgs [] σ M = some ([], M) := nr rfl
@[simp] theorem eArgs_cons (a : CE) (as : List CE) : eArgs (a :: as) σ M = (a σ M).bind fun p => (eArgs as σ p.2).bind fun q => some (p.1 :: q.1, q.2) := nr rfl
@[simp] theorem eN_eq (f : Fn) (as : List CE) : eN f as σ M = (eArgs as σ M).bind fun p => f p.1 p.2 := nr rfl
@[simp] theorem eTup_eq (as : List CE) : eTup as σ M = (eArgs as σ M).bind fun p => if p.1.length ≤ 16777216 then some (.tup p.1, p.2) else none := nr rfl
@[simp] theorem eLst_eq (as : List CE) : eLst as σ M = (eArgs as σ M).bind fun p => if p.1.length ≤ 16777216 then some (.ref p.2.length, p.2 ++ [.lst p.1]) else none := nr rfl
@[simp] theorem eIf_eq (t : CT) (a b : CE) : eIf t a b σ M = (t σ M).bind fun p => if p.1 = true then a σ p.2 else b σ p.2 := nr rfl
@[simp] theorem eAnd_eq (a b : CE) : eAnd a b σ M = (a σ M).bind fun p => match p.1 with
  | .bl true => b σ p.2
  | .bl false => some (.bl false, p.2)
  | _ => none := nr rfl
@[simp] theorem eOr_eq (a b : CE) : eOr a b σ M = (a σ M).bind fun p => match p.1 with
  | .bl true => some (.bl true, p.2)
  | .bl false => b σ p.2
  | _ => none := nr rfl
@[simp] theorem eNot_eq (a : CE) : eNot a σ M = (a σ M).bind fun p => match p.1 with
  | .bl c => some (.bl (!c), p.2)
  | _ => none := nr rfl
@[simp] theorem eChain_eq (f g) (a b c : CE) : eChain f g a b c σ M = (a σ M).bind fun p => (b σ p.2).bind fun q => (f q.2 p.1 q.1).bind fun r => match r.1 with
    | .bl true => (c σ r.2).bind fun t => g t.2 q.1 t.1
    | .bl false => some (.bl false, r.2)
    | _ => none := nr rfl
@[simp] theorem tB_eq (e : CE) : tB e σ M = (e σ M).bind fun p => match p.1 with
  | .bl c => some (c, p.2)
  | _ => none := nr rfl
@[simp] theorem tAnd_eq (a b : CT) : tAnd a b σ M = (a σ M).bind fun p => if p.1 = true then b σ p.2 else some (false, p.2) := nr rfl
@[simp] theorem tOr_eq (a b : CT) : tOr a b σ M = (a σ M).bind fun p => if p.1 = true then some (true, p.2) else b σ p.2 := nr rfl
@[simp] theorem tNot_eq (a : CT) : tNot a σ M = (a σ M).bind fun p => some (!p.1, p.2) := nr rfl
@[simp] theorem tTrue_eq : tTrue σ M = some (true, M) := nr rfl
@[simp] theorem gV_eq (i : Nat) (w : W) : gV i w σ = some (σ.set i (some w)) := nr rfl
@[simp] theorem gAll_nil : gAll [] [] σ = some σ := nr rfl
@[simp] theorem gAll_cons (g : CG) (gs : List CG) (w : W) (ws : List W) : gAll (g :: gs) (w :: ws) σ = (g w σ).bind fun σ1 => gAll gs ws σ1 := nr rfl
@[simp] theorem gT_eq (gs : List CG) (ws : List W) : gT gs (.tup ws) σ = gAll gs ws σ := nr rfl
@[simp] theorem sSet_eq (g : CG) (e : CE) : sSet g e σ M = (e σ M).bind fun p => (g p.1 σ).bind fun σ1 => some (.nx σ1 p.2) := nr rfl
@[simp] theorem sPar_eq (is : List Nat) (as : List CE) : sPar is as σ M = (eArgs as σ M).bind fun p =>
  if p.1.length = is.length then some (.nx ((is.zip p.1).foldl (fun σ q => σ.set q.1 (some q.2)) σ) p.2) else none := nr rfl
@[simp] theorem sAug_eq (i : Nat) (f) (e : CE) : sAug i f e σ M = match σ.getD i none with
  | some w => (e σ M).bind fun p => (f p.2 w p.1).bind fun q => some (.nx (σ.set i (some q.1)) q.2)
  | none => none := nr rfl
@[simp] theorem sPut_eq (f) (o k e : CE) : sPut f o k e σ M = (e σ M).bind fun p => (o σ p.2).bind fun q => (k σ q.2).bind fun r => (f r.2 q.1 r.1 p.1).bind fun M' => some (.nx σ M') := nr rfl
@[simp] theorem sExpr_eq (e : CE) : sExpr e σ M = (e σ M).bind fun p => some (.nx σ p.2) := nr rfl
@[simp] theorem sRet_eq (e : CE) : sRet e σ M = (e σ M).bind fun p => some (.rt p.1 p.2) := nr rfl
@[simp] theorem sNil_eq : sNil σ M = some (.nx σ M) := nr rfl
@[simp] theorem sBreak_eq : sBreak σ M = some (.bk σ M) := nr rfl
@[simp] theorem sSeq_eq (a b : CS) : sSeq a b σ M = (a σ M).bind fun o => match o with
  | .nx σ' M' => b σ' M'
  | .rt w M' => some (.rt w M')
  | .bk σ' M' => some (.bk σ' M')
  | .ct σ' M' => some (.ct σ' M') := nr rfl
@[simp] theorem sIf_eq (t : CT) (a b : CS) : sIf t a b σ M = (t σ M).bind fun p => if p.1 = true then a σ p.2 else b σ p.2 := nr rfl
@[simp] theorem sFor_eq (it : CI) (g : CG) (body : CS) : sFor it g body σ M = (it σ M).bind fun p => forL p.2.1 g body p.1 σ p.2.2 := nr rfl
@[simp] theorem eLc_eq (it : CI) (g : CG) (t : CT) (e : CE) (vs : List Nat) : eLc it g t e vs σ M = (it σ M).bind fun p =>
  (lcL p.2.1 g t e vs σ p.2.2.length p.1 (p.2.2 ++ [.lst []])).bind fun M' => some (.ref p.2.2.length, M') := nr rfl
@[simp] theorem iTup_eq (e : CE) : iTup e σ M = (e σ M).bind fun p => match p.1 with
  | .tup ws => some (ws, gdT, p.2)
  | _ => none := nr rfl
@[simp] theorem iLst_eq (e : CE) : iLst e σ M = (e σ M).bind fun p => match p.1 with
  | .ref n => match p.2[n]? with
    | some (.lst ws) => some (ws, fun M' => decide (M'[n]? = some (.lst ws)), p.2)
    | some (.ro ws) => some (ws, fun M' => decide (M'[n]? = some (.ro ws)), p.2)
    | _ => none
  | _ => none := nr rfl
@[simp] theorem iRange1_eq (e : CE) : iRange1 e σ M = (e σ M).bind fun p => match p.1 with
  | .int j => if small62 j = true then some (rangeW 0 j.toNat, gdT, p.2) else none
  | _ => none := nr rfl
@[simp] theorem iRange2_eq (a b : CE) : iRange2 a b σ M = (a σ M).bind fun p => (b σ p.2).bind fun q => match p.1, q.1 with
  | .int i, .int j => if small62 i = true ∧ small62 j = true then some (rangeW i (j - i).toNat, gdT, q.2) else none
  | _, _ => none := nr rfl
@[simp] theorem iEnumT_eq (e : CE) : iEnumT e σ M = (e σ M).bind fun p => match p.1 with
  | .tup ws => some (enumW ws, gdT, p.2)
  | _ => none := nr rfl
@[simp] theorem iEnumL_eq (e : CE) : iEnumL e σ M = (e σ M).bind fun p => match p.1 with
  | .ref n => match p.2[n]? with
    | some (.lst ws) => some (enumW ws, fun M' => decide (M'[n]? = some (.lst ws)), p.2)
    | _ => none
  | _ => none := nr rfl
@[simp] theorem iZipT_eq (a b : CE) : iZipT a b σ M = (a σ M).bind fun p => (b σ p.2).bind fun q => match p.1, q.1 with
  | .tup xs, .tup ys => some (zipW xs ys, gdT, q.2)
  | _, _ => none := nr rfl
@[simp] theorem gdT_eq : gdT M = true := nr rfl
@[simp] theorem eML_eq (f : Fn) (o : CE) (as : List CE) : eML f o as σ M = (o σ M).bind fun p => if isLst p.2 p.1 = true then (eArgs as σ p.2).bind fun q => f (p.1 :: q.1) q.2 else none := nr rfl
@[simp] theorem ePart_none : ePart none σ M = some (none, M) := nr rfl
@[simp] theorem ePart_some (c : CE) : ePart (some c) σ M = (c σ M).bind fun p => match p.1 with
    | .int i => some (some i, p.2)
    | _ => none := nr rfl
@[simp] theorem eSl_eq (e : CE) (lo hi : Option CE) : eSl e lo hi σ M = (e σ M).bind fun p => (ePart lo σ p.2).bind fun q => (ePart hi σ q.2).bind fun r => gSl r.2 p.1 q.1 r.1 := nr rfl

@[simp] theorem gAdd_int (i j : Int) : gAdd M (.int i) (.int j) = some (.int (i + j), M) := nr rfl
@[simp] theorem gAdd_tup (a b : List W) : gAdd M (.tup a) (.tup b) = if a.length + b.length ≤ 16777216 then some (.tup (a ++ b), M) else none := nr rfl
@[simp] theorem gAdd_str (a b : Str) : gAdd M (.str a) (.str b) = if a.length + b.length ≤ 16777216 then some (.str (a ++ b), M) else none := nr rfl
@[simp] theorem gAdd_ref (a b : Nat) : gAdd M (.ref a) (.ref b) = match M[a]?, M[b]? with
    | some (.lst xs), some (.lst ys) => if xs.length + ys.length ≤ 16777216 then some (.ref M.length, M ++ [.lst (xs ++ ys)]) else none
    | _, _ => none := nr rfl
@[simp] theorem gSub_int (i j : Int) : gSub M (.int i) (.int j) = some (.int (i - j), M) := nr rfl
@[simp] theorem gMul_int (i j : Int) : gMul M (.int i) (.int j) = if small64 i = true ∨ small64 j = true then some (.int (i * j), M) else none := nr rfl
@[simp] theorem gRep_tup (a : List W) (k : Int) : gRep M (.tup a) (.int k) = if a.length ≤ 1000 ∧ k ≤ 1000 then some (.tup (List.replicate k.toNat a).flatten, M) else none := nr rfl
@[simp] theorem gMod_int (i j : Int) : gMod M (.int i) (.int j) = if 0 < j then some (.int (i % j), M) else none := nr rfl
@[simp] theorem gDiv_int (i j : Int) : gDiv M (.int i) (.int j) = if 0 < j ∧ small64 j = true then some (.int (i / j), M) else none := nr rfl
@[simp] theorem gPow_int (i j : Int) : gPow M (.int i) (.int j) = if 0 ≤ j ∧ j ≤ 1000 ∧ small62 i = true then some (.int (i ^ j.toNat), M) else none := nr rfl
@[simp] theorem gNeg_int (i : Int) : gNeg M (.int i) = some (.int (-i), M) := nr rfl
@[simp] theorem gLt_int (i j : Int) : gLt M (.int i) (.int j) = some (.bl (decide (i < j)), M) := nr rfl
@[simp] theorem gLe_int (i j : Int) : gLe M (.int i) (.int j) = some (.bl (decide (i ≤ j)), M) := nr rfl
@[simp] theorem gGt_int (i j : Int) : gGt M (.int i) (.int j) = some (.bl (decide (j < i)), M) := nr rfl
@[simp] theorem gGe_int (i j : Int) : gGe M (.int i) (.int j) = some (.bl (decide (j ≤ i)), M) := nr rfl
@[simp] theorem gEq_eq (x y : W) : gEq M x y = (eqW M x y).map fun b => (.bl b, M) := nr rfl
@[simp] theorem gNe_eq (x y : W) : gNe M x y = (eqW M x y).map fun b => (.bl (!b), M) := nr rfl
@[simp] theorem gIsN_eq (x : W) : gIsN M x = some (.bl (isN x), M) := nr rfl
@[simp] theorem gNotN_eq (x : W) : gNotN M x = some (.bl (!isN x), M) := nr rfl
@[simp] theorem isN_non : isN .non = true := nr rfl
@[simp] theorem isN_bl (b) : isN (.bl b) = false := nr rfl
@[simp] theorem isN_int (i) : isN (.int i) = false := nr rfl
@[simp] theorem isN_str (i) : isN (.str i) = false := nr rfl
@[simp] theorem isN_tup (i) : isN (.tup i) = false := nr rfl
@[simp] theorem isN_ref (i) : isN (.ref i) = false := nr rfl
@[simp] theorem gIx_tup (a : List W) (i : Int) : gIx M (.tup a) (.int i) = ((ixW a.length i).bind fun j => a[j]?).map fun w => (w, M) := nr rfl
@[simp] theorem gIx_ref (n : Nat) (i : Int) : gIx M (.ref n) (.int i) = match M[n]? with
    | some (.lst a) => ((ixW a.length i).bind fun j => a[j]?).map fun w => (w, M)
    | some (.ro a) => ((ixW a.length i).bind fun j => a[j]?).map fun w => (w, M)
    | _ => none := nr rfl
@[simp] theorem gSl_tup (a : List W) (lo hi : Option Int) : gSl M (.tup a) lo hi = some (.tup (cutW a lo hi), M) := nr rfl
@[simp] theorem gSl_ref (n : Nat) (lo hi : Option Int) : gSl M (.ref n) lo hi = match M[n]? with
    | some (.lst a) => some (.ref M.length, M ++ [.lst (cutW a lo hi)])
    | _ => none := nr rfl
@[simp] theorem pLen_tup (a : List W) : pLen [.tup a] M = some (.int a.length, M) := nr rfl
@[simp] theorem pLen_ref (n : Nat) : pLen [.ref n] M = match M[n]? with
    | some (.lst a) => some (.int a.length, M)
    | some (.ro a) => some (.int a.length, M)
    | _ => none := nr rfl
@[simp] theorem pMin_eq (i j : Int) : pMin [.int i, .int j] M = some (.int (if j < i then j else i), M) := nr rfl
@[simp] theorem pMax_eq (i j : Int) : pMax [.int i, .int j] M = some (.int (if j > i then j else i), M) := nr rfl
@[simp] theorem pAbs_eq (i : Int) : pAbs [.int i] M = some (.int (if i < 0 then -i else i), M) := nr rfl
@[simp] theorem pList_tup (a : List W) : pList [.tup a] M = some (.ref M.length, M ++ [.lst a]) := nr rfl
@[simp] theorem pList_ref (n : Nat) : pList [.ref n] M = match M[n]? with
    | some (.lst a) => some (.ref M.length, M ++ [.lst a])
    | some (.ro a) => some (.ref M.length, M ++ [.lst a])
    | _ => none := nr rfl
@[simp] theorem pTuple_tup (a : List W) : pTuple [.tup a] M = some (.tup a, M) := nr rfl
@[simp] theorem pTuple_ref (n : Nat) : pTuple [.ref n] M = match M[n]? with
    | some (.lst a) => some (.tup a, M)
    | some (.ro a) => some (.tup a, M)
    | _ => none := nr rfl
@[simp] theorem isLst_ref (n : Nat) : isLst M (.ref n) = match M[n]? with
    | some (.lst _) => true
    | _ => false := nr rfl
@[simp] theorem mAppend_ref (n : Nat) (w : W) : mAppend [.ref n, w] M = match M[n]? with
    | some (.lst a) => if a.length < 16777216 then some (.non, M.set n (.lst (a ++ [w]))) else none
    | _ => none := nr rfl
@[simp] theorem mPop_ref (n : Nat) : mPop [.ref n] M = match M[n]? with
    | some (.lst a) => a[a.length - 1]?.map fun w => (w, M.set n (.lst a.dropLast))
    | _ => none := nr rfl
@[simp] theorem mPopAt_ref (n : Nat) (i : Int) : mPopAt [.ref n, .int i] M = match M[n]? with
    | some (.lst a) => if small62 i = true then (ixW a.length i).bind fun j => a[j]?.map fun w => (w, M.set n (.lst (a.eraseIdx j))) else none
    | _ => none := nr rfl
@[simp] theorem putL_ref (n : Nat) (i : Int) (w : W) : putL M (.ref n) (.int i) w = match M[n]? with
    | some (.lst a) => (ixW a.length i).map fun j => M.set n (.lst (a.set j w))
    | _ => none := nr rfl
end


theorem ite_le {α : Type} {n m : Nat} {a b : α} (h : n ≤ m) : (if n ≤ m then a else b) = a := if_pos h
theorem ite_lt {α : Type} {n m : Nat} {a b : α} (h : n < m) : (if n < m then a else b) = a := if_pos h

/-! ### texts -/
theorem ofString_cps (a : String) : (Str.ofString a).cps.toList = a.toList.map Char.toNat := by
  show ((cpsOfBytes 0 0 a.toByteArray.data.toList).toArray).toList = _
  rw [cpsOfBytes_string]
theorem ofString_inj {a b : String} (h : Str.ofString a = Str.ofString b) : a = b := by
  have e : a.toList.map Char.toNat = b.toList.map Char.toNat := by rw [← ofString_cps, ← ofString_cps, h]
  have inj : ∀ (l m : List Char), l.map Char.toNat = m.map Char.toNat → l = m := by
    intro l
    induction l with
    | nil => intro m h; cases m with
      | nil => rfl
      | cons _ _ => cases h
    | cons c l ih =>
      intro m h
      cases m with
      | nil => cases h
      | cons d m =>
        rw [List.map_cons, List.map_cons] at h
        injection h with h1 h2
        rw [ih m h2, Char.toNat_inj.mp h1]
  exact String.toList_inj.mp (inj _ _ e)
@[simp] theorem ofString_eq (a b : String) : (Str.ofString a = Str.ofString b) ↔ a = b := ⟨ofString_inj, fun h => h ▸ rfl⟩

/-! ### equality of list-free values -/
mutual
def eqP : W → W → Bool
  | .non, .non => true
  | .bl a, .bl b => a == b
  | .bl a, .int j => (if a then 1 else 0) == j
  | .int i, .bl b => i == (if b then 1 else 0)
  | .int i, .int j => i == j
  | .str x, .str y => x == y
  | .tup xs, .tup ys => eqPs xs ys
  | .ref _, _ | .tup _, .non | .tup _, .bl _ | .tup _, .int _ | .tup _, .str _ | .tup _, .ref _ => false
  | .non, .bl _ | .non, .int _ | .non, .str _ | .non, .tup _ | .non, .ref _ => false
  | .bl _, .non | .bl _, .str _ | .bl _, .tup _ | .bl _, .ref _ => false
  | .int _, .non | .int _, .str _ | .int _, .tup _ | .int _, .ref _ => false
  | .str _, .non | .str _, .bl _ | .str _, .int _ | .str _, .tup _ | .str _, .ref _ => false
def eqPs : List W → List W → Bool
  | [], [] => true
  | x :: xs, y :: ys => eqP x y && eqPs xs ys
  | [], _ :: _ => false
  | _ :: _, [] => false
end
/-- list-free and at most so deep -/
def okW : Nat → W → Bool
  | 0, _ => false
  | _ + 1, .ref _ => false
  | k + 1, .tup ws => ws.all (okW k)
  | _ + 1, .non | _ + 1, .bl _ | _ + 1, .int _ | _ + 1, .str _ => true
mutual
def dP : W → PyData
  | .non => .none
  | .bl b => .bool b
  | .int i => .int i
  | .str x => .str x
  | .tup ws => .tuple (dPs ws)
  | .ref _ => .none
def dPs : List W → List PyData
  | [] => []
  | w :: ws => dP w :: dPs ws
end
theorem toD_P (M : Mem) : ∀ (k : Nat) (w : W), okW k w = true → toD M k w = some (dP w)
  | 0, _, h => by cases h
  | k + 1, w, h => by
    cases w with
    | tup ws =>
      rw [okW] at h
      rw [toD, dP]
      have : mapO (toD M k) ws = some (dPs ws) := by
        induction ws with
        | nil => rfl
        | cons w ws ih =>
          rw [List.all_cons, Bool.and_eq_true] at h
          rw [mapO, toD_P M k w h.1, ih h.2, dPs]
      rw [this]; rfl
    | ref n => rw [okW] at h; cases h
    | non => rw [toD, dP]
    | bl b => rw [toD, dP]
    | int i => rw [toD, dP]
    | str x => rw [toD, dP]
theorem eqv_P : ∀ (k : Nat) (x y : W), okW k x = true → okW k y = true → PyData.eqv (dP x) (dP y) = eqP x y
  | 0, _, _, h, _ => by cases h
  | k + 1, x, y, hx, hy => by
    have all : ∀ (xs ys : List W), xs.all (okW k) = true → ys.all (okW k) = true → PyData.eqvAll (dPs xs) (dPs ys) = eqPs xs ys := by
      intro xs
      induction xs with
      | nil => intro ys _ _; cases ys <;> simp [dPs, PyData.eqvAll, eqPs]
      | cons x xs ih =>
        intro ys h1 h2
        cases ys with
        | nil => simp [dPs, PyData.eqvAll, eqPs]
        | cons y ys =>
          rw [List.all_cons, Bool.and_eq_true] at h1 h2
          rw [dPs, dPs, PyData.eqvAll, eqPs, eqv_P k x y h1.1 h2.1, ih ys h1.2 h2.2]
    cases x with
    | ref _ => rw [okW] at hx; cases hx
    | tup xs =>
      cases y with
      | tup ys => rw [okW] at hx hy; simp only [dP, PyData.eqv, eqP]; exact all xs ys hx hy
      | ref _ => rw [okW] at hy; cases hy
      | _ => simp [dP, PyData.eqv, eqP]
    | _ => cases y with
      | ref _ => rw [okW] at hy; cases hy
      | _ => simp [dP, PyData.eqv, eqP]
theorem eqW_P (M : Mem) {x y : W} (hx : okW 64 x = true) (hy : okW 64 y = true) : eqW M x y = some (eqP x y) := by
  unfold eqW
  rw [toD_P M 64 x hx, toD_P M 64 y hy]
  show some _ = some _
  rw [eqv_P 64 x y hx hy]
theorem okW_mono : ∀ (k : Nat) (w : W), okW k w = true → ∀ j, k ≤ j → okW j w = true
  | 0, _, h, _, _ => by cases h
  | k + 1, w, h, j, hj => by
    cases j with
    | zero => omega
    | succ j =>
      cases w with
      | tup ws =>
        rw [okW] at h ⊢
        rw [List.all_eq_true] at h ⊢
        exact fun w hw => okW_mono k w (h w hw) j (by omega)
      | ref _ => rw [okW] at h; cases h
      | _ => rfl

/-! ### encodings -/
class Enc (α : Type) where
  enc : α → W
  dec : W → Option α
  dec_enc : ∀ a, dec (enc a) = some a
  enc_dec : ∀ w a, dec w = some a → w = enc a
  dep : Nat
  ok : ∀ a, okW dep (enc a) = true
  eqE : ∀ a b : α, eqP (enc a) (enc b) = true ↔ a = b
end BF

set_option Elab.async false
set_option linter.all false
set_option autoImplicit false
set_option maxRecDepth 10000
/-! Encodings of our own types, and promises of pure defs. -/
namespace BF
open PySem Enc

theorem Enc.inj {α : Type} [Enc α] {a b : α} (h : (enc a : W) = enc b) : a = b := by
  have := dec_enc a
  rw [h, dec_enc b] at this
  exact (Option.some.inj this).symm
instance : Enc Int where
  enc i := .int i
  dec w := match w with
    | .int i => some i
    | _ => none
  dec_enc _ := rfl
  enc_dec w a h := by
    split at h
    · cases h; rfl
    · cases h
  dep := 1
  ok _ := rfl
  eqE a b := by simp [eqP]
instance : Enc Nat where
  enc i := .int (i : Int)
  dec w := match w with
    | .int i => if 0 ≤ i then some i.toNat else none
    | _ => none
  dec_enc a := by simp
  enc_dec w a h := by
    split at h
    · split at h
      · cases h; congr 1; omega
      · cases h
    · cases h
  dep := 1
  ok _ := rfl
  eqE a b := by simp [eqP]; omega
instance : Enc Bool where
  enc i := .bl i
  dec w := match w with
    | .bl i => some i
    | _ => none
  dec_enc _ := rfl
  enc_dec w a h := by
    split at h
    · cases h; rfl
    · cases h
  dep := 1
  ok _ := rfl
  eqE a b := by simp [eqP]
instance : Enc Str where
  enc i := .str i
  dec w := match w with
    | .str i => some i
    | _ => none
  dec_enc _ := rfl
  enc_dec w a h := by
    split at h
    · cases h; rfl
    · cases h
  dep := 1
  ok _ := rfl
  eqE a b := by simp [eqP]
theorem mapO_map {α β γ : Type} {f : β → Option γ} {g : α → β} {h : α → γ} (e : ∀ a, f (g a) = some (h a)) : ∀ l : List α, mapO f (l.map g) = some (l.map h)
  | [] => rfl
  | a :: l => by rw [List.map_cons, mapO, e a, mapO_map e l]; rfl
theorem mapO_enc {α : Type} [Enc α] : ∀ {ws : List W} {as : List α}, mapO dec ws = some as → ws = as.map enc
  | [], as, h => by cases h; rfl
  | w :: ws, as, h => by
    rw [mapO] at h
    split at h
    · rename_i b bs h1 h2
      cases h
      rw [List.map_cons, ← enc_dec w b h1, ← mapO_enc h2]
    · cases h
theorem eqPs_map {α : Type} [Enc α] : ∀ as bs : List α, eqPs (as.map enc) (bs.map enc) = true ↔ as = bs
  | [], [] => by simp [eqPs]
  | [], _ :: _ => by simp [eqPs]
  | _ :: _, [] => by simp [eqPs]
  | a :: as, b :: bs => by
    rw [List.map_cons, List.map_cons, eqPs, Bool.and_eq_true, eqE, eqPs_map as bs]
    simp
instance {α : Type} [Enc α] : Enc (List α) where
  enc l := .tup (l.map enc)
  dec w := match w with
    | .tup ws => mapO dec ws
    | _ => none
  dec_enc l := by
    show mapO dec (l.map enc) = some l
    rw [mapO_map (h := id) fun a => dec_enc a, List.map_id]
  enc_dec w a h := by
    split at h
    · rw [mapO_enc h]
    · cases h
  dep := dep α + 1
  ok l := by
    rw [okW, List.all_eq_true]
    intro w hw
    obtain ⟨a, _, rfl⟩ := List.mem_map.mp hw
    exact ok a
  eqE a b := by
    rw [eqP]
    exact eqPs_map a b
instance {α β : Type} [Enc α] [Enc β] : Enc (α × β) where
  enc p := .tup [enc p.1, enc p.2]
  dec w := match w with
    | .tup [a, b] => match (dec a : Option α), (dec b : Option β) with
      | some x, some y => some (x, y)
      | _, _ => none
    | _ => none
  dec_enc p := by simp only [dec_enc]
  enc_dec w a h := by
    split at h
    · split at h
      · rename_i h1 h2
        cases h
        rw [enc_dec _ _ h1, enc_dec _ _ h2]
      · cases h
    · cases h
  dep := max (dep α) (dep β) + 1
  ok p := by
    rw [okW]
    simp [okW_mono _ _ (ok p.1) (max (dep α) (dep β)) (Nat.le_max_left _ _), okW_mono _ _ (ok p.2) (max (dep α) (dep β)) (Nat.le_max_right _ _)]
  eqE p q := by
    simp only [eqP, eqPs, Bool.and_true, Bool.and_eq_true, eqE]
    exact ⟨fun h => Prod.ext h.1 h.2, fun h => by rw [h]; exact ⟨rfl, rfl⟩⟩
/-- a history: the pages, the place -/
structure Hist where
  ps : List Str
  at_ : Nat
  deriving DecidableEq
instance : Enc Hist where
  enc h := .tup [.tup (h.ps.map W.str), .int h.at_]
  dec w := (dec w : Option (List Str × Nat)).map fun p => ⟨p.1, p.2⟩
  dec_enc h := by
    have : (dec (.tup [.tup (h.ps.map W.str), .int h.at_]) : Option (List Str × Nat)) = some (h.ps, h.at_) := dec_enc (h.ps, h.at_)
    rw [this]; rfl
  enc_dec w a h := by
    obtain ⟨p, h1, h2⟩ := Option.map_eq_some_iff.mp h
    rw [enc_dec w p h1, ← h2]; rfl
  dep := 3
  ok h := ok (h.ps, h.at_)
  eqE a b := by
    have := eqE (a.ps, a.at_) (b.ps, b.at_)
    refine this.trans ?_
    cases a; cases b
    simp
theorem enc_hist (h : Hist) : (enc h : W) = .tup [.tup (h.ps.map W.str), .int h.at_] := rfl
/-- an action; go is the menus' -/
inductive Act where
  | visit (p : Str)
  | back
  | forward
  | go (i : Nat)
  deriving DecidableEq
def Act.enc : Act → W
  | .visit p => .tup [.str "visit", .str p]
  | .back => .tup [.str "back"]
  | .forward => .tup [.str "forward"]
  | .go i => .tup [.str "go", .int i]
def Act.dec : W → Option Act
  | .tup [.str a, .str p] => if a = "visit" then some (.visit p) else none
  | .tup [.str a] => if a = "back" then some .back else if a = "forward" then some .forward else none
  | .tup [.str a, .int i] => if a = "go" ∧ 0 ≤ i then some (.go i.toNat) else none
  | _ => none
instance : Enc Act where
  enc := Act.enc
  dec := Act.dec
  dec_enc a := by cases a <;> simp [Act.enc, Act.dec]
  enc_dec w a h := by
    unfold Act.dec at h
    split at h
    · split at h
      · rename_i e; cases h; subst e; rfl
      · cases h
    · split at h
      · rename_i e; cases h; subst e; rfl
      · split at h
        · rename_i e; cases h; subst e; rfl
        · cases h
    · split at h
      · rename_i e; cases h; obtain ⟨e, e2⟩ := e; subst e; simp [Act.enc]; omega
      · cases h
    · cases h
  dep := 2
  ok a := by cases a <;> rfl
  eqE a b := by cases a <;> cases b <;> simp [Act.enc, eqP, eqPs]; omega
@[simp] theorem enc_visit (p : Str) : (enc (Act.visit p) : W) = .tup [.str "visit", .str p] := rfl
@[simp] theorem enc_back : (enc Act.back : W) = .tup [.str "back"] := rfl
@[simp] theorem enc_forward : (enc Act.forward : W) = .tup [.str "forward"] := rfl
@[simp] theorem enc_go (i : Nat) : (enc (Act.go i) : W) = .tup [.str "go", .int i] := rfl
/-- a sighting -/
structure Sight where
  p : Str
  b : Bool
  f : Bool
  deriving DecidableEq
instance : Enc Sight where
  enc s := .tup [.str s.p, .bl s.b, .bl s.f]
  dec w := match w with
    | .tup [.str p, .bl b, .bl f] => some ⟨p, b, f⟩
    | _ => none
  dec_enc _ := rfl
  enc_dec w a h := by
    split at h
    · cases h; rfl
    · cases h
  dep := 2
  ok _ := rfl
  eqE a b := by cases a; cases b; simp [eqP, eqPs]
theorem enc_sight (s : Sight) : (enc s : W) = .tup [.str s.p, .bl s.b, .bl s.f] := rfl
@[simp] theorem enc_nat (n : Nat) : (enc n : W) = .int n := rfl
@[simp] theorem enc_int (n : Int) : (enc n : W) = .int n := rfl
@[simp] theorem enc_bool (n : Bool) : (enc n : W) = .bl n := rfl
@[simp] theorem enc_str (n : Str) : (enc n : W) = .str n := rfl
theorem enc_list {α : Type} [Enc α] (l : List α) : (enc l : W) = .tup (l.map enc) := rfl
theorem enc_pair {α β : Type} [Enc α] [Enc β] (a : α) (b : β) : (enc (a, b) : W) = .tup [enc a, enc b] := rfl

/-- == of encoded values -/
theorem eqW_enc {α : Type} [Enc α] [DecidableEq α] (M : Mem) (a b : α) (h : dep α ≤ 64 := by decide) : eqW M (enc a) (enc b) = some (decide (a = b)) := by
  rw [eqW_P M (okW_mono _ _ (ok a) 64 h) (okW_mono _ _ (ok b) 64 h)]
  congr 1
  rw [Bool.eq_iff_iff, eqE, decide_eq_true_eq]
@[simp] theorem eqW_str (M : Mem) (a b : Str) : eqW M (.str a) (.str b) = some (decide (a = b)) := eqW_enc M a b
@[simp] theorem eqW_int (M : Mem) (a b : Int) : eqW M (.int a) (.int b) = some (decide (a = b)) := eqW_enc M a b
@[simp] theorem eqW_bl (M : Mem) (a b : Bool) : eqW M (.bl a) (.bl b) = some (decide (a = b)) := eqW_enc M a b

theorem okW_closed : ∀ (k : Nat) (w : W), okW k w = true → ∀ n, w.closed n = true
  | 0, _, h, _ => by cases h
  | k + 1, w, h, n => by
    cases w with
    | tup ws =>
      rw [okW] at h
      rw [W.closed]
      induction ws with
      | nil => rfl
      | cons w ws ih =>
        rw [List.all_cons, Bool.and_eq_true] at h
        rw [W.closeds, okW_closed k w h.1 n, ih h.2]; rfl
    | ref _ => rw [okW] at h; cases h
    | _ => rfl
theorem enc_closed {α : Type} [Enc α] (a : α) (n : Nat) : (enc a : W).closed n = true := okW_closed _ _ (ok a) n

/-- promises of pure defs -/
def fn1 {α β : Type} [Enc α] [Enc β] (f : α → Option β) : Fn := fun ws M => match ws with
  | [x] => match (dec x : Option α) with
    | some a => (f a).map fun b => (enc b, M)
    | none => none
  | _ => none
def fn2 {α β γ : Type} [Enc α] [Enc β] [Enc γ] (f : α → β → Option γ) : Fn := fun ws M => match ws with
  | [x, y] => match (dec x : Option α), (dec y : Option β) with
    | some a, some b => (f a b).map fun c => (enc c, M)
    | _, _ => none
  | _ => none
def fn3 {α β γ δ : Type} [Enc α] [Enc β] [Enc γ] [Enc δ] (f : α → β → γ → Option δ) : Fn := fun ws M => match ws with
  | [x, y, z] => match (dec x : Option α), (dec y : Option β), (dec z : Option γ) with
    | some a, some b, some c => (f a b c).map fun d => (enc d, M)
    | _, _, _ => none
  | _ => none
theorem fn1_eq {α β : Type} [Enc α] [Enc β] (f : α → Option β) (a : α) (M : Mem) : fn1 f [enc a] M = (f a).map fun b => (enc b, M) := by
  unfold fn1; simp only [dec_enc]
theorem fn2_eq {α β γ : Type} [Enc α] [Enc β] [Enc γ] (f : α → β → Option γ) (a : α) (b : β) (M : Mem) : fn2 f [enc a, enc b] M = (f a b).map fun c => (enc c, M) := by
  unfold fn2; simp only [dec_enc]
theorem fn3_eq {α β γ δ : Type} [Enc α] [Enc β] [Enc γ] [Enc δ] (f : α → β → γ → Option δ) (a : α) (b : β) (c : γ) (M : Mem) : fn3 f [enc a, enc b, enc c] M = (f a b c).map fun d => (enc d, M) := by
  unfold fn3; simp only [dec_enc]
theorem keeps1 {α β : Type} [Enc α] [Enc β] {f : α → Option β} {n : Nat} {body : CS} (h : ∀ a b M, f a = some b → ∃ g, body (some (enc a) :: List.replicate (n - 1) none) M = some (.rt (enc b) (M ++ g))) : Keeps n body (fn1 f) := by
  refine KeepsP.keeps ?_
  intro ws M w M' hc hw e
  unfold fn1 at e
  split at e
  · split at e
    · rename_i x _ a ha
      obtain ⟨b, hb, e⟩ := Option.map_eq_some_iff.mp e
      cases e
      obtain ⟨g, hg⟩ := h a b M hb
      rw [enc_dec _ _ ha]
      exact ⟨g, .inl hg, Nat.le_refl _, hc, enc_closed b _⟩
    · cases e
  · cases e
theorem keeps2 {α β γ : Type} [Enc α] [Enc β] [Enc γ] {f : α → β → Option γ} {n : Nat} {body : CS}
    (h : ∀ a b c M, f a b = some c → ∃ g, body (some (enc a) :: some (enc b) :: List.replicate (n - 2) none) M = some (.rt (enc c) (M ++ g))) : Keeps n body (fn2 f) := by
  refine KeepsP.keeps ?_
  intro ws M w M' hc hw e
  unfold fn2 at e
  split at e
  · split at e
    · rename_i x y _ _ a b ha hb
      obtain ⟨c, hcc, e⟩ := Option.map_eq_some_iff.mp e
      cases e
      obtain ⟨g, hg⟩ := h a b c M hcc
      rw [enc_dec _ _ ha, enc_dec _ _ hb]
      exact ⟨g, .inl hg, Nat.le_refl _, hc, enc_closed c _⟩
    · cases e
  · cases e
theorem keeps3 {α β γ δ : Type} [Enc α] [Enc β] [Enc γ] [Enc δ] {f : α → β → γ → Option δ} {n : Nat} {body : CS}
    (h : ∀ a b c d M, f a b c = some d → ∃ g, body (some (enc a) :: some (enc b) :: some (enc c) :: List.replicate (n - 3) none) M = some (.rt (enc d) (M ++ g))) : Keeps n body (fn3 f) := by
  refine KeepsP.keeps ?_
  intro ws M w M' hc hw e
  unfold fn3 at e
  split at e
  · split at e
    · rename_i x y z _ _ _ a b c ha hb hcc
      obtain ⟨d, hd, e⟩ := Option.map_eq_some_iff.mp e
      cases e
      obtain ⟨g, hg⟩ := h a b c d M hd
      rw [enc_dec _ _ ha, enc_dec _ _ hb, enc_dec _ _ hcc]
      exact ⟨g, .inl hg, Nat.le_refl _, hc, enc_closed d _⟩
    · cases e
  · cases e

/-! ### items, slices, ranges in plain words -/
theorem ixW_nat {n j : Nat} (h : j < n) : ixW n (j : Int) = some j := by
  unfold ixW
  rw [if_pos (Int.natCast_nonneg j), if_pos (by omega)]
  simp
@[simp] theorem ixW_0 {n : Nat} : ixW (n + 1) 0 = some 0 := ixW_nat (j := 0) (by omega)
@[simp] theorem ixW_1 {n : Nat} : ixW (n + 2) 1 = some 1 := ixW_nat (j := 1) (by omega)
@[simp] theorem ixW_2 {n : Nat} : ixW (n + 3) 2 = some 2 := ixW_nat (j := 2) (by omega)
theorem sIx_nat (n d k : Nat) : sIx n d (some (k : Int)) = min k n := by
  unfold sIx
  simp only
  rw [if_neg (by omega)]
  simp
theorem cutW_lo {α : Type} (xs : List α) (k : Nat) : cutW xs (some (k : Int)) none = xs.drop k := by
  unfold cutW
  rw [sIx_nat]
  show (xs.drop (min k xs.length)).take (xs.length - min k xs.length) = _
  by_cases h : k ≤ xs.length
  · rw [Nat.min_eq_left h]
    exact List.take_of_length_le (by simp)
  · rw [Nat.min_eq_right (by omega), List.drop_length, List.drop_of_length_le (by omega)]
    simp
theorem cutW_hi {α : Type} (xs : List α) (k : Nat) : cutW xs none (some (k : Int)) = xs.take k := by
  unfold cutW
  rw [sIx_nat]
  show (xs.drop 0).take (min k xs.length - 0) = _
  rw [List.drop_zero, Nat.sub_zero]
  by_cases h : k ≤ xs.length
  · rw [Nat.min_eq_left h]
  · rw [Nat.min_eq_right (by omega), List.take_length, List.take_of_length_le (by omega)]
@[simp] theorem cutW_hi1 {α : Type} (xs : List α) (k : Nat) : cutW xs none (some ((k : Int) + 1)) = xs.take (k + 1) := cutW_hi xs (k + 1)
@[simp] theorem cutW_lo1 {α : Type} (xs : List α) (k : Nat) : cutW xs (some ((k : Int) + 1)) none = xs.drop (k + 1) := cutW_lo xs (k + 1)
@[simp] theorem cutW_hi0 {α : Type} (xs : List α) (k : Nat) : cutW xs none (some (k : Int)) = xs.take k := cutW_hi xs k
@[simp] theorem cutW_lo0 {α : Type} (xs : List α) (k : Nat) : cutW xs (some (k : Int)) none = xs.drop k := cutW_lo xs k
theorem cutW_map {α β : Type} (f : α → β) (xs : List α) (lo hi : Option Int) : cutW (xs.map f) lo hi = (cutW xs lo hi).map f := by
  unfold cutW
  simp [List.map_take, List.map_drop]
end BF

set_option Elab.async false
set_option linter.all false
set_option autoImplicit false
set_option maxRecDepth 10000
/-! Loops and comprehensions by an invariant; the tape. -/
namespace BF
open PySem Enc

theorem forL_ind {gd : Mem → Bool} {g : CG} {body : CS} (ws : List W) (P : Nat → Sl → Mem → Prop) {σ : Sl} {M : Mem} (h0 : P 0 σ M) (hg : ∀ i σ M, P i σ M → gd M = true)
    (step : ∀ i w σ M, ws[i]? = some w → P i σ M → ∃ σ1, g w σ = some σ1 ∧ ∃ σ2 M2, (body σ1 M = some (.nx σ2 M2) ∨ body σ1 M = some (.ct σ2 M2)) ∧ P (i + 1) σ2 M2) :
    ∃ σ' M', forL gd g body ws σ M = some (.nx σ' M') ∧ P ws.length σ' M' := by
  induction ws generalizing P σ M with
  | nil => exact ⟨σ, M, by rw [forL, if_pos (hg 0 σ M h0)], h0⟩
  | cons w ws ih =>
    obtain ⟨σ1, h1, σ2, M2, h2, h3⟩ := step 0 w σ M rfl h0
    obtain ⟨σ', M', e, p⟩ := ih (fun i => P (i + 1)) h3 (fun i => hg (i + 1)) fun i w' σ M hw hp => step (i + 1) w' σ M hw hp
    refine ⟨σ', M', ?_, p⟩
    rw [forL, if_pos (hg 0 σ M h0), h1]
    rcases h2 with h2 | h2
    · show (body σ1 M).bind _ = _
      rw [h2]; exact e
    · show (body σ1 M).bind _ = _
      rw [h2]; exact e
def contO (gd : Mem → Bool) (g : CG) (body : CS) (ws : List W) : Out → Option Out
  | .nx σ' M' => forL gd g body ws σ' M'
  | .ct σ' M' => forL gd g body ws σ' M'
  | .bk σ' M' => some (.nx σ' M')
  | .rt w M' => some (.rt w M')
theorem forL_cons {gd : Mem → Bool} {g : CG} {body : CS} {w : W} {ws : List W} {σ σ1 : Sl} {M : Mem} {o : Out} (h0 : gd M = true) (h1 : g w σ = some σ1) (h2 : body σ1 M = some o) : forL gd g body (w :: ws) σ M = contO gd g body ws o := by
  rw [forL, if_pos h0, h1]
  show (body σ1 M).bind _ = _
  rw [h2]
  cases o <;> rfl
theorem forL_nil {gd : Mem → Bool} {g : CG} {body : CS} {σ : Sl} {M : Mem} (h0 : gd M = true) : forL gd g body [] σ M = some (.nx σ M) := by rw [forL, if_pos h0]
/-- a loop whose turns may return -/
theorem forL_ret {gd : Mem → Bool} {g : CG} {body : CS} (ws : List W) (P : Nat → Sl → Mem → Prop) (R : W → Mem → Prop) {σ : Sl} {M : Mem} (h0 : P 0 σ M) (hg : ∀ i σ M, P i σ M → gd M = true)
    (step : ∀ i w σ M, ws[i]? = some w → P i σ M → ∃ σ1, g w σ = some σ1 ∧ ∃ o, body σ1 M = some o ∧ match o with
      | .nx σ2 M2 => P (i + 1) σ2 M2
      | .ct σ2 M2 => P (i + 1) σ2 M2
      | .bk _ _ => False
      | .rt v M2 => R v M2) :
    (∃ σ' M', forL gd g body ws σ M = some (.nx σ' M') ∧ P ws.length σ' M') ∨ ∃ v M', forL gd g body ws σ M = some (.rt v M') ∧ R v M' := by
  induction ws generalizing P σ M with
  | nil => exact .inl ⟨σ, M, by rw [forL, if_pos (hg 0 σ M h0)], h0⟩
  | cons w ws ih =>
    obtain ⟨σ1, h1, o, h2, h3⟩ := step 0 w σ M rfl h0
    rw [forL_cons (hg 0 σ M h0) h1 h2]
    cases o with
    | nx σ2 M2 => exact ih (fun i => P (i + 1)) h3 (fun i => hg (i + 1)) fun i w' σ M hw hp => step (i + 1) w' σ M hw hp
    | ct σ2 M2 => exact ih (fun i => P (i + 1)) h3 (fun i => hg (i + 1)) fun i w' σ M hw hp => step (i + 1) w' σ M hw hp
    | bk σ2 M2 => exact h3.elim
    | rt v M2 => exact .inr ⟨v, M2, rfl, h3⟩
theorem lcL_ind {gd : Mem → Bool} {g : CG} {t : CT} {e : CE} {vs : List Nat} {σ : Sl} {D : Nat} (ws : List W) (P : Nat → List W → Mem → Prop) {M : Mem} {acc0 : List W} (h0 : P 0 acc0 M) (hg : ∀ i acc M, P i acc M → gd M = true)
    (step : ∀ i w acc M, ws[i]? = some w → P i acc M → ∃ σ1, g w (wipe σ vs) = some σ1 ∧ ∃ b M1, t σ1 M = some (b, M1) ∧
      if b = true then ∃ x M2, e σ1 M1 = some (x, M2) ∧ M2[D]? = some (.lst acc) ∧ acc.length < 16777216 ∧ P (i + 1) (acc ++ [x]) (M2.set D (.lst (acc ++ [x]))) else P (i + 1) acc M1) :
    ∃ M' acc, lcL gd g t e vs σ D ws M = some M' ∧ P ws.length acc M' := by
  induction ws generalizing P M acc0 with
  | nil => exact ⟨M, acc0, by rw [lcL, if_pos (hg 0 acc0 M h0)], h0⟩
  | cons w ws ih =>
    obtain ⟨σ1, h1, b, M1, h2, h3⟩ := step 0 w acc0 M rfl h0
    have go : ∀ {M2 : Mem} {acc2 : List W}, P 1 acc2 M2 → ∃ M' acc, lcL gd g t e vs σ D ws M2 = some M' ∧ P (w :: ws).length acc M' := fun {M2 acc2} hp =>
      ih (fun i => P (i + 1)) hp (fun i => hg (i + 1)) fun i w' acc M hw hp => step (i + 1) w' acc M hw hp
    have e0 : lcL gd g t e vs σ D (w :: ws) M = (if b = true then
        (e σ1 M1).bind fun q => match q.2[D]? with
          | some (.lst acc) => if acc.length < 16777216 then lcL gd g t e vs σ D ws (q.2.set D (.lst (acc ++ [q.1]))) else none
          | _ => none
      else lcL gd g t e vs σ D ws M1) := by
      rw [lcL, if_pos (hg 0 acc0 M h0), h1]
      show (t σ1 M).bind _ = _
      rw [h2]; rfl
    rw [e0]
    split at h3
    · rename_i hb
      obtain ⟨x, M2, h4, h5, h6, h7⟩ := h3
      rw [if_pos hb, h4]
      show ∃ M' acc, (match M2[D]? with
        | some (.lst acc) => if acc.length < 16777216 then lcL gd g t e vs σ D ws (M2.set D (.lst (acc ++ [x]))) else none
        | _ => none) = some M' ∧ _
      rw [h5]
      simp only [if_pos h6]
      exact go h7
    · rename_i hb
      rw [if_neg hb]
      exact go h3
/-- items that change nothing: their values in a row -/
theorem lcL_pure {gd : Mem → Bool} {g : CG} {e : CE} {vs : List Nat} {σ : Sl} (ws : List W) (f : W → W) (M : Mem) (acc0 : List W) (hl : acc0.length + ws.length ≤ 16777216) (hg : ∀ l, gd (M ++ [.lst l]) = true)
    (h : ∀ w ∈ ws, ∀ l, ∃ σ1, g w (wipe σ vs) = some σ1 ∧ e σ1 (M ++ [.lst l]) = some (f w, M ++ [.lst l])) :
    lcL gd g tTrue e vs σ M.length ws (M ++ [.lst acc0]) = some (M ++ [.lst (acc0 ++ ws.map f)]) := by
  induction ws generalizing acc0 with
  | nil => rw [lcL, if_pos (hg _)]; simp
  | cons w ws ih =>
    obtain ⟨σ1, h1, h2⟩ := h w List.mem_cons_self acc0
    rw [lcL, if_pos (hg _), h1]
    simp only [List.length_cons] at hl
    simp only [Option.bind_some, tTrue_eq, if_true, h2]
    rw [show (M ++ [MO.lst acc0])[M.length]? = some (.lst acc0) by simp]
    simp only [if_pos (show acc0.length < 16777216 by omega)]
    rw [show (M ++ [MO.lst acc0]).set M.length (.lst (acc0 ++ [f w])) = M ++ [.lst (acc0 ++ [f w])] by simp]
    rw [ih (acc0 ++ [f w]) (by simp; omega) fun w' hw l => h w' (List.mem_cons_of_mem _ hw) l]
    simp
/-- .. with a test -/
theorem lcL_filter {gd : Mem → Bool} {g : CG} {t : CT} {e : CE} {vs : List Nat} {σ : Sl} (ws : List W) (f : W → W) (p : W → Bool) (M : Mem) (acc0 : List W) (hl : acc0.length + ws.length ≤ 16777216) (hg : ∀ l, gd (M ++ [.lst l]) = true)
    (h : ∀ w ∈ ws, ∀ l, ∃ σ1, g w (wipe σ vs) = some σ1 ∧ t σ1 (M ++ [.lst l]) = some (p w, M ++ [.lst l]) ∧ (p w = true → e σ1 (M ++ [.lst l]) = some (f w, M ++ [.lst l]))) :
    lcL gd g t e vs σ M.length ws (M ++ [.lst acc0]) = some (M ++ [.lst (acc0 ++ (ws.filter p).map f)]) := by
  induction ws generalizing acc0 with
  | nil => rw [lcL, if_pos (hg _)]; simp
  | cons w ws ih =>
    obtain ⟨σ1, h1, h2, h3⟩ := h w List.mem_cons_self acc0
    rw [lcL, if_pos (hg _), h1]
    simp only [List.length_cons] at hl
    simp only [Option.bind_some, h2]
    by_cases hp : p w = true
    · rw [if_pos hp, h3 hp]
      simp only [Option.bind_some]
      rw [show (M ++ [MO.lst acc0])[M.length]? = some (.lst acc0) by simp]
      simp only [if_pos (show acc0.length < 16777216 by omega)]
      rw [show (M ++ [MO.lst acc0]).set M.length (.lst (acc0 ++ [f w])) = M ++ [.lst (acc0 ++ [f w])] by simp]
      rw [ih (acc0 ++ [f w]) (by simp; omega) fun w' hw l => h w' (List.mem_cons_of_mem _ hw) l, List.filter_cons_of_pos hp]
      simp
    · rw [if_neg hp, ih acc0 (by omega) fun w' hw l => h w' (List.mem_cons_of_mem _ hw) l, List.filter_cons_of_neg hp]

/-! ### the tape -/
/-- the place and the rest of the tape -/
abbrev Dr := Int × Int
def mixT (cell i : Int) : Int :=
  let c := (cell + 1000003 * i) % 2305843009213693951
  let c := (c * c + 1181783497276652981 * c + 2049848353892358983) % 2305843009213693951
  (c * c + 1442695040888963407) % 2305843009213693951
def nextT (ns : List Int) (i : Int) : Int :=
  let cell := if 0 < ns.length then ns.getD (i % ns.length).toNat 0 else 0
  if (ns.length : Int) ≤ i ∨ cell < 10 ^ 18 then mixT cell i else cell
def drawD (ns : List Int) (many : Nat) (s : Dr) : Nat × Dr :=
  let s := if s.2 < many then (s.1 + 1, nextT ns s.1) else s
  ((s.2 % many).toNat, (s.1, s.2 / many))
theorem drawD_lt (ns : List Int) {many : Nat} (s : Dr) (h : 0 < many) : (drawD ns many s).1 < many := by
  unfold drawD
  simp only
  have h1 := Int.emod_nonneg (if s.2 < (many : Int) then (s.1 + 1, nextT ns s.1) else s).2 (show (many : Int) ≠ 0 by omega)
  have h2 := Int.emod_lt_of_pos (if s.2 < (many : Int) then (s.1 + 1, nextT ns s.1) else s).2 (show (0 : Int) < many by omega)
  omega
/-- the memory while a law runs: the script, its copy, the tape -/
def TM (ns : List Int) (s : Dr) (g : Mem) : Mem := .ro (ns.map W.int) :: .lst (ns.map W.int) :: .lst [.ref 1, .int s.1, .int s.2] :: g
/-- promises of defs that draw -/
def withTM {α : Type} (M : Mem) (f : List Int → Dr → Mem → Option α) : Option α := match M with
  | .ro us :: .lst vs :: .lst [.ref 1, .int i, .int c] :: g => match asInts us, asInts vs with
    | some ns, some ms => if ns = ms then f ns (i, c) g else none
    | _, _ => none
  | _ => none
theorem withTM_eq {α : Type} (ns : List Int) (s : Dr) (g : Mem) (f : List Int → Dr → Mem → Option α) : withTM (TM ns s g) f = f ns s g := by
  unfold withTM TM
  simp only [asInts_map, if_true]
theorem withTM_some {α : Type} {M : Mem} {f : List Int → Dr → Mem → Option α} {a : α} (h : withTM M f = some a) : ∃ ns s g, M = TM ns s g ∧ f ns s g = some a := by
  unfold withTM at h
  split at h
  · split at h
    · rename_i h1 h2
      split at h
      · rename_i e
        subst e
        exact ⟨_, _, _, by rw [asInts_some h1, asInts_some h2]; rfl, h⟩
      · cases h
    · cases h
  · cases h
def fnT1 {α β : Type} [Enc α] [Enc β] (f : α → List Int → Dr → Option (β × Dr)) : Fn := fun ws M => match ws with
  | [.ref 2, x] => match (dec x : Option α) with
    | some a => withTM M fun ns s g => (f a ns s).map fun p => (enc p.1, TM ns p.2 g)
    | none => none
  | _ => none
def fnT2 {α β γ : Type} [Enc α] [Enc β] [Enc γ] (f : α → β → List Int → Dr → Option (γ × Dr)) : Fn := fun ws M => match ws with
  | [.ref 2, x, y] => match (dec x : Option α), (dec y : Option β) with
    | some a, some b => withTM M fun ns s g => (f a b ns s).map fun p => (enc p.1, TM ns p.2 g)
    | _, _ => none
  | _ => none
def fnT3 {α β γ δ : Type} [Enc α] [Enc β] [Enc γ] [Enc δ] (f : α → β → γ → List Int → Dr → Option (δ × Dr)) : Fn := fun ws M => match ws with
  | [.ref 2, x, y, z] => match (dec x : Option α), (dec y : Option β), (dec z : Option γ) with
    | some a, some b, some c => withTM M fun ns s g => (f a b c ns s).map fun p => (enc p.1, TM ns p.2 g)
    | _, _, _ => none
  | _ => none
theorem fnT1_eq {α β : Type} [Enc α] [Enc β] (f : α → List Int → Dr → Option (β × Dr)) (a : α) (ns : List Int) (s : Dr) (g : Mem) : fnT1 f [.ref 2, enc a] (TM ns s g) = (f a ns s).map fun p => (enc p.1, TM ns p.2 g) := by
  unfold fnT1
  simp only [dec_enc, withTM_eq]
theorem fnT2_eq {α β γ : Type} [Enc α] [Enc β] [Enc γ] (f : α → β → List Int → Dr → Option (γ × Dr)) (a : α) (b : β) (ns : List Int) (s : Dr) (g : Mem) : fnT2 f [.ref 2, enc a, enc b] (TM ns s g) = (f a b ns s).map fun p => (enc p.1, TM ns p.2 g) := by
  unfold fnT2
  simp only [dec_enc, withTM_eq]
theorem fnT3_eq {α β γ δ : Type} [Enc α] [Enc β] [Enc γ] [Enc δ] (f : α → β → γ → List Int → Dr → Option (δ × Dr)) (a : α) (b : β) (c : γ) (ns : List Int) (s : Dr) (g : Mem) : fnT3 f [.ref 2, enc a, enc b, enc c] (TM ns s g) = (f a b c ns s).map fun p => (enc p.1, TM ns p.2 g) := by
  unfold fnT3
  simp only [dec_enc, withTM_eq]
theorem closeds_ints (ns : List Int) (k : Nat) : W.closeds k (ns.map W.int) = true := by
  induction ns with
  | nil => rfl
  | cons n ns ih => rw [List.map_cons, W.closeds, ih]; rfl
theorem closed_TM {ns : List Int} {s s' : Dr} {g : Mem} (h : Closed (TM ns s g)) : Closed (TM ns s' g) := by
  intro mo hm
  have hl : (TM ns s' g).length = (TM ns s g).length := rfl
  rw [hl]
  rcases List.mem_cons.mp hm with rfl | hm
  · exact closeds_ints ns _
  rcases List.mem_cons.mp hm with rfl | hm
  · exact closeds_ints ns _
  rcases List.mem_cons.mp hm with rfl | hm
  · show W.closeds _ [.ref 1, .int s'.1, .int s'.2] = true
    simp [W.closeds, W.closed, TM]
  · exact h mo (List.mem_cons_of_mem _ (List.mem_cons_of_mem _ (List.mem_cons_of_mem _ hm)))
@[simp high] theorem TM_get0 (ns : List Int) (s : Dr) (g : Mem) : (TM ns s g)[0]? = some (.ro (ns.map W.int)) := nr rfl
@[simp high] theorem TM_get1 (ns : List Int) (s : Dr) (g : Mem) : (TM ns s g)[1]? = some (.lst (ns.map W.int)) := nr rfl
@[simp high] theorem TM_get2 (ns : List Int) (s : Dr) (g : Mem) : (TM ns s g)[2]? = some (.lst [.ref 1, .int s.1, .int s.2]) := nr rfl
@[simp high] theorem TM_get3 (ns : List Int) (s : Dr) (g : Mem) (n : Nat) : (TM ns s g)[n + 3]? = g[n]? := nr rfl
@[simp] theorem TM_set3 (ns : List Int) (s : Dr) (g : Mem) (n : Nat) (x : MO) : (TM ns s g).set (n + 3) x = TM ns s (g.set n x) := nr rfl
@[simp] theorem TM_prefix (ns : List Int) (s : Dr) (g g' : Mem) : TM ns s g <+: TM ns s (g ++ g') := ⟨g', rfl⟩
@[simp] theorem TM_append (ns : List Int) (s : Dr) (g g' : Mem) : TM ns s g ++ g' = TM ns s (g ++ g') := nr rfl
@[simp] theorem TM_length (ns : List Int) (s : Dr) (g : Mem) : (TM ns s g).length = g.length + 3 := nr rfl
theorem keepsT1 {α β : Type} [Enc α] [Enc β] {f : α → List Int → Dr → Option (β × Dr)} {n : Nat} {body : CS}
    (h : ∀ a ns s g b s', f a ns s = some (b, s') → ∃ g', body (some (.ref 2) :: some (enc a) :: List.replicate (n - 2) none) (TM ns s g) = some (.rt (enc b) (TM ns s' (g ++ g')))) : Keeps n body (fnT1 f) := by
  refine KeepsP.keeps ?_
  intro ws M w M' hc hw e
  unfold fnT1 at e
  split at e
  · split at e
    · rename_i x _ a ha
      obtain ⟨ns, s, g, eM, e2⟩ := withTM_some e
      subst eM
      obtain ⟨⟨b, s'⟩, hb, e3⟩ := Option.map_eq_some_iff.mp e2
      cases e3
      obtain ⟨g', hg⟩ := h a ns s g b s' hb
      rw [enc_dec _ _ ha]
      exact ⟨g', .inl hg, Nat.le_refl _, closed_TM hc, enc_closed b _⟩
    · cases e
  · cases e
theorem keepsT2 {α β γ : Type} [Enc α] [Enc β] [Enc γ] {f : α → β → List Int → Dr → Option (γ × Dr)} {n : Nat} {body : CS}
    (h : ∀ a b ns s g c s', f a b ns s = some (c, s') → ∃ g', body (some (.ref 2) :: some (enc a) :: some (enc b) :: List.replicate (n - 3) none) (TM ns s g) = some (.rt (enc c) (TM ns s' (g ++ g')))) : Keeps n body (fnT2 f) := by
  refine KeepsP.keeps ?_
  intro ws M w M' hc hw e
  unfold fnT2 at e
  split at e
  · split at e
    · rename_i x y _ _ a b ha hb
      obtain ⟨ns, s, g, eM, e2⟩ := withTM_some e
      subst eM
      obtain ⟨⟨c, s'⟩, hcc, e3⟩ := Option.map_eq_some_iff.mp e2
      cases e3
      obtain ⟨g', hg⟩ := h a b ns s g c s' hcc
      rw [enc_dec _ _ ha, enc_dec _ _ hb]
      exact ⟨g', .inl hg, Nat.le_refl _, closed_TM hc, enc_closed c _⟩
    · cases e
  · cases e
theorem keepsT3 {α β γ δ : Type} [Enc α] [Enc β] [Enc γ] [Enc δ] {f : α → β → γ → List Int → Dr → Option (δ × Dr)} {n : Nat} {body : CS}
    (h : ∀ a b c ns s g d s', f a b c ns s = some (d, s') → ∃ g', body (some (.ref 2) :: some (enc a) :: some (enc b) :: some (enc c) :: List.replicate (n - 4) none) (TM ns s g) = some (.rt (enc d) (TM ns s' (g ++ g')))) : Keeps n body (fnT3 f) := by
  refine KeepsP.keeps ?_
  intro ws M w M' hc hw e
  unfold fnT3 at e
  split at e
  · split at e
    · rename_i x y z _ _ _ a b c ha hb hz
      obtain ⟨ns, s, g, eM, e2⟩ := withTM_some e
      subst eM
      obtain ⟨⟨d, s'⟩, hcc, e3⟩ := Option.map_eq_some_iff.mp e2
      cases e3
      obtain ⟨g', hg⟩ := h a b c ns s g d s' hcc
      rw [enc_dec _ _ ha, enc_dec _ _ hb, enc_dec _ _ hz]
      exact ⟨g', .inl hg, Nat.le_refl _, closed_TM hc, enc_closed d _⟩
    · cases e
  · cases e

/-! ### lists of encoded values -/
theorem toD_lst {α : Type} [Enc α] (M : Mem) (n : Nat) (as : List α) (h : M[n]? = some (.lst (as.map enc)) ∨ M[n]? = some (.ro (as.map enc))) (hd : dep α ≤ 63) : toD M 64 (.ref n) = some (.list (as.map fun a => dP (enc a))) := by
  have e : mapO (toD M 63) (as.map enc) = some (as.map fun a => dP (enc a)) := mapO_map (fun a => toD_P M 63 _ (okW_mono _ _ (ok a) 63 hd)) as
  rw [toD]
  rcases h with h | h
  · rw [h]; simp only [e]; rfl
  · rw [h]; simp only [e]; rfl
theorem eqvAll_map {α : Type} [Enc α] (hd : dep α ≤ 63) : ∀ as bs : List α, PyData.eqvAll (as.map fun a => dP (enc a)) (bs.map fun a => dP (enc a)) = true ↔ as = bs
  | [], [] => by simp [PyData.eqvAll]
  | [], _ :: _ => by simp [PyData.eqvAll]
  | _ :: _, [] => by simp [PyData.eqvAll]
  | a :: as, b :: bs => by
    rw [List.map_cons, List.map_cons, PyData.eqvAll, Bool.and_eq_true, eqvAll_map hd as bs, eqv_P 63 _ _ (okW_mono _ _ (ok a) 63 hd) (okW_mono _ _ (ok b) 63 hd), eqE]
    simp
theorem eqW_lst {α : Type} [Enc α] [DecidableEq α] (M : Mem) (n m : Nat) (as bs : List α) (h1 : M[n]? = some (.lst (as.map enc))) (h2 : M[m]? = some (.lst (bs.map enc))) (hd : dep α ≤ 63 := by decide) : eqW M (.ref n) (.ref m) = some (decide (as = bs)) := by
  unfold eqW
  rw [toD_lst M n as (.inl h1) hd, toD_lst M m bs (.inl h2) hd]
  show some (PyData.eqv (.list _) (.list _)) = some _
  congr 1
  simp only [PyData.eqv]
  rw [Bool.eq_iff_iff, eqvAll_map hd, decide_eq_true_eq]

/-! ### sequences: a list or a tuple -/
def seqW (M : Mem) : W → Option (Bool × List W)
  | .tup ws => some (false, ws)
  | .ref n => match M[n]? with
    | some (.lst ws) => some (true, ws)
    | some (.ro ws) => some (true, ws)
    | _ => none
  | _ => none
def isScal : W → Bool
  | .non | .bl _ | .int _ | .str _ => true
  | _ => false
def isBl : W → Bool
  | .bl _ => true
  | _ => false
section
variable {M : Mem} {x : W} {b : Bool} {ws : List W}
theorem seqW_cases (h : seqW M x = some (b, ws)) : (x = .tup ws ∧ b = false) ∨ ∃ n, x = .ref n ∧ b = true ∧ (M[n]? = some (.lst ws) ∨ M[n]? = some (.ro ws)) := by
  unfold seqW at h
  split at h
  · cases h; exact .inl ⟨rfl, rfl⟩
  · split at h
    · rename_i e; cases h; exact .inr ⟨_, rfl, rfl, .inl e⟩
    · rename_i e; cases h; exact .inr ⟨_, rfl, rfl, .inr e⟩
    · cases h
  · cases h
theorem get_app {g : Mem} {n : Nat} {mo : MO} (h : M[n]? = some mo) : (M ++ g)[n]? = some mo := by
  rw [List.getElem?_append_left (List.getElem?_eq_some_iff.mp h).1]; exact h
theorem seqW_app {g : Mem} (h : seqW M x = some (b, ws)) : seqW (M ++ g) x = some (b, ws) := by
  rcases seqW_cases h with ⟨rfl, rfl⟩ | ⟨n, rfl, rfl, h | h⟩
  · rfl
  · simp [seqW, get_app h]
  · simp [seqW, get_app h]
theorem isi2_seq (h : seqW M x = some (b, ws)) : gIsi2 "list" "tuple" M x = some (.bl true, M) := by
  rcases seqW_cases h with ⟨rfl, rfl⟩ | ⟨n, rfl, rfl, h | h⟩
  · rfl
  · simp [gIsi2, tyW, h, isTy]
  · simp [gIsi2, tyW, h, isTy]
theorem isiL_seq (h : seqW M x = some (b, ws)) : gIsi "list" M x = some (.bl b, M) := by
  rcases seqW_cases h with ⟨rfl, rfl⟩ | ⟨n, rfl, rfl, h | h⟩
  · rfl
  · simp [gIsi, tyW, h, isTy]
  · simp [gIsi, tyW, h, isTy]
theorem isiT_seq (h : seqW M x = some (b, ws)) : gIsi "tuple" M x = some (.bl (!b), M) := by
  rcases seqW_cases h with ⟨rfl, rfl⟩ | ⟨n, rfl, rfl, h | h⟩
  · rfl
  · simp [gIsi, tyW, h, isTy]
  · simp [gIsi, tyW, h, isTy]
theorem len_seq (h : seqW M x = some (b, ws)) : pLen [x] M = some (.int ws.length, M) := by
  rcases seqW_cases h with ⟨rfl, rfl⟩ | ⟨n, rfl, rfl, h | h⟩
  · rfl
  · simp [h]
  · simp [h]
theorem ix_seq' (h : seqW M x = some (b, ws)) {k : Nat} {w : W} (hk : ws[k]? = some w) : gIx M x (.int k) = some (w, M) := by
  have hlt : k < ws.length := (List.getElem?_eq_some_iff.mp hk).1
  rcases seqW_cases h with ⟨rfl, rfl⟩ | ⟨n, rfl, rfl, h | h⟩
  · simp [ixW_nat hlt, hk]
  · simp [h, ixW_nat hlt, hk]
  · simp [h, ixW_nat hlt, hk]
theorem isi2_scal (h : isScal x = true) : gIsi2 "list" "tuple" M x = some (.bl false, M) := by cases x <;> first | rfl | cases h
theorem isiL_scal (h : isScal x = true) : gIsi "list" M x = some (.bl false, M) := by cases x <;> first | rfl | cases h
theorem isiT_scal (h : isScal x = true) : gIsi "tuple" M x = some (.bl false, M) := by cases x <;> first | rfl | cases h
theorem isiB_scal (h : isScal x = true) : gIsi "bool" M x = some (.bl (isBl x), M) := by cases x <;> first | rfl | cases h
end
theorem mapO_at {α β : Type} {f : α → Option β} : ∀ {as : List α} {bs : List β}, mapO f as = some bs → bs.length = as.length ∧ ∀ (i : Nat) (a : α), as[i]? = some a → ∃ b, bs[i]? = some b ∧ f a = some b
  | [], bs, h => by cases h; exact ⟨rfl, fun i a h => by simp at h⟩
  | a :: as, bs, h => by
    rw [mapO] at h
    split at h
    · rename_i b bs' h1 h2
      cases h
      obtain ⟨l, e⟩ := mapO_at h2
      refine ⟨by simp [l], fun i a' hi => ?_⟩
      cases i with
      | zero => simp at hi; subst hi; exact ⟨b, rfl, h1⟩
      | succ i => simpa using e i a' (by simpa using hi)
    · cases h
theorem rangeW_mem {lo : Int} {n : Nat} {w : W} (h : w ∈ rangeW lo n) : ∃ i, i < n ∧ w = .int (lo + (i : Nat)) := by
  unfold rangeW at h
  obtain ⟨i, hi, rfl⟩ := List.mem_map.mp h
  exact ⟨i, List.mem_range.mp hi, rfl⟩

/-! ### promises of defs that hand back a new list -/
mutual
theorem W.closed_mono {k j : Nat} (h : k ≤ j) : ∀ w : W, w.closed k = true → w.closed j = true
  | .ref n, c => by rw [W.closed] at c ⊢; exact decide_eq_true (Nat.lt_of_lt_of_le (of_decide_eq_true c) h)
  | .tup ws, c => by rw [W.closed] at c ⊢; exact W.closeds_mono h ws c
  | .non, _ => rfl
  | .bl _, _ => rfl
  | .int _, _ => rfl
  | .str _, _ => rfl
theorem W.closeds_mono {k j : Nat} (h : k ≤ j) : ∀ ws : List W, W.closeds k ws = true → W.closeds j ws = true
  | [], _ => rfl
  | w :: ws, c => by
    rw [W.closeds, Bool.and_eq_true] at c ⊢
    exact ⟨W.closed_mono h w c.1, W.closeds_mono h ws c.2⟩
end
theorem closed_mono {k j : Nat} {mo : MO} (c : mo.closed k = true) (h : k ≤ j) : mo.closed j = true := by
  cases mo with
  | lst ws => exact W.closeds_mono h ws c
  | ro ws => exact W.closeds_mono h ws c
  | dT m kvs =>
    rw [MO.closed, List.all_eq_true] at c ⊢
    intro p hp
    have := c p hp
    rw [Bool.and_eq_true] at this ⊢
    exact ⟨W.closed_mono h _ this.1, W.closed_mono h _ this.2⟩
  | dK kvs =>
    rw [MO.closed, List.all_eq_true] at c ⊢
    intro p hp
    have := c p hp
    rw [Bool.and_eq_true] at this ⊢
    exact ⟨W.closed_mono h _ this.1, W.closed_mono h _ this.2⟩
theorem closeds_enc {γ : Type} [Enc γ] (cs : List γ) (k : Nat) : W.closeds k (cs.map enc) = true := by
  induction cs with
  | nil => rfl
  | cons c cs ih => rw [List.map_cons, W.closeds, enc_closed, ih]; rfl
theorem closed_app {M g : Mem} (h : Closed M) (hg : ∀ mo ∈ g, mo.closed (M ++ g).length = true) : Closed (M ++ g) := by
  intro mo hm
  rcases List.mem_append.mp hm with hm | hm
  · exact closed_mono (h mo hm) (by simp)
  · exact hg mo hm
/-- the new list stands at n among what the body has laid -/
theorem keeps_new {γ : Type} [Enc γ] {n : Nat} {body : CS} {F : Fn} (h : ∀ ws M w M', F ws M = some (w, M') → ∃ cs : List γ, w = .ref M.length ∧ M' = M ++ [.lst (cs.map enc)] ∧
    ∃ k g, body (ws.map some ++ List.replicate (n - ws.length) none) M = some (.rt (.ref k) (M ++ g)) ∧ M.length ≤ k ∧ (M ++ g)[k]? = some (.lst (cs.map enc))) : Keeps n body F := by
  intro ws M w M' hc _ e
  obtain ⟨cs, rfl, rfl, k, g, h1, h2, h3⟩ := h ws M w M' e
  have hid : ∀ i < M.length, (fun i => if i < M.length then i else k) i = i := fun i hi => if_pos hi
  refine ⟨fun i => if i < M.length then i else k, M ++ g, .inl ?_, hid, fun i mo hi => ?_, fun i j hi hj e => ?_, by simp, ?_, ?_⟩
  · rw [W.ren, if_neg (Nat.lt_irrefl _)]; exact h1
  · by_cases hl : i < M.length
    · rw [List.getElem?_append_left hl] at hi
      rw [MO.ren_eq hid (hc mo (List.mem_of_getElem? hi))]
      show (M ++ g)[if i < M.length then i else k]? = _
      rw [if_pos hl, List.getElem?_append_left hl]; exact hi
    · have e0 : i = M.length := by
        have := (List.getElem?_eq_some_iff.mp hi).1
        simp at this; omega
      subst e0
      simp at hi
      subst hi
      show (M ++ g)[if M.length < M.length then M.length else k]? = _
      rw [if_neg (Nat.lt_irrefl _), MO.ren_eq hid (mo := .lst (cs.map enc)) (closeds_enc cs _)]
      exact h3
  · simp only at e
    simp at hi hj
    split at e <;> split at e <;> omega
  · exact closed_app hc fun mo hm => by
      rw [List.mem_singleton] at hm
      subst hm
      exact closeds_enc cs _
  · rw [W.closed]; simp
def fnL1 {α γ : Type} [Enc α] [Enc γ] (f : α → Option (List γ)) : Fn := fun ws M => match ws with
  | [x] => match (dec x : Option α) with
    | some a => (f a).map fun c => (.ref M.length, M ++ [.lst (c.map enc)])
    | none => none
  | _ => none
def fnL2 {α β γ : Type} [Enc α] [Enc β] [Enc γ] (f : α → β → Option (List γ)) : Fn := fun ws M => match ws with
  | [x, y] => match (dec x : Option α), (dec y : Option β) with
    | some a, some b => (f a b).map fun c => (.ref M.length, M ++ [.lst (c.map enc)])
    | _, _ => none
  | _ => none
def fnL3 {α β δ γ : Type} [Enc α] [Enc β] [Enc δ] [Enc γ] (f : α → β → δ → Option (List γ)) : Fn := fun ws M => match ws with
  | [x, y, z] => match (dec x : Option α), (dec y : Option β), (dec z : Option δ) with
    | some a, some b, some d => (f a b d).map fun c => (.ref M.length, M ++ [.lst (c.map enc)])
    | _, _, _ => none
  | _ => none
theorem fnL1_eq {α γ : Type} [Enc α] [Enc γ] (f : α → Option (List γ)) (a : α) (M : Mem) : fnL1 f [enc a] M = (f a).map fun c => (.ref M.length, M ++ [.lst (c.map enc)]) := by
  unfold fnL1; simp only [dec_enc]
theorem fnL2_eq {α β γ : Type} [Enc α] [Enc β] [Enc γ] (f : α → β → Option (List γ)) (a : α) (b : β) (M : Mem) : fnL2 f [enc a, enc b] M = (f a b).map fun c => (.ref M.length, M ++ [.lst (c.map enc)]) := by
  unfold fnL2; simp only [dec_enc]
theorem fnL3_eq {α β δ γ : Type} [Enc α] [Enc β] [Enc δ] [Enc γ] (f : α → β → δ → Option (List γ)) (a : α) (b : β) (d : δ) (M : Mem) : fnL3 f [enc a, enc b, enc d] M = (f a b d).map fun c => (.ref M.length, M ++ [.lst (c.map enc)]) := by
  unfold fnL3; simp only [dec_enc]
theorem keepsL1 {α γ : Type} [Enc α] [Enc γ] {f : α → Option (List γ)} {n : Nat} {body : CS}
    (h : ∀ a cs M, f a = some cs → ∃ k g, body (some (enc a) :: List.replicate (n - 1) none) M = some (.rt (.ref k) (M ++ g)) ∧ M.length ≤ k ∧ (M ++ g)[k]? = some (.lst (cs.map enc))) : Keeps n body (fnL1 f) := by
  refine keeps_new (γ := γ) fun ws M w M' e => ?_
  unfold fnL1 at e
  split at e
  · split at e
    · rename_i x _ a ha
      obtain ⟨c, hcc, e2⟩ := Option.map_eq_some_iff.mp e
      cases e2
      rw [enc_dec _ _ ha]
      exact ⟨c, rfl, rfl, h a c M hcc⟩
    · cases e
  · cases e
theorem keepsL2 {α β γ : Type} [Enc α] [Enc β] [Enc γ] {f : α → β → Option (List γ)} {n : Nat} {body : CS}
    (h : ∀ a b cs M, f a b = some cs → ∃ k g, body (some (enc a) :: some (enc b) :: List.replicate (n - 2) none) M = some (.rt (.ref k) (M ++ g)) ∧ M.length ≤ k ∧ (M ++ g)[k]? = some (.lst (cs.map enc))) : Keeps n body (fnL2 f) := by
  refine keeps_new (γ := γ) fun ws M w M' e => ?_
  unfold fnL2 at e
  split at e
  · split at e
    · rename_i x y _ _ a b ha hb
      obtain ⟨c, hcc, e2⟩ := Option.map_eq_some_iff.mp e
      cases e2
      rw [enc_dec _ _ ha, enc_dec _ _ hb]
      exact ⟨c, rfl, rfl, h a b c M hcc⟩
    · cases e
  · cases e
theorem keepsL3 {α β δ γ : Type} [Enc α] [Enc β] [Enc δ] [Enc γ] {f : α → β → δ → Option (List γ)} {n : Nat} {body : CS}
    (h : ∀ a b d cs M, f a b d = some cs → ∃ k g, body (some (enc a) :: some (enc b) :: some (enc d) :: List.replicate (n - 3) none) M = some (.rt (.ref k) (M ++ g)) ∧ M.length ≤ k ∧ (M ++ g)[k]? = some (.lst (cs.map enc))) : Keeps n body (fnL3 f) := by
  refine keeps_new (γ := γ) fun ws M w M' e => ?_
  unfold fnL3 at e
  split at e
  · split at e
    · rename_i x y z _ _ _ a b d ha hb hd
      obtain ⟨c, hcc, e2⟩ := Option.map_eq_some_iff.mp e
      cases e2
      rw [enc_dec _ _ ha, enc_dec _ _ hb, enc_dec _ _ hd]
      exact ⟨c, rfl, rfl, h a b d c M hcc⟩
    · cases e
  · cases e

/-! ### .. with what was laid left open -/
theorem keeps1p {α β : Type} [Enc α] [Enc β] {f : α → Option β} {n : Nat} {body : CS} (h : ∀ a b M, f a = some b → ∃ M2, body (some (enc a) :: List.replicate (n - 1) none) M = some (.rt (enc b) M2) ∧ M <+: M2) : Keeps n body (fn1 f) :=
  keeps1 fun a b M e => by
    obtain ⟨M2, h1, g, rfl⟩ := h a b M e
    exact ⟨g, h1⟩
theorem keeps2p {α β γ : Type} [Enc α] [Enc β] [Enc γ] {f : α → β → Option γ} {n : Nat} {body : CS}
    (h : ∀ a b c M, f a b = some c → ∃ M2, body (some (enc a) :: some (enc b) :: List.replicate (n - 2) none) M = some (.rt (enc c) M2) ∧ M <+: M2) : Keeps n body (fn2 f) :=
  keeps2 fun a b c M e => by
    obtain ⟨M2, h1, g, rfl⟩ := h a b c M e
    exact ⟨g, h1⟩
theorem keeps3p {α β γ δ : Type} [Enc α] [Enc β] [Enc γ] [Enc δ] {f : α → β → γ → Option δ} {n : Nat} {body : CS}
    (h : ∀ a b c d M, f a b c = some d → ∃ M2, body (some (enc a) :: some (enc b) :: some (enc c) :: List.replicate (n - 3) none) M = some (.rt (enc d) M2) ∧ M <+: M2) : Keeps n body (fn3 f) :=
  keeps3 fun a b c d M e => by
    obtain ⟨M2, h1, g, rfl⟩ := h a b c d M e
    exact ⟨g, h1⟩
theorem TM_pre {ns : List Int} {s : Dr} {g M2 : Mem} (h : TM ns s g <+: M2) : ∃ g', M2 = TM ns s (g ++ g') := by
  obtain ⟨g', rfl⟩ := h
  exact ⟨g', rfl⟩
theorem keepsT1p {α β : Type} [Enc α] [Enc β] {f : α → List Int → Dr → Option (β × Dr)} {n : Nat} {body : CS}
    (h : ∀ a ns s g b s', f a ns s = some (b, s') → ∃ M2, body (some (.ref 2) :: some (enc a) :: List.replicate (n - 2) none) (TM ns s g) = some (.rt (enc b) M2) ∧ TM ns s' g <+: M2) : Keeps n body (fnT1 f) :=
  keepsT1 fun a ns s g b s' e => by
    obtain ⟨M2, h1, h2⟩ := h a ns s g b s' e
    obtain ⟨g', rfl⟩ := TM_pre h2
    exact ⟨g', h1⟩
theorem keepsT2p {α β γ : Type} [Enc α] [Enc β] [Enc γ] {f : α → β → List Int → Dr → Option (γ × Dr)} {n : Nat} {body : CS}
    (h : ∀ a b ns s g c s', f a b ns s = some (c, s') → ∃ M2, body (some (.ref 2) :: some (enc a) :: some (enc b) :: List.replicate (n - 3) none) (TM ns s g) = some (.rt (enc c) M2) ∧ TM ns s' g <+: M2) : Keeps n body (fnT2 f) :=
  keepsT2 fun a b ns s g c s' e => by
    obtain ⟨M2, h1, h2⟩ := h a b ns s g c s' e
    obtain ⟨g', rfl⟩ := TM_pre h2
    exact ⟨g', h1⟩
theorem keepsT3p {α β γ δ : Type} [Enc α] [Enc β] [Enc γ] [Enc δ] {f : α → β → γ → List Int → Dr → Option (δ × Dr)} {n : Nat} {body : CS}
    (h : ∀ a b c ns s g d s', f a b c ns s = some (d, s') → ∃ M2, body (some (.ref 2) :: some (enc a) :: some (enc b) :: some (enc c) :: List.replicate (n - 4) none) (TM ns s g) = some (.rt (enc d) M2) ∧ TM ns s' g <+: M2) : Keeps n body (fnT3 f) :=
  keepsT3 fun a b c ns s g d s' e => by
    obtain ⟨M2, h1, h2⟩ := h a b c ns s g d s' e
    obtain ⟨g', rfl⟩ := TM_pre h2
    exact ⟨g', h1⟩
end BF

set_option Elab.async false
set_option linter.all false
set_option autoImplicit false
set_option maxRecDepth 10000
/-! Defs that stand at the top of the text. -/
namespace BF
open PySem PySem.Spec
open PyProof.Rows L2
/-- this def stands under this name -/
def DefAt (K : PySem.W.Frag) (mg : Str → Option Value) (x : Str) (st : Stmt) : Prop := ∃ f fd, Fun K x x st f fd ∧ mg x = some (.ref f)
/-- .. and keeps this promise -/
def Known (P : Program) (w : World) (K : PySem.W.Frag) (mg : Str → Option Value) (base : Heap) (k : Nat) (x : Str) (ps : List Str) (F : Fn) : Prop :=
  ∃ f fd, FnOk P w K mg base CX0 k f fd ps (spF ⟨K, w⟩ ps.length F) ∧ mg x = some (.ref f) ∧ PySem.W.keepIn K (.ref f) = true ∧ Binds K fd ps []
/-- what binding one's arguments by place gives -/
abbrev BindsAll (x : Str) (st : Stmt) (ps : List Str) : Prop := ∀ (kV doc pm : Value) (an : Option Addr) (cdv ct : Value) (us : List Value), us.length = ps.length → bindArgs (PySem.W.fnOf x x (defArgs st) (defBody st) (defScope st) .none kV doc pm an cdv ct) ⟨us, []⟩ = pure (ps.zip us)
section
variable {P : Program} {w : World} {K : PySem.W.Frag} {mg : Str → Option Value} {base : Heap} {x : Str} {st : Stmt} {N ps : List Str} {k : Nat} {body : CS} {G : Fn}
theorem known (D : DefAt K mg x st) (S : FnScope N ps (defScope st)) (hb : BindsAll x st ps) (hk : Keeps N.length body G)
    (der : ∀ (f : Addr) (cdv : Value) (A : Around) (outer : List Env) (s : Shared) (H : Hp) (E : XK), Room k (A.deeper (envOfC x (defScope st) s.heap.objs.size f cdv)) →
      ESs (cxOf CX0 P w K mg base N x (defScope st) f cdv A outer s H E).nox (defBody st) body) : Known P w K mg base (k + 1) x ps G := by
  obtain ⟨f, fd, F, g⟩ := D
  exact ⟨f, fd, fn_ok F S hk (der f), g, F.kp, F.binds hb⟩
/-- a promise of nothing -/
theorem known0 (D : DefAt K mg x st) (S : FnScope N ps (defScope st)) (hb : BindsAll x st ps) (hG : ∀ ws M, G ws M = none) : Known P w K mg base (k + 1) x ps G := by
  obtain ⟨f, fd, F, g⟩ := D
  refine ⟨f, fd, F.ok S (fun vs H Q E h => h.1) (fun cdv A outer s H vs Q E hr h => ?_), g, F.kp, F.binds hb⟩
  obtain ⟨_, _, _, _, _, _, _, _, e, _⟩ := h
  rw [hG] at e
  cases e
theorem defAt {h : Heap} {f : Addr} {oc : Value} {od an : Option Addr} {osl : Array (Option Value)} {kV doc pm cdv ct : Value} (X : K.In h) (G : h.Ns mainGlobals mg)
    (a : PySem.W.nsIn K mainGlobals x = some (some (.ref f))) (l : K.lookup f = some ⟨oc, od, .func (PySem.W.fnOf x x (defArgs st) (defBody st) (defScope st) .none kV doc pm an cdv ct), osl⟩)
    (c : PySem.W.codeIn K cdv x = true) (k : PySem.W.keepIn K (.ref f) = true) : DefAt K mg x st := ⟨_, _, fun_mk l c k, PySem.W.mg_of X G a⟩
end
section
variable {X : Cx} {x : Str} {p pos : Pos} {e : Expr} {es : List Expr} {cs : List CE}
theorem r_callK {F : Fn} {k : Nat} {ps : List Str} (G : Known X.prog X.w X.K X.mg X.base k x ps F) (hr : Room k X.A) (hg : Gl X x)
    (ha : EA X (e :: es) cs) (hn : cs.length = ps.length := by rfl) (hdb : (x == ("__debug__" : Str)) = false := by decide) (he : starEach (e :: es) X.env = (false, eval e X.env) :: starEach es X.env := by rfl) (hpl : (backTo pos (starEach es X.env)).any (·.1) = false := by rfl) :
    EV X (.Call (.Name x p) (e :: es) [] pos) (eN F cs) := by
  obtain ⟨f, fd, G, hm, hk, hb⟩ := G
  exact r_call G hr hg hm hk hb ha hn hdb he hpl
end
/-- the head's part of a law -/
theorem law_head {l : PySem.W.OpenLaw} {w : World} {K : PySem.W.Frag} {h : Heap} {mg : Str → Option Value} {fa f : Addr} {k : Nat} {st : Stmt} {oc : Value} {od an : Option Addr} {osl : Array (Option Value)} {kV doc pm cdv ct : Value} (X : K.In h) (G : h.Ns mainGlobals mg) (hfa : mg "law" = some (.ref fa))
    (a : PySem.W.nsIn K mainGlobals "law" = some (some (.ref f))) (lk : K.lookup f = some ⟨oc, od, .func (PySem.W.fnOf "law" "law" (defArgs st) (defBody st) (defScope st) .none kV doc pm an cdv ct), osl⟩) (c : PySem.W.codeIn K cdv "law" = true) (kp : PySem.W.keepIn K (.ref f) = true)
    (hb : BindsAll "law" st ["script"]) (ok : ∀ (base : Heap) (fd : FuncData), Fun K "law" "law" st fa fd → FnOk l.prog w K mg base CX0 k fa fd ["script"] (spF ⟨K, w⟩ (["script"] : List Str).length lawF)) :
    ∃ fd : FuncData, (∀ (s : Shared) (v : Value), BindsTo s fd ⟨[v], []⟩ [("script", v)]) ∧ ∀ base : Heap, K.In base → base.Ns mainGlobals mg → FnOk l.prog w K mg base CX0 k fa fd ["script"] (spLaw K) := by
  have e := hfa.symm.trans (PySem.W.mg_of X G a)
  cases e
  exact ⟨PySem.W.fnOf "law" "law" (defArgs st) (defBody st) (defScope st) .none kV doc pm an cdv ct, fun s v => .of_eq (hb kV doc pm an cdv ct [v] rfl), fun base _ _ => law_ok rfl (ok base _ (fun_mk lk c kp))⟩
end BF

set_option Elab.async false
set_option linter.all false
set_option autoImplicit false
set_option maxRecDepth 10000
/-! More operations. -/
namespace BF
open PySem PySem.Spec
open PyProof.Rows L2
/-- x += y of ints -/
def gAdd1 (M : Mem) (x y : W) : Option (W × Mem) := match x, y with
  | .int i, .int j => some (.int (i + j), M)
  | _, _ => none
@[simp] theorem gAdd1_int {M : Mem} (i j : Int) : gAdd1 M (.int i) (.int j) = some (.int (i + j), M) := nr rfl
/-- the least of ints -/
def minI : Int → List Int → Int
  | m, [] => m
  | m, x :: xs => minI (if x < m then x else m) xs
theorem minI_spec : ∀ (xs : List Int) (m : Int), minI m xs ∈ m :: xs ∧ ∀ y ∈ m :: xs, minI m xs ≤ y
  | [], m => ⟨List.mem_cons_self, fun y hy => by
      rcases List.mem_cons.mp hy with rfl | h
      · exact Int.le_refl _
      · cases h⟩
  | x :: xs, m => by
    obtain ⟨h1, h2⟩ := minI_spec xs (if x < m then x else m)
    rw [minI]
    refine ⟨?_, fun y hy => ?_⟩
    · rcases List.mem_cons.mp h1 with h | h
      · rw [h]; split
        · exact List.mem_cons_of_mem _ List.mem_cons_self
        · exact List.mem_cons_self
      · exact List.mem_cons_of_mem _ (List.mem_cons_of_mem _ h)
    · have h0 := h2 _ List.mem_cons_self
      rcases List.mem_cons.mp hy with rfl | hy
      · refine Int.le_trans h0 ?_
        split <;> omega
      rcases List.mem_cons.mp hy with rfl | hy
      · refine Int.le_trans h0 ?_
        split <;> omega
      · exact h2 y (List.mem_cons_of_mem _ hy)
theorem minI_eq {m x : Int} {xs : List Int} (h1 : m ∈ x :: xs) (h2 : ∀ y ∈ x :: xs, m ≤ y) : minI x xs = m := by
  obtain ⟨h3, h4⟩ := minI_spec xs x
  have := h2 _ h3
  have := h4 _ h1
  omega
/-- the ints of a list or a tuple -/
def intsAt (M : Mem) : W → Option (List Int)
  | .ref n => match M[n]? with
    | some (.lst ws) => asInts ws
    | some (.ro ws) => asInts ws
    | _ => none
  | _ => none
def pMinL : Fn := fun ws M => match ws with
  | [w] => match intsAt M w with
    | some (m :: ms) => some (.int (minI m ms), M)
    | _ => none
  | _ => none
@[simp] theorem pMinL_eq {M : Mem} (w : W) : pMinL [w] M = match intsAt M w with
    | some (m :: ms) => some (.int (minI m ms), M)
    | _ => none := nr rfl
@[simp] theorem intsAt_eq {M : Mem} (n : Nat) : intsAt M (.ref n) = match M[n]? with
    | some (.lst ws) => asInts ws
    | some (.ro ws) => asInts ws
    | _ => none := nr rfl
def pSum : Fn := fun ws M => match ws with
  | [w] => match intsAt M w with
    | some ms => some (.int ms.sum, M)
    | _ => none
  | _ => none
@[simp] theorem pSum_eq {M : Mem} (w : W) : pSum [w] M = match intsAt M w with
    | some ms => some (.int ms.sum, M)
    | _ => none := nr rfl
@[simp high] theorem pMin_nat {M : Mem} (i j : Nat) : pMin [.int i, .int j] M = some (.int ((min i j : Nat) : Int), M) := by
  rw [pMin_eq]
  congr 3
  split <;> omega
@[simp high] theorem pMax_nat {M : Mem} (i j : Nat) : pMax [.int i, .int j] M = some (.int ((max i j : Nat) : Int), M) := by
  unfold pMax
  simp only
  congr 3
  split <;> omega
@[simp] theorem gLt_nat {M : Mem} (i j : Nat) : gLt M (.int i) (.int j) = some (.bl (decide (i < j)), M) := by
  show some (W.bl (decide ((i : Int) < j)), M) = _
  congr 3
  exact decide_eq_decide.mpr (by omega)
instance : Enc (Option Int) where
  enc o := match o with
    | none => .non
    | some i => .int i
  dec w := match w with
    | .non => some none
    | .int i => some (some i)
    | _ => none
  dec_enc a := by cases a <;> rfl
  enc_dec w a h := by
    split at h
    · cases h; rfl
    · cases h; rfl
    · cases h
  dep := 1
  ok a := by cases a <;> rfl
  eqE a b := by cases a <;> cases b <;> simp [eqP]
@[simp] theorem enc_on : (Enc.enc (none : Option Int) : W) = .non := rfl
@[simp] theorem enc_os (i : Int) : (Enc.enc (some i : Option Int) : W) = .int i := rfl
theorem map_encS (l : List Str) : l.map (Enc.enc : Str → W) = l.map W.str := rfl
@[simp] theorem eqW_strs (M : Mem) (a b : List Str) : eqW M (.tup (a.map W.str)) (.tup (b.map W.str)) = some (decide (a = b)) := eqW_enc (α := List Str) M a b
@[simp] theorem eqW_hist (M : Mem) (a b : List Str) (i j : Nat) : eqW M (.tup [.tup (a.map W.str), .int i]) (.tup [.tup (b.map W.str), .int j]) = some (decide (a = b ∧ i = j)) := by
  have := eqW_enc (α := Hist) M ⟨a, i⟩ ⟨b, j⟩
  rw [show decide (a = b ∧ i = j) = decide ((⟨a, i⟩ : Hist) = ⟨b, j⟩) from decide_eq_decide.mpr (by simp)]
  exact this
theorem map_encI (l : List Int) : l.map (Enc.enc : Int → W) = l.map W.int := rfl
@[simp] theorem small62s : small62 0 = true ∧ small62 1 = true ∧ small62 2 = true ∧ small62 3 = true ∧ small62 4 = true ∧ small62 5 = true ∧ small62 6 = true ∧ small62 7 = true ∧ small62 8 = true ∧ small62 9 = true ∧ small62 10 = true ∧ small62 11 = true ∧ small62 12 = true ∧ small62 13 = true ∧ small62 14 = true ∧ small62 15 = true ∧ small62 16 = true ∧ small62 17 = true ∧ small62 18 = true ∧ small62 19 = true ∧ small62 20 = true ∧ small62 21 = true ∧ small62 22 = true ∧ small62 23 = true ∧ small62 24 = true ∧ small62 25 = true ∧ small62 26 = true ∧ small62 27 = true ∧ small62 28 = true ∧ small62 29 = true ∧ small62 30 = true ∧ small62 31 = true ∧ small62 32 = true ∧ small62 33 = true ∧ small62 34 = true ∧ small62 35 = true ∧ small62 36 = true ∧ small62 37 = true ∧ small62 38 = true ∧ small62 39 = true ∧ small62 40 = true ∧ small62 41 = true ∧ small62 42 = true ∧ small62 43 = true ∧ small62 44 = true ∧ small62 45 = true ∧ small62 46 = true ∧ small62 47 = true ∧ small62 48 = true ∧ small62 49 = true ∧ small62 50 = true ∧ small62 51 = true ∧ small62 52 = true ∧ small62 53 = true ∧ small62 54 = true ∧ small62 55 = true ∧ small62 56 = true ∧ small62 57 = true ∧ small62 58 = true ∧ small62 59 = true ∧ small62 60 = true ∧ small62 61 = true ∧ small62 62 = true ∧ small62 63 = true ∧ small62 64 = true := by
  refine ⟨?_, ?_, ?_, ?_, ?_, ?_, ?_, ?_, ?_, ?_, ?_, ?_, ?_, ?_, ?_, ?_, ?_, ?_, ?_, ?_, ?_, ?_, ?_, ?_, ?_, ?_, ?_, ?_, ?_, ?_, ?_, ?_, ?_, ?_, ?_, ?_, ?_, ?_, ?_, ?_, ?_, ?_, ?_, ?_, ?_, ?_, ?_, ?_, ?_, ?_, ?_, ?_, ?_, ?_, ?_, ?_, ?_, ?_, ?_, ?_, ?_, ?_, ?_, ?_, ?_⟩ <;> rfl
@[simp] theorem small64s : small64 0 = true ∧ small64 1 = true ∧ small64 2 = true ∧ small64 3 = true ∧ small64 4 = true ∧ small64 5 = true ∧ small64 6 = true ∧ small64 7 = true ∧ small64 8 = true ∧ small64 9 = true ∧ small64 10 = true ∧ small64 11 = true ∧ small64 12 = true ∧ small64 13 = true ∧ small64 14 = true ∧ small64 15 = true ∧ small64 16 = true ∧ small64 17 = true ∧ small64 18 = true ∧ small64 19 = true ∧ small64 20 = true ∧ small64 21 = true ∧ small64 22 = true ∧ small64 23 = true ∧ small64 24 = true ∧ small64 25 = true ∧ small64 26 = true ∧ small64 27 = true ∧ small64 28 = true ∧ small64 29 = true ∧ small64 30 = true ∧ small64 31 = true ∧ small64 32 = true := by
  refine ⟨?_, ?_, ?_, ?_, ?_, ?_, ?_, ?_, ?_, ?_, ?_, ?_, ?_, ?_, ?_, ?_, ?_, ?_, ?_, ?_, ?_, ?_, ?_, ?_, ?_, ?_, ?_, ?_, ?_, ?_, ?_, ?_, ?_⟩ <;> rfl
@[simp] theorem ite_sub_nat (a b : Nat) : (if b < a then (a : Int) - b else 0) = ((a - b : Nat) : Int) := by split <;> omega
@[simp high] theorem pMax_sub {M : Mem} (m a b : Nat) : pMax [.int m, .int ((a : Int) - b)] M = some (.int ((max m (a - b) : Nat) : Int), M) := by
  unfold pMax
  simp only
  congr 3
  split <;> omega
/-- a while loop, turn by turn -/
theorem whileL_on {t : CT} {body : CS} {n : Nat} {σ σ' : Sl} {M M1 M' : Mem} (h1 : t σ M = some (true, M1)) (h2 : body σ M1 = some (.nx σ' M')) : whileL t body (n + 1) σ M = whileL t body n σ' M' := by
  rw [whileL, h1]
  simp only [Option.bind_some, if_true, h2]
theorem whileL_off {t : CT} {body : CS} {n : Nat} {σ : Sl} {M M1 : Mem} (h1 : t σ M = some (false, M1)) : whileL t body (n + 1) σ M = some (.nx σ M1) := by
  rw [whileL, h1]
  rfl
section
variable {K : KW}
theorem l_iadd : Lift2 K (rI0 fun i j => .int (i + j)) gAdd1 := lift_int0 (f' := fun i j => .int (i + j)) (fun M x y p h => by
  unfold gAdd1 at h; split at h
  · cases h; exact ⟨_, _, rfl, rfl, rfl⟩
  · cases h) fun _ _ _ _ => .int _
theorem rds_asInts {H : Hp} {loc : List Addr} : ∀ {ns : List Int} {xs : List V}, Rds K H loc xs (ns.map W.int) → xs = ns.map V.int
  | [], [], _ => rfl
  | n :: ns, x :: xs, r => by
    cases r with
    | cons h t =>
      cases h
      rw [rds_asInts t]; rfl
theorem intsAt_seq {H : Hp} {loc : List Addr} {M : Mem} {v : V} {w : W} {ns : List Int} (s : Store K H loc M) (r : Rd K H loc v w) (h : intsAt M w = some ns) : ∃ a, v = .ref a ∧ SqL K H a (ns.map V.int) := by
  unfold intsAt at h
  split at h
  · cases r with
    | ref hn =>
      split at h
      · rename_i zs hz
        obtain ⟨xs, q1, q2⟩ := s.ok _ _ _ hn hz
        have e := rds_asInts (by rw [← asInts_some h]; exact q2)
        subst e
        exact ⟨_, rfl, SqL.of q1⟩
      · rename_i zs hz
        obtain ⟨xs, q1, q2⟩ := s.ok _ _ _ hn hz
        have e := rds_asInts (by rw [← asInts_some h]; exact q2)
        subst e
        exact ⟨_, rfl, q1.sq⟩
      · cases h
  · cases h
theorem n_minL : LiftN K (rMin K) pMinL := by
  intro H loc M ws vs w M' Q s r e aft
  unfold pMinL at e
  split at e
  · split at e
    · rename_i w0 _ m ms hm
      cases e
      match vs, r with
      | [_], .cons r1 .nil =>
        obtain ⟨a, rfl, sq⟩ := intsAt_seq s r1 hm
        refine ⟨a, _, rfl, sq, Nat.zero_lt_succ _, fun z h1 h2 => ?_⟩
        rw [← minI_eq h1 h2]
        exact aft _ H loc s (.int _) .refl (List.prefix_refl _)
    · cases e
  · cases e
theorem n_sum : LiftN K (rSum K) pSum := by
  intro H loc M ws vs w M' Q s r e aft
  unfold pSum at e
  split at e
  · split at e
    · rename_i w0 _ ms hm
      cases e
      match vs, r with
      | [_], .cons r1 .nil =>
        obtain ⟨a, rfl, sq⟩ := intsAt_seq s r1 hm
        exact ⟨a, _, rfl, sq, aft _ H loc s (.int _) .refl (List.prefix_refl _)⟩
    · cases e
  · cases e
end
end BF

set_option Elab.async false
set_option linter.all false
set_option autoImplicit false
set_option maxRecDepth 100000
set_option maxHeartbeats 4000000
/-! A tuple so many times, at any count. -/
namespace BF
open PySem PySem.Spec
open PyProof.Rows L2
theorem mul_none (l : Addr) (items : Array Value) (n : Nat) (dd : Option Addr) (sl : Array (Option Value)) (x : Int) (u : Tok) (c0 : (decide (x < -(2 ^ 63)) || decide (x ≥ 2 ^ 63)) = false) (c1 : (items.isEmpty || x == 1) = false) (c2 : (decide (x ≤ 0) || items.isEmpty) = true) :
    Meets (Builtin.«tuple.__mul__» ⟨[.ref l, .int x u], []⟩) (fun _ R s => s.heap.get? l = some { cls := .type "tuple", dict := dd, data := .seq items n, slots := sl } ∧
      R (.ok (.ret (Value.ref s.heap.objs.size))) { s with heap := s.heap.push { cls := Value.type "tuple", data := Data.seq #[] }, toks := s.toks }) :=
  .of_wp fun prog w A R s h => by
    obtain ⟨hp, g, d, tk, os⟩ := s
    obtain ⟨hl, h⟩ := h
    have f1 := AutoSeq1.idx_int
    wp_walk using wpAny_loadPart' hl
    repeat (first
      | (refine wpAny_ite_false (decide_eq_false (by rw [c0]; exact Bool.false_ne_true)) ?_; wp_walk using wpAny_loadPart' hl)
      | (refine wpAny_ite_false (decide_eq_false (by rw [c1]; exact Bool.false_ne_true)) ?_; wp_walk using wpAny_loadPart' hl)
      | (refine wpAny_ite_true (decide_eq_true c2) ?_; wp_walk using wpAny_loadPart' hl))
    exact ⟨_, rfl, h⟩
theorem mul_once (l : Addr) (items : Array Value) (n : Nat) (dd : Option Addr) (sl : Array (Option Value)) (x : Int) (u : Tok) (c0 : (decide (x < -(2 ^ 63)) || decide (x ≥ 2 ^ 63)) = false) (c1 : (items.isEmpty || x == 1) = true) :
    Meets (Builtin.«tuple.__mul__» ⟨[.ref l, .int x u], []⟩) (fun _ R s => s.heap.get? l = some { cls := .type "tuple", dict := dd, data := .seq items n, slots := sl } ∧
      R (.ok (.ret (Value.ref l))) s) :=
  .of_wp fun prog w A R s h => by
    obtain ⟨hp, g, d, tk, os⟩ := s
    obtain ⟨hl, h⟩ := h
    have f1 := AutoSeq1.idx_int
    wp_walk using wpAny_loadPart' hl
    repeat (first
      | (refine wpAny_ite_false (decide_eq_false (by rw [c0]; exact Bool.false_ne_true)) ?_; wp_walk using wpAny_loadPart' hl)
      | (refine wpAny_ite_true (decide_eq_true c1) ?_; wp_walk using wpAny_loadPart' hl))
    exact ⟨_, rfl, h⟩
def rRepA (K : KW) : R2 := fun x y H Q => ∃ l k xs, x = .ref l ∧ y = .int k ∧ SqT K H l xs ∧ -1000 ≤ k ∧ k ≤ 1000 ∧ xs.length ≤ 1000 ∧ (xs = [] ∨ k = 1 → Q (.ref l) H) ∧ (¬ (xs = [] ∨ k = 1) → ∀ p, H p = none → Q (.ref p) (upd H p (.tup (List.replicate k.toNat xs).flatten)))
section
variable {X : Cx}
theorem op_repA : OpR X (binaryOp .Mult) (rRepA X.KW) := by
  intro pins s σ H x y v u Q I rx ry h
  obtain ⟨l, k, xs, rfl, rfl, hT, h0, h1, hz, q1, q2⟩ := h
  by_cases hk : 2 ≤ k ∧ xs ≠ []
  · exact op_repT pins s σ H _ _ v u Q I rx ry ⟨l, k, xs, rfl, rfl, hT, hk.2, hk.1, h1, hz, q2 (fun z => z.elim hk.2 (fun z => by omega))⟩
  cases rx
  obtain ⟨t, rfl⟩ := ry
  obtain ⟨its, r, ⟨⟨cls, dd, data, sl⟩, ho, hc, n, hd⟩, hs⟩ := I.tuple hT
  simp only at hc hd
  subst hc hd
  have hle : its.length = xs.length := r.length.symm
  have c0 : (decide (k < -(2 ^ 63)) || decide (k ≥ 2 ^ 63)) = false := by
    rw [decide_eq_false (by omega), decide_eq_false (by omega)] <;> rfl
  have hem : its.toArray.isEmpty = decide (xs = []) := by
    cases its with
    | nil => cases xs with
      | nil => rfl
      | cons _ _ => cases hle
    | cons _ _ => cases xs with
      | nil => cases hle
      | cons _ _ => rfl
  by_cases hc1 : xs = [] ∨ k = 1
  · have c1 : (its.toArray.isEmpty || k == 1) = true := by
      rw [hem]
      rcases hc1 with z | z
      · rw [z]; rfl
      · rw [z]; simp
    refine wpAny_binaryOp_repeat_ref (T := "tuple") (U := "int") (by decide) ⟨_, ho, rfl⟩ (fun s' => typeIs_int s' k t) noFill_tuple_mul F.fills_int_mul F.slot_int_rmul repeat_tuple F.slot_int_index.lookup
      (call_meets F.slot_int_rmul (typeIs_int s k t) F.entry_int_rmul (F.args_int_rmul_2 _ _) (int_rmul_tuple k t l its.toArray n dd sl)
        ⟨ho, rfl, ⟨_, ho, rfl⟩, call_meets F.slot_tuple_mul ⟨_, ho, rfl⟩ F.entry_tuple_mul (F.args_tuple_mul_2 _ _) (mul_once l its.toArray n dd sl k t c0 c1) ⟨ho, ?_⟩⟩)
    exact ⟨.ref l, _, I, rfl, q1 hc1⟩
  · have hk0 : k ≤ 0 := by
      by_cases hx : xs = []
      · exact absurd (.inl hx) hc1
      · by_cases h2 : 2 ≤ k
        · exact absurd ⟨h2, hx⟩ hk
        · have : k ≠ 1 := fun z => hc1 (.inr z)
          omega
    have hx : xs ≠ [] := fun z => hc1 (.inl z)
    have c1 : (its.toArray.isEmpty || k == 1) = false := by
      rw [hem, decide_eq_false hx, Bool.false_or]
      exact beq_eq_false_iff_ne.mpr (by omega)
    have c2 : (decide (k ≤ 0) || its.toArray.isEmpty) = true := by rw [decide_eq_true hk0]; rfl
    refine wpAny_binaryOp_repeat_ref (T := "tuple") (U := "int") (by decide) ⟨_, ho, rfl⟩ (fun s' => typeIs_int s' k t) noFill_tuple_mul F.fills_int_mul F.slot_int_rmul repeat_tuple F.slot_int_index.lookup
      (call_meets F.slot_int_rmul (typeIs_int s k t) F.entry_int_rmul (F.args_int_rmul_2 _ _) (int_rmul_tuple k t l its.toArray n dd sl)
        ⟨ho, rfl, ⟨_, ho, rfl⟩, call_meets F.slot_tuple_mul ⟨_, ho, rfl⟩ F.entry_tuple_mul (F.args_tuple_mul_2 _ _) (mul_none l its.toArray n dd sl k t c0 c1 c2) ⟨ho, ?_⟩⟩)
    have qn := q2 hc1
    rw [show k.toNat = 0 by omega] at qn
    refine ⟨.ref s.heap.objs.size, _, I.laid (t' := s.toks) (o := .tup []) (fun b ob q => Heap.get?_push_of_some _ q) (Nat.le_refl _) ?_, rfl, qn _ (I.hok.fresh (Nat.le_refl _))⟩
    exact ⟨Nat.zero_le _, [], .nil, IsTup.new _ _⟩
end
/-- a tuple so many times -/
def gRepA (M : Mem) (x y : W) : Option (W × Mem) := match x, y with
  | .tup a, .int k => if a.length ≤ 1000 ∧ k ≤ 1000 ∧ -1000 ≤ k then some (.tup (List.replicate k.toNat a).flatten, M) else none
  | _, _ => none
@[simp] theorem gRepA_tup {M : Mem} (a : List W) (k : Int) : gRepA M (.tup a) (.int k) = if a.length ≤ 1000 ∧ k ≤ 1000 ∧ -1000 ≤ k then some (.tup (List.replicate k.toNat a).flatten, M) else none := nr rfl
theorem rds_rep {K : KW} {H : Hp} {loc : List Addr} {xs : List V} {ws : List W} (r : Rds K H loc xs ws) : ∀ k : Nat, Rds K H loc (List.replicate k xs).flatten (List.replicate k ws).flatten
  | 0 => .nil
  | k + 1 => by
    rw [List.replicate_succ, List.replicate_succ, List.flatten_cons, List.flatten_cons]
    exact r.append (rds_rep r k)
theorem l_rep {K : KW} : Lift2 K (rRepA K) gRepA := by
  intro H loc M x y v u w M' Q s rx ry e aft
  unfold gRepA at e
  split at e
  · rename_i a k
    split at e
    · rename_i hz
      cases e
      cases ry
      cases rx with
      | tup sq rs =>
        rename_i p xs
        refine ⟨p, k, xs, rfl, rfl, sq, hz.2.2, hz.2.1, by rw [rs.length]; exact hz.1, fun hc => ?_, fun hc l hl => aft_tup s (rds_rep rs k.toNat) hl aft⟩
        refine aft _ H loc s ?_ .refl (List.prefix_refl _)
        have e1 : (List.replicate k.toNat a).flatten = a := by
          rcases hc with hc | hc
          · subst hc
            cases rs
            induction k.toNat with
            | zero => rfl
            | succ n ih => rw [List.replicate_succ, List.flatten_cons, ih]; rfl
          · rw [hc]; simp
        rw [e1]
        exact .tup sq rs
    · cases e
  · cases e
/-- int(x) of an int or a truth value -/
def pInt : Fn := fun ws M => match ws with
  | [.int i] => some (.int i, M)
  | [.bl k] => some (.int (if k then 1 else 0), M)
  | _ => none
@[simp] theorem pInt_bl {M : Mem} (k : Bool) : pInt [.bl k] M = some (.int (if k = true then 1 else 0), M) := nr rfl
theorem n_int {K : KW} : LiftN K (fun xs H Q => (∃ i, xs = [.int i] ∧ Q (.int i) H) ∨ ∃ k, xs = [.bl k] ∧ Q (.int (if k then 1 else 0)) H) pInt := by
  intro H loc M ws vs w M' Q s r e aft
  unfold pInt at e
  split at e
  · cases e
    match vs, r with
    | [_], .cons (.int _) .nil => exact .inl ⟨_, rfl, aft _ H loc s (.int _) .refl (List.prefix_refl _)⟩
  · cases e
    match vs, r with
    | [_], .cons (.bl _) .nil => exact .inr ⟨_, rfl, aft _ H loc s (.int _) .refl (List.prefix_refl _)⟩
  · cases e
end BF

set_option Elab.async false
set_option linter.all false
set_option autoImplicit false
set_option maxRecDepth 100000
/-! The letters of a text; constants of the module; all(..); is of truth values. -/
namespace BF
open PySem PySem.Spec
open PyProof.Rows L2
def charsW (x : Str) : List W := x.cps.toList.map fun c => .str ⟨#[c]⟩
def iStr (e : CE) : CI := fun σ M => (e σ M).bind fun p => match p.1 with
  | .str x => some (charsW x, gdT, p.2)
  | _ => none
@[simp] theorem iStr_eq {σ : Sl} {M : Mem} (e : CE) : iStr e σ M = (e σ M).bind fun p => match p.1 with
  | .str x => some (charsW x, gdT, p.2)
  | _ => none := nr rfl
/-- a letter in a text -/
def gInS (M : Mem) (x y : W) : Option (W × Mem) := match x, y with
  | .str a, .str z => match a.cps.toList with
    | [c] => some (.bl (decide (c ∈ z.cps.toList)), M)
    | _ => none
  | _, _ => none
def gNotInS (M : Mem) (x y : W) : Option (W × Mem) := match x, y with
  | .str a, .str z => match a.cps.toList with
    | [c] => some (.bl (!decide (c ∈ z.cps.toList)), M)
    | _ => none
  | _, _ => none
@[simp] theorem gInS_one {M : Mem} (c : Nat) (z : Str) : gInS M (.str ⟨#[c]⟩) (.str z) = some (.bl (decide (c ∈ z.cps.toList)), M) := nr rfl
@[simp] theorem gNotInS_one {M : Mem} (c : Nat) (z : Str) : gNotInS M (.str ⟨#[c]⟩) (.str z) = some (.bl (!decide (c ∈ z.cps.toList)), M) := nr rfl
/-- truth values only -/
def asBls : List W → Option (List Bool)
  | [] => some []
  | .bl b :: ws => (asBls ws).map (b :: ·)
  | _ :: _ => none
theorem asBls_map : ∀ bs : List Bool, asBls (bs.map W.bl) = some bs
  | [] => rfl
  | b :: bs => by rw [List.map_cons, asBls, asBls_map bs]; rfl
theorem asBls_some : ∀ {ws : List W} {bs : List Bool}, asBls ws = some bs → ws = bs.map W.bl
  | [], bs, h => by cases h; rfl
  | .bl b :: ws, bs, h => by
    rw [asBls] at h
    obtain ⟨cs, h1, rfl⟩ := Option.map_eq_some_iff.mp h
    rw [List.map_cons, ← asBls_some h1]
  | .non :: _, _, h => by cases h
  | .int _ :: _, _, h => by cases h
  | .str _ :: _, _, h => by cases h
  | .tup _ :: _, _, h => by cases h
  | .ref _ :: _, _, h => by cases h
def pAll : Fn := fun ws M => match ws with
  | [.ref n] => match M[n]? with
    | some (.lst ws) => (asBls ws).map fun bs => (.bl (bs.all id), M)
    | _ => none
  | _ => none
@[simp] theorem pAll_ref {M : Mem} (n : Nat) : pAll [.ref n] M = match M[n]? with
    | some (.lst ws) => (asBls ws).map fun bs => (.bl (bs.all id), M)
    | _ => none := nr rfl
def gIsB (M : Mem) (x y : W) : Option (W × Mem) := match x, y with
  | .bl a, .bl b => some (.bl (decide (a = b)), M)
  | _, _ => none
def gNotB (M : Mem) (x y : W) : Option (W × Mem) := match x, y with
  | .bl a, .bl b => some (.bl (!decide (a = b)), M)
  | _, _ => none
@[simp] theorem gIsB_eq {M : Mem} (a b : Bool) : gIsB M (.bl a) (.bl b) = some (.bl (decide (a = b)), M) := nr rfl
@[simp] theorem gNotB_eq {M : Mem} (a b : Bool) : gNotB M (.bl a) (.bl b) = some (.bl (!decide (a = b)), M) := nr rfl
/-- the length of a text -/
def pLenS : Fn := fun ws M => match ws with
  | [.str x] => some (.int x.length, M)
  | _ => none
@[simp] theorem pLenS_eq {M : Mem} (x : Str) : pLenS [.str x] M = some (.int x.length, M) := nr rfl
section
variable {K : KW}
theorem n_lenS : LiftN K (fun xs H Q => ∃ z, xs = [.str z] ∧ z.length ≤ sizeLine ∧ Q (.int z.length) H) pLenS := by
  intro H loc M ws vs w M' Q s r e aft
  unfold pLenS at e
  split at e
  · cases e
    match vs, r with
    | [_], .cons (.str z h1 h2) .nil => exact ⟨z, rfl, by rw [sizeLine_eq]; omega, aft _ H loc s (.int _) .refl (List.prefix_refl _)⟩
  · cases e
theorem l_inS : Lift2 K rInS gInS := by
  intro H loc M x y v u w M' Q s rx ry e aft
  unfold gInS at e
  split at e
  · rename_i a z
    split at e
    · rename_i c hc
      cases e
      cases rx; cases ry
      have : a = ⟨#[c]⟩ := by
        obtain ⟨cs⟩ := a
        congr 1
        exact Array.toList_inj.mp hc
      exact ⟨c, z, by rw [this], rfl, aft _ H loc s (.bl _) .refl (List.prefix_refl _)⟩
    · cases e
  · cases e
theorem l_notInS : Lift2 K rNotInS gNotInS := by
  intro H loc M x y v u w M' Q s rx ry e aft
  unfold gNotInS at e
  split at e
  · rename_i a z
    split at e
    · rename_i c hc
      cases e
      cases rx; cases ry
      have : a = ⟨#[c]⟩ := by
        obtain ⟨cs⟩ := a
        congr 1
        exact Array.toList_inj.mp hc
      exact ⟨c, z, by rw [this], rfl, aft _ H loc s (.bl _) .refl (List.prefix_refl _)⟩
    · cases e
  · cases e
theorem l_isB : Lift2 K rIsB gIsB := by
  intro H loc M x y v u w M' Q s rx ry e aft
  unfold gIsB at e
  split at e
  · cases e
    cases rx; cases ry
    exact ⟨_, _, rfl, rfl, aft _ H loc s (.bl _) .refl (List.prefix_refl _)⟩
  · cases e
theorem l_notB : Lift2 K rNotB gNotB := by
  intro H loc M x y v u w M' Q s rx ry e aft
  unfold gNotB at e
  split at e
  · cases e
    cases rx; cases ry
    exact ⟨_, _, rfl, rfl, aft _ H loc s (.bl _) .refl (List.prefix_refl _)⟩
  · cases e
theorem rds_bls {H : Hp} {loc : List Addr} : ∀ {bs : List Bool} {xs : List V}, Rds K H loc xs (bs.map W.bl) → xs = bs.map V.bl
  | [], [], _ => rfl
  | b :: bs, x :: xs, r => by
    cases r with
    | cons h t =>
      cases h
      rw [rds_bls t]; rfl
theorem n_all : LiftN K (rAll K) pAll := by
  intro H loc M ws vs w M' Q s r e aft
  unfold pAll at e
  split at e
  · split at e
    · rename_i zs hz
      obtain ⟨bs, hb, e⟩ := Option.map_eq_some_iff.mp e
      cases e
      match vs, r with
      | [_], .cons (.ref (a := a) hn) .nil =>
        obtain ⟨xs, q1, q2⟩ := s.ok _ _ _ hn hz
        have e := rds_bls (by rw [← asBls_some hb]; exact q2)
        subst e
        exact ⟨a, bs, rfl, SqL.of q1, aft _ H loc s (.bl _) .refl (List.prefix_refl _)⟩
    · cases e
  · cases e
theorem walk_of_str {H : Hp} {loc : List Addr} {x : Str} (hx : PyData.strOk x = true) : WalkW K H loc (Its x) (charsW x) gdT :=
  fun i H1 loc1 M s ex l _ => ⟨fun w hw => by
    unfold charsW at hw
    rw [List.getElem?_map] at hw
    obtain ⟨c, hc, rfl⟩ := Option.map_eq_some_iff.mp hw
    have hc2 : x.cps[i]? = some c := by rw [← Array.getElem?_toList]; exact hc
    have hi : i < x.cps.size := by
      have := (List.getElem?_eq_some_iff.mp hc).1
      simpa using this
    refine ⟨hi, fun v H2 y => ?_⟩
    obtain ⟨rfl, d, hd, rfl⟩ := y
    rw [hc2] at hd
    cases hd
    have hcl : c < 0x110000 := by
      have h2 := hx
      unfold PyData.strOk at h2
      rw [Array.all_eq_true] at h2
      obtain ⟨h3, h4⟩ := Array.getElem?_eq_some_iff.mp hc2
      have := h2 i h3
      rw [h4] at this
      exact of_decide_eq_true this
    exact ⟨.str _ (by simpa [PyData.strOk] using hcl) (by show 1 ≤ _; decide), s, .refl⟩, fun hl => by
      unfold charsW at hl
      show x.cps.size ≤ i
      simpa using hl⟩
end
section
variable {X : Cx} {tg iter : Expr} {ca : CE}
theorem i_str (h : EV X iter ca) : EI X tg iter (iStr ca) := (pi_str h).mono fun σV H R ⟨loc, σ, M, ws, gd, M', rel, e, aft⟩ => by
  obtain ⟨p, hp, e⟩ := bind_some e
  refine run1 rel hp fun v H1 loc1 rel1 rd1 ex1 l1 => ?_
  split at e
  · rename_i zs hz
    cases e
    rw [hz] at rd1
    cases rd1 with
    | str _ h1 h2 => exact ⟨_, rfl, aft _ H1 loc1 rel1.st ex1 l1 (walk_of_str h1)⟩
  · cases e
/-- a constant of the module -/
def GlobV (mg : Str → Option Value) (x : Str) (v : V) : Prop := ∃ u, mg x = some u ∧ RelV v u
theorem r_globI {x : Str} {i : Int} {pos : Pos} (hg : Gl X x) (hm : GlobV X.mg x (.int i)) (hd : (x == ("__debug__" : Str)) = false := by decide) : EV X (.Name x pos) (eL (.int i)) := by
  obtain ⟨u, h1, h2⟩ := hm
  exact lit_aux (fun _ _ => .int i) (pe_glob hg h1 h2 hd)
theorem r_globS {x z : Str} {pos : Pos} (hg : Gl X x) (hm : GlobV X.mg x (.str z)) (h : PyData.strOk z = true := by decide +kernel) (h2 : z.length ≤ 16777216 := by decide +kernel) (hd : (x == ("__debug__" : Str)) = false := by decide) : EV X (.Name x pos) (eL (.str z)) := by
  obtain ⟨u, h1, h3⟩ := hm
  exact lit_aux (fun _ _ => .str z h h2) (pe_glob hg h1 h3 hd)
end
end BF

set_option Elab.async false
set_option linter.all false
set_option autoImplicit false
set_option maxRecDepth 100000
/-! tuple(range(n)). -/
namespace BF
open PySem PySem.Spec
open PyProof.Rows L2
def pTupRg : Fn := fun ws M => match ws with
  | [.int n] => if n.natAbs ≤ 16777216 then some (.tup (rangeW 0 n.toNat), M) else none
  | _ => none
@[simp] theorem pTupRg_eq {M : Mem} (n : Int) : pTupRg [.int n] M = if n.natAbs ≤ 16777216 then some (.tup (rangeW 0 n.toNat), M) else none := nr rfl
theorem rds_map {K : KW} {H : Hp} {loc : List Addr} {f : Nat → V} {g : Nat → W} (h : ∀ i, Rd K H loc (f i) (g i)) : ∀ l : List Nat, Rds K H loc (l.map f) (l.map g)
  | [] => .nil
  | a :: l => .cons (h a) (rds_map h l)
theorem r_tupRg {X : Cx} {e : Expr} {ca : CE} {p p2 pos pos2 : Pos} (hg : Gl X "tuple") (hm : X.mg "tuple" = none) (hg2 : Gl X "range") (hm2 : X.mg "range" = none) (ha : EV X e ca) (hc : X.calm = true := by rfl)
    (na2 : starEach [e] X.env = (false, eval e X.env) :: starEach [] X.env := by rfl) (na : starEach [.Call (.Name "range" p2) [e] [] pos2] X.env = (false, eval (.Call (.Name "range" p2) [e] [] pos2) X.env) :: starEach [] X.env := by rfl) :
    EV X (.Call (.Name "tuple" p) [.Call (.Name "range" p2) [e] [] pos2] [] pos) (eN pTupRg [ca]) :=
  (pe_tupRg hc hg hm (prg_1 hg2 hm2 ha na2) na).mono fun σV H Q ⟨loc, σ, M, w, M', rel, e, aft⟩ => by
    obtain ⟨q, hq, e⟩ := bind_some e
    obtain ⟨r, hr, hq⟩ := bind_some hq
    obtain ⟨t, ht, hq⟩ := bind_some hq
    cases ht
    cases hq
    refine run1 rel hr fun v H1 loc1 rel1 rd1 ex1 l1 => ?_
    unfold pTupRg at e
    simp only at e
    split at e
    · rename_i n hn
      split at e
      · rename_i hz
        cases e
        obtain ⟨hn1, _⟩ := List.cons.inj hn
        rw [hn1] at rd1
        cases rd1
        refine ⟨n, rfl, ⟨by omega, by omega, by omega, by omega, by omega⟩, fun l hl => ?_⟩
        refine aft_tup rel1.st ?_ hl (aft.after ex1 l1)
        unfold rgV rangeW
        rw [Int.sub_zero]
        exact rds_map (fun i => .int _) _
      · cases e
    · cases e
end BF

set_option Elab.async false
set_option linter.all false
set_option autoImplicit false
set_option maxRecDepth 100000
/-! sum(..) of a list or of a tuple. -/
namespace BF
open PySem PySem.Spec
open PyProof.Rows L2
def rSumT (K : KW) : List V → Hp → VK → Prop := fun vs H Q => ∃ (a : Addr) (ns : List Int), vs = [V.ref a] ∧ SqT K H a (ns.map V.int) ∧ Q (.int ns.sum) H
theorem cr_sumT {X : Cx} (hc : X.calm = true) : CallR X (.builtin "sum") (rSumT X.KW) := by
  intro pins s σ H vs us Q I r h
  obtain ⟨a, ns, rfl, hs, q⟩ := h
  obtain ⟨its, rv, hl, _⟩ := I.tuple hs
  rw [Vals.ref1 r]
  have hi := rv.ints
  obtain ⟨xs, e⟩ := hi.allInts.items
  have hn : numsOf (intItems xs).toList = ns := by rw [← e]; exact hi.numsOf
  rw [nums_intItems] at hn
  rw [e] at hl
  refine PySem.W.ktm_sumG (I.ok.hd hc) hl fun h' tk t' hk => ?_
  rw [preSum_eq, List.take_of_length_le (by simp), hn]
  exact ⟨.int _, H, I.kept hk, ⟨_, rfl⟩, q⟩
theorem cr_sumW {X : Cx} (hc : X.calm = true) : CallR X (.builtin "sum") (fun vs H Q => rSum X.KW vs H Q ∨ rSumT X.KW vs H Q) := by
  intro pins s σ H vs us Q I r h
  rcases h with h | h
  · exact cr_sum hc pins s σ H vs us Q I r h
  · exact cr_sumT hc pins s σ H vs us Q I r h
def pSumW : Fn := fun ws M => match ws with
  | [.tup us] => (asInts us).map fun ns => (.int ns.sum, M)
  | [.ref n] => (intsAt M (.ref n)).map fun ns => (.int ns.sum, M)
  | _ => none
@[simp] theorem pSumW_tup {M : Mem} (us : List W) : pSumW [.tup us] M = (asInts us).map fun ns => (.int ns.sum, M) := nr rfl
@[simp] theorem pSumW_ref {M : Mem} (n : Nat) : pSumW [.ref n] M = (intsAt M (.ref n)).map fun ns => (.int ns.sum, M) := nr rfl
theorem n_sumW {K : KW} : LiftN K (fun vs H Q => rSum K vs H Q ∨ rSumT K vs H Q) pSumW := by
  intro H loc M ws vs w M' Q s r e aft
  unfold pSumW at e
  split at e
  · rename_i us
    obtain ⟨ns, hn, e⟩ := Option.map_eq_some_iff.mp e
    cases e
    match vs, r with
    | [_], .cons (.tup sq rs) .nil =>
      have e := rds_asInts (by rw [← asInts_some hn]; exact rs)
      subst e
      exact .inr ⟨_, ns, rfl, sq, aft _ H loc s (.int _) .refl (List.prefix_refl _)⟩
  · obtain ⟨ns, hn, e⟩ := Option.map_eq_some_iff.mp e
    cases e
    match vs, r with
    | [_], .cons r1 .nil =>
      obtain ⟨a, rfl, sq⟩ := intsAt_seq s r1 hn
      exact .inl ⟨a, ns, rfl, sq, aft _ H loc s (.int _) .refl (List.prefix_refl _)⟩
  · cases e
end BF

set_option Elab.async false
set_option linter.all false
set_option autoImplicit false
set_option maxRecDepth 100000
/-! Dicts whose keys are numbers and texts. -/
namespace BF
open PySem PySem.Spec
open PyProof.Rows L2
theorem hu1 {k : Nat} {A : Around} (hr : Room k A) : A.units + 1 < cLine := by have := hr.un; omega
def keyOf : W → Option Key
  | .int i => some (.inl i)
  | .str x => some (.inr x)
  | _ => none
@[simp] theorem keyOf_keyW (k : Key) : keyOf (keyW k) = some k := by cases k <;> rfl
theorem keyOf_some {w : W} {k : Key} (h : keyOf w = some k) : w = keyW k := by
  cases w <;> simp [keyOf] at h <;> subst h <;> rfl
/-- what stands at the key -/
def valW : List (W × W) → Key → Option W
  | [], _ => none
  | p :: ps, k => if keyOf p.1 = some k then some p.2 else valW ps k
/-- in its place, or at the end -/
def putW (ws : List (W × W)) (k : Key) (w : W) : List (W × W) :=
  if (ws.any fun p => decide (keyOf p.1 = some k)) = true then ws.map fun p => if keyOf p.1 = some k then (p.1, w) else p else ws ++ [(keyW k, w)]
section
variable {K : KW} {H : Hp} {loc : List Addr}
theorem rd_key {v : V} {w : W} {k : Key} (r : Rd K H loc v w) (h : keyOf w = some k) : v = kV k := by
  cases r <;> simp [keyOf] at h <;> subst h <;> rfl
theorem val_rel : ∀ {kvs : List (Key × V)} {ws : List (W × W)} {k : Key}, kvs.map (fun p => keyW p.1) = ws.map (·.1) → Rds K H loc (kvs.map (·.2)) (ws.map (·.2)) →
    (valW ws k = none → valV kvs k = none) ∧ ∀ w, valW ws k = some w → ∃ v, valV kvs k = some v ∧ Rd K H loc v w
  | [], [], k, _, _ => ⟨fun _ => rfl, fun w h => by cases h⟩
  | [], _ :: _, _, h, _ => by cases h
  | _ :: _, [], _, h, _ => by cases h
  | p :: kvs, q :: ws, k, h, r => by
    simp only [List.map_cons, List.cons.injEq] at h
    cases r with
    | cons r1 r2 =>
      obtain ⟨h1, h2⟩ := val_rel (k := k) h.2 r2
      have hk : keyOf q.1 = some p.1 := by rw [← h.1, keyOf_keyW]
      rw [valW, hk]
      by_cases e : p.1 = k
      · rw [if_pos (by rw [e]), valV_pos e]
        exact ⟨fun z => (by cases z), fun w z => (by cases z; exact ⟨_, rfl, r1⟩)⟩
      · rw [if_neg (by simpa using e), valV_neg e]
        exact ⟨h1, h2⟩
end
/-- {} -/
def eDict : CE := fun _ M => some (.ref M.length, M ++ [.dK []])
@[simp] theorem eDict_eq {σ : Sl} {M : Mem} : eDict σ M = some (.ref M.length, M ++ [.dK []]) := nr rfl
/-- d[k] -/
def gGet (M : Mem) (x y : W) : Option (W × Mem) := match x, keyOf y with
  | .ref n, some k => match M[n]? with
    | some (.dK ws) => (valW ws k).map fun w => (w, M)
    | some (.dT .lockF ws) => (valW ws k).map fun w => (w, M)
    | _ => none
  | _, _ => none
section
variable {X : Cx} {a b : Expr} {ca cb : CE} {pos : Pos}
theorem r_dict : EV X (.Dict [] [] pos) eDict := pe_dnewK.mono fun σV H Q ⟨loc, σ, M, w, M', rel, e, aft⟩ => by
  cases e
  intro p hp
  refine aft _ _ (loc ++ [p]) (rel.st.new hp ⟨[], upd_same, rfl, fun _ h => (by cases h), .nil⟩) (.ref (last_get rel.st.len.symm)) (.new hp) (List.prefix_append _ _)
theorem r_get (hu : X.A.units + 1 < cLine) (ha : EV X a ca) (hb : EV X b cb) (hs : NoSl b) : EV X (.Subscript a b pos) (e2 gGet ca cb) := (pe_dget hu ha hb hs).mono fun σV H Q ⟨loc, σ, M, w, M', rel, e, aft⟩ => by
  obtain ⟨p, hp, e⟩ := bind_some e
  obtain ⟨q, hq, e⟩ := bind_some e
  refine run1 rel hp fun v H1 loc1 rel1 rd1 ex1 l1 => run1 rel1 hq fun u H2 loc2 rel2 rd2 ex2 l2 => ?_
  unfold gGet at e
  split at e
  · rename_i n k hn hk
    split at e
    · rename_i ws hw
      obtain ⟨x, hx, e⟩ := Option.map_eq_some_iff.mp e
      cases e
      rw [hn] at rd1
      cases rd1 with
      | ref hl =>
        obtain ⟨kvs, h1, h2, h3, h4⟩ := rel2.st.ok _ _ _ (pre_get l2 hl) hw
        obtain ⟨v2, g1, g2⟩ := (val_rel h2 h4).2 _ hx
        exact ⟨_, v2, rfl, .inl ⟨kvs, k, .inl h1, rd_key rd2 hk, g1.symm⟩, aft _ H2 loc2 rel2.st g2 (ex1.trans ex2) (l1.trans l2)⟩
    · rename_i ws hw
      obtain ⟨x, hx, e⟩ := Option.map_eq_some_iff.mp e
      cases e
      rw [hn] at rd1
      cases rd1 with
      | ref hl =>
        obtain ⟨od, kvs, h1, h2⟩ := rel2.st.ok _ _ _ (pre_get l2 hl) hw
        obtain ⟨v2, g1, g2⟩ := (val_rel h2.keys h2.vs).2 _ hx
        exact ⟨_, v2, rfl, .inl ⟨kvs, k, .inr ⟨od, h1⟩, rd_key rd2 hk, g1.symm⟩, aft _ H2 loc2 rel2.st g2 (ex1.trans ex2) (l1.trans l2)⟩
    · cases e
  · cases e
/-- a display of three texts -/
def eDisp3 (k1 v1 k2 v2 k3 v3 : Str) : CE := fun _ M => some (.ref M.length, M ++ [.dK [(.str k1, .str v1), (.str k2, .str v2), (.str k3, .str v3)]])
@[simp] theorem eDisp3_eq {σ : Sl} {M : Mem} (k1 v1 k2 v2 k3 v3 : Str) : eDisp3 k1 v1 k2 v2 k3 v3 σ M = some (.ref M.length, M ++ [.dK [(.str k1, .str v1), (.str k2, .str v2), (.str k3, .str v3)]]) := nr rfl
theorem upd_again {H : Hp} {p : Addr} {a b : HO} : upd (upd H p a) p b = upd H p b := by
  funext x
  by_cases h : x = p
  · subst h; rw [upd_same, upd_same]
  · rw [upd_ne h, upd_ne h, upd_ne h]
theorem merge3 {k1 k2 k3 : Str} {v1 v2 v3 : V} (h12 : k1 ≠ k2) (h13 : k1 ≠ k3) (h23 : k2 ≠ k3) : mergeK [] [(.inr k1, v1), (.inr k2, v2), (.inr k3, v3)] = [((.inr k1 : Key), v1), (.inr k2, v2), (.inr k3, v3)] := by
  have e12 : ¬ ((Sum.inr k1 : Key) = Sum.inr k2) := fun z => h12 (Sum.inr.inj z)
  have e13 : ¬ ((Sum.inr k1 : Key) = Sum.inr k3) := fun z => h13 (Sum.inr.inj z)
  have e23 : ¬ ((Sum.inr k2 : Key) = Sum.inr k3) := fun z => h23 (Sum.inr.inj z)
  simp [mergeK, putK, h12, h13, h23]
theorem r_disp3 {k1 v1 k2 v2 k3 v3 : Str} {i1 i2 i3 j1 j2 j3 p1 p2 p3 q1 q2 q3} (h12 : k1 ≠ k2 := by decide +kernel) (h13 : k1 ≠ k3 := by decide +kernel) (h23 : k2 ≠ k3 := by decide +kernel)
    (o1 : KeyOk (.inr k1) := by exact ⟨by decide +kernel, by decide +kernel⟩) (o2 : KeyOk (.inr k2) := by exact ⟨by decide +kernel, by decide +kernel⟩) (o3 : KeyOk (.inr k3) := by exact ⟨by decide +kernel, by decide +kernel⟩)
    (w1 : KeyOk (.inr v1) := by exact ⟨by decide +kernel, by decide +kernel⟩) (w2 : KeyOk (.inr v2) := by exact ⟨by decide +kernel, by decide +kernel⟩) (w3 : KeyOk (.inr v3) := by exact ⟨by decide +kernel, by decide +kernel⟩) :
    EV X (.Dict [some (.Constant (.str k1) i1 p1), some (.Constant (.str k2) i2 p2), some (.Constant (.str k3) i3 p3)] [.Constant (.str v1) j1 q1, .Constant (.str v2) j2 q2, .Constant (.str v3) j3 q3] pos) (eDisp3 k1 v1 k2 v2 k3 v3) :=
  (pe_disp (pps_cons pe_str pe_str (pps_cons pe_str pe_str (pps_cons pe_str pe_str pps_nil))) rfl rfl (by simp) (by simp)).mono fun σV H Q ⟨loc, σ, M, w, M', rel, e, aft⟩ => by
    cases e
    intro p hp
    refine ⟨upd_same, [(.inr k1, .str v1), (.inr k2, .str v2), (.inr k3, .str v3)], rfl, by simp, ?_⟩
    rw [upd_again, merge3 h12 h13 h23]
    refine aft _ _ (loc ++ [p]) (rel.st.new hp ⟨_, upd_same, rfl, fun q hq => ?_, .cons (.str _ w1.1 w1.2) (.cons (.str _ w2.1 w2.2) (.cons (.str _ w3.1 w3.2) .nil))⟩) (.ref (last_get rel.st.len.symm)) (.new hp) (List.prefix_append _ _)
    rcases List.mem_cons.mp hq with rfl | hq
    · exact o1
    rcases List.mem_cons.mp hq with rfl | hq
    · exact o2
    rw [List.mem_singleton] at hq
    rw [hq]; exact o3
end
end BF

set_option Elab.async false
set_option linter.all false
set_option autoImplicit false
set_option maxRecDepth 100000
/-! Dicts whose keys are nested tuples. -/
namespace BF
open PySem PySem.Spec
open PyProof.Rows L2
/-- a tuple as such a key -/
def keyT (w : W) : Option NestedKey := match w with
  | .tup ws => match keyNs ws with
    | some ks => if (NestedKey.tup ks).depth ≤ 8 then some (.tup ks) else none
    | none => none
  | _ => none
theorem keyT_some {w : W} {k : NestedKey} (h : keyT w = some k) : keyN w = some k ∧ k.depth ≤ 8 ∧ ∃ ws, w = .tup ws := by
  unfold keyT at h
  split at h
  · split at h
    · rename_i ks hk
      split at h
      · rename_i hd
        cases h
        exact ⟨by rw [keyN, hk]; rfl, hd, _, rfl⟩
      · cases h
    · cases h
  · cases h
/-- what stands at the key -/
def valN (ws : List (W × W)) (k : NestedKey) : Option W := (ws.find? fun p => decide (keyN p.1 = some k)).map (·.2)
/-- in its place, or at the end -/
def putN (ws : List (W × W)) (k : NestedKey) (x w : W) : List (W × W) :=
  if (valN ws k).isSome = true then ws.map fun p => if keyN p.1 = some k then (p.1, w) else p else ws ++ [(x, w)]
def valE (es : NE) (k : NestedKey) : Option V := (es.find? fun e => decide (e.1 = k)).map (·.2.2)
def putE (es : NE) (k : NestedKey) (b : Addr) (v : V) : NE :=
  if (valE es k).isSome = true then es.map fun e => if e.1 = k then (e.1, e.2.1, v) else e else es ++ [(k, b, v)]
theorem paired_get? {α β : Type} {G : α → β → Prop} {l₁ : List α} {l₂ : List β} (h : Paired G l₁ l₂) {i : Nat} {b : β} (e : l₂[i]? = some b) : ∃ a, l₁[i]? = some a ∧ G a b := by
  induction h generalizing i with
  | nil => simp at e
  | cons r t ih =>
    cases i with
    | zero => simp only [List.getElem?_cons_zero, Option.some.injEq] at e; subst e; exact ⟨_, rfl, r⟩
    | succ i => simp only [List.getElem?_cons_succ] at e ⊢; exact ih e
section
variable {X : Cx} {pins : List (Addr × Obj)} {σ : L2.St} {H : Hp} {s : Shared} {loc : List Addr}
mutual
theorem nest_is (I : Inv X pins σ H s) : ∀ {w : W} {v : V} {u : Value} {k : NestedKey}, Rd X.KW H loc v w → keyN w = some k → RelV v u → NestedIs s.heap k u
  | .non, _, _, _, r, e, q => by cases r; cases e; cases q; exact .none
  | .bl b, _, _, _, r, e, q => by cases r; cases e; cases q; exact .bool rfl
  | .int i, _, _, _, r, e, q => by cases r; cases e; obtain ⟨t, rfl⟩ := q; exact .int i t
  | .str x, _, _, _, r, e, q => by cases r; cases e; obtain ⟨t, rfl⟩ := q; exact .text x t
  | .tup ws, _, _, _, r, e, q => by
    cases r with
    | tup sq rs =>
      rw [keyN] at e
      obtain ⟨ks, hk, rfl⟩ := Option.map_eq_some_iff.mp e
      cases (show _ = Value.ref _ from q)
      obtain ⟨its, rv, ⟨o, ho, hc, n, hd⟩, _⟩ := I.tuple sq
      exact .tup ho hc hd (by rw [List.toList_toArray]; exact nest_all I rs hk rv)
  | .ref _, _, _, _, r, e, q => by cases e
theorem nest_all (I : Inv X pins σ H s) : ∀ {ws : List W} {vs : List V} {us : List Value} {ks : List NestedKey}, Rds X.KW H loc vs ws → keyNs ws = some ks → Vals vs us → NestedAll s.heap ks us
  | [], _, _, _, r, e, q => by cases r; cases e; cases q; exact .nil
  | w :: ws, _, _, _, r, e, q => by
    cases r with
    | cons r1 r2 =>
      cases q with
      | cons q1 q2 =>
        rw [keyNs] at e
        split at e
        · rename_i k ks h1 h2
          cases e
          exact .cons (nest_is I r1 h1 q1) (nest_all I r2 h2 q2)
        · cases e
end
theorem nest_key (I : Inv X pins σ H s) {w : W} {v : V} {u : Value} {k : NestedKey} (r : Rd X.KW H loc v w) (h : keyT w = some k) (q : RelV v u) : ∃ a, v = .ref a ∧ u = .ref a ∧ (nestedKind X.prog X.w).is s.heap k a := by
  obtain ⟨h1, h2, ws, rfl⟩ := keyT_some h
  have n := nest_is I r h1 q
  cases r with
  | @tup a xs _ sq rs =>
    cases (show _ = Value.ref _ from q)
    exact ⟨a, rfl, rfl, n, h2⟩
theorem nest_dict (I : Inv X pins σ H s) {es : NE} {ws : List (W × W)} {a : Addr} (n : NestOk X.KW H loc es ws) (e : L2.Rd H a (nestO X.w a es)) :
    es.length ≤ sizeLine ∧ (a == sysModules) = false ∧ ∃ xs, NP es xs ∧ s.heap.DictOfH (nestedKind X.prog X.w) a xs := by
  have ob : ObjOk X.prog X.w H s.heap a (nestO X.w a es) := rd_of I.hok e
  obtain ⟨⟨z, hd, xs, np, o, en, ep, h1, h2, h3, h4, h5⟩, _⟩ := ob
  refine ⟨z, hd, xs, np, o, en, ep, h1, h2, h3, h4, fun x hx => ?_, h5⟩
  obtain ⟨i, hi⟩ := List.getElem?_of_mem hx
  obtain ⟨q, hq, e1, e2, _⟩ := paired_get? np hi
  have k1 : (es.map fun e => some e.1)[i]? = some (some q.1) := by rw [List.getElem?_map, hq]; rfl
  have k2 : (es.map fun e => V.ref e.2.1)[i]? = some (.ref q.2.1) := by rw [List.getElem?_map, hq]; rfl
  obtain ⟨w, hw, rw'⟩ := n.ks.get' k2
  rw [n.keys, List.getElem?_map] at k1
  rw [List.getElem?_map] at hw
  cases hp : ws[i]? with
  | none => rw [hp] at hw; cases hw
  | some p =>
    rw [hp] at k1 hw
    have k3 : keyN p.1 = some q.1 := Option.some.inj k1
    have k4 : p.1 = w := Option.some.inj hw
    rw [← k4] at rw'
    have := nest_is I rw' k3 (u := .ref q.2.1) rfl
    rw [e1, e2] at this
    exact ⟨this, by rw [← e1]; exact n.dep q (List.mem_of_getElem? hq)⟩
theorem np_val {es : NE} {xs : List (NestedKey × Addr × Value)} (r : NP es xs) (k : NestedKey) : RelO (valE es k) ((atKey xs k).map (·.2)) := by
  unfold valE atKey
  induction r with
  | nil => trivial
  | @cons p q ps qs h t ih =>
    obtain ⟨e1, e2, e3⟩ := h
    by_cases e : p.1 = k
    · rw [List.find?_cons_of_pos (by simpa using e), List.find?_cons_of_pos (by rw [← e1]; simpa using e)]
      exact e3
    · rw [List.find?_cons_of_neg (by simpa using e), List.find?_cons_of_neg (by rw [← e1]; simpa using e)]
      exact ih
theorem np_put {es : NE} {xs : List (NestedKey × Addr × Value)} (r : NP es xs) (k : NestedKey) (b : Addr) {v : V} {u : Value} (q : RelV v u) : NP (putE es k b v) (storedH xs k b u) := by
  unfold putE storedH
  have e : (valE es k).isSome = (atKey xs k).isSome := by
    have := np_val r k
    rw [this.isSome_eq, Option.isSome_map]
  rw [e]
  split
  · rename_i hz
    clear e hz
    induction r with
    | nil => exact .nil
    | @cons p x ps qs h t ih =>
      rw [List.map_cons, List.map_cons]
      refine .cons ?_ ih
      obtain ⟨e1, e2, e3⟩ := h
      unfold putAt
      by_cases e : p.1 = k
      · rw [if_pos e, if_pos (by rw [← e1]; exact e)]; exact ⟨e1, e2, q⟩
      · rw [if_neg e, if_neg (by rw [← e1]; exact e)]; exact ⟨e1, e2, e3⟩
  · exact Paired.snoc r ⟨rfl, rfl, q⟩
theorem ok_val {es : NE} {ws : List (W × W)} {K : KW} (n : NestOk K H loc es ws) (k : NestedKey) : (valN ws k = none → valE es k = none) ∧ ∀ w, valN ws k = some w → ∃ v, valE es k = some v ∧ Rd K H loc v w := by
  have h1 := n.keys
  have h4 := n.vs
  clear n
  unfold valN valE
  induction es generalizing ws with
  | nil =>
    cases ws with
    | nil => exact ⟨fun _ => rfl, fun w h => (by cases h)⟩
    | cons _ _ => cases h1
  | cons e es ih =>
    cases ws with
    | nil => cases h1
    | cons p ws =>
      simp only [List.map_cons, List.cons.injEq] at h1 h4
      cases h4 with
      | cons r1 r2 =>
        by_cases he : e.1 = k
        · have hp : keyN p.1 = some k := by rw [← h1.1, he]
          rw [List.find?_cons_of_pos (by simpa using hp), List.find?_cons_of_pos (by simpa using he)]
          exact ⟨fun z => (by cases z), fun w z => (by cases z; exact ⟨_, rfl, r1⟩)⟩
        · have hp : ¬ keyN p.1 = some k := by rw [← h1.1]; simpa using he
          rw [List.find?_cons_of_neg (by simpa using hp), List.find?_cons_of_neg (by simpa using he)]
          exact ih h1.2 r2
theorem rds_map2 {K : KW} {es : NE} {ws : List (W × W)} {k : NestedKey} {v : V} {w : W} (r : Rd K H loc v w) (hk : es.map (fun e => some e.1) = ws.map (fun p => keyN p.1)) (h : Rds K H loc (es.map fun e => e.2.2) (ws.map (·.2))) :
    Rds K H loc ((es.map fun e => if e.1 = k then (e.1, e.2.1, v) else e).map fun e => e.2.2) ((ws.map fun p => if keyN p.1 = some k then (p.1, w) else p).map (·.2)) := by
  induction es generalizing ws with
  | nil =>
    cases ws with
    | nil => exact .nil
    | cons _ _ => cases hk
  | cons e es ih =>
    cases ws with
    | nil => cases hk
    | cons p ws =>
      simp only [List.map_cons, List.cons.injEq] at hk h ⊢
      cases h with
      | cons r1 r2 =>
        refine .cons ?_ (ih hk.2 r2)
        by_cases he : e.1 = k
        · rw [if_pos he, if_pos (by rw [← hk.1, he])]; exact r
        · rw [if_neg he, if_neg (by rw [← hk.1]; simpa using he)]; exact r1
theorem ok_put {K : KW} {es : NE} {ws : List (W × W)} {k : NestedKey} {b : Addr} {v : V} {x w : W} (n : NestOk K H loc es ws) (hx : keyN x = some k) (hd : k.depth ≤ 8) (rx : Rd K H loc (.ref b) x) (rv : Rd K H loc v w) : NestOk K H loc (putE es k b v) (putN ws k x w) := by
  have e : (valE es k).isSome = (valN ws k).isSome := by
    obtain ⟨a1, a2⟩ := ok_val n k
    cases h : valN ws k with
    | none => rw [a1 h]; rfl
    | some y => obtain ⟨v, hv, _⟩ := a2 y h; rw [hv]; rfl
  unfold putE putN
  rw [e]
  split
  · have e1 : (fun e : NestedKey × Addr × V => (if e.1 = k then (e.1, e.2.1, v) else e).1) = fun e => e.1 := by funext e; split <;> rfl
    have e2 : (fun e : NestedKey × Addr × V => (if e.1 = k then (e.1, e.2.1, v) else e).2.1) = fun e => e.2.1 := by funext e; split <;> rfl
    have e3 : (fun p : W × W => (if keyN p.1 = some k then (p.1, w) else p).1) = fun p => p.1 := by funext p; split <;> rfl
    refine ⟨?_, fun q hq => ?_, ?_, rds_map2 rv n.keys n.vs⟩
    · rw [List.map_map, List.map_map]
      have := n.keys
      refine Eq.trans (List.map_congr_left fun e _ => ?_) (this.trans (List.map_congr_left fun p _ => ?_))
      · exact congrArg some (congrFun e1 e)
      · exact congrArg keyN (congrFun e3 p).symm
    · obtain ⟨q0, hq0, rfl⟩ := List.mem_map.mp hq
      have := n.dep q0 hq0
      split <;> exact this
    · have := n.ks
      rw [List.map_map, List.map_map]
      rw [show ((fun e : NestedKey × Addr × V => V.ref e.2.1) ∘ fun e => if e.1 = k then (e.1, e.2.1, v) else e) = fun e => V.ref e.2.1 from funext fun e => congrArg V.ref (congrFun e2 e)]
      rw [show ((fun p : W × W => p.1) ∘ fun p => if keyN p.1 = some k then (p.1, w) else p) = fun p => p.1 from e3]
      exact this
  · refine ⟨?_, fun q hq => ?_, ?_, ?_⟩
    · rw [List.map_append, List.map_append, n.keys]
      simp only [List.map_cons, List.map_nil, hx]
    · rcases List.mem_append.mp hq with hq | hq
      · exact n.dep q hq
      · rw [List.mem_singleton] at hq; subst hq; exact hd
    · rw [List.map_append, List.map_append]
      exact n.ks.append (.cons rx .nil)
    · rw [List.map_append, List.map_append]
      exact n.vs.append (.cons rv .nil)
theorem putE_length (es : NE) (k : NestedKey) (b : Addr) (v : V) : (putE es k b v).length ≤ es.length + 1 := by
  unfold putE
  split <;> simp
theorem nest_new {P : Program} {w : World} {H' : Hp} {h' : Heap} {a : Addr} {es : NE} {xs : List (NestedKey × Addr × Value)} (z : es.length ≤ sizeLine) (hd : (a == sysModules) = false) (np : NP es xs) (dd : h'.DictOfH (nestedKind P w) a xs) : ObjOk P w H' h' a (nestO w a es) := by
  obtain ⟨o, en, ep, h1, h2, h3, h4, _, h5⟩ := dd
  exact ⟨⟨z, hd, xs, np, o, en, ep, h1, h2, h3, h4, h5⟩, ⟨o, h1⟩, fun g1 g2 ⟨z, hd, xs, np, o, en, ep, h1, h2, h3, h4, h5⟩ k => ⟨z, hd, xs, np, o, en, ep, k _ h1, h2, h3, h4, h5⟩⟩
end
end BF

set_option Elab.async false
set_option linter.all false
set_option autoImplicit false
set_option maxRecDepth 100000
/-! Dicts whose keys are nested tuples: the rules. -/
namespace BF
open PySem PySem.Spec
open PyProof.Rows L2
/-- what the dict at a holds at the key y -/
def NGet (K : KW) (H : Hp) (a : Addr) (y : V) (o : Option V) : Prop := ∃ loc es ws x k, L2.Rd H a (nestO K.wd a es) ∧ NestOk K H loc es ws ∧ Rd K H loc y x ∧ keyT x = some k ∧ o = valE es k
/-- a is such a dict -/
def NIs (K : KW) (H : Hp) (a : Addr) : Prop := ∃ loc es ws, L2.Rd H a (nestO K.wd a es) ∧ NestOk K H loc es ws
section
variable {X : Cx} {pins : List (Addr × Obj)} {σ : L2.St} {H : Hp} {s : Shared} {a : Addr} {y v d : V} {u r : Value} {o : Option V} {E : Value → Shared → Prop}
theorem nget_at (I : Inv X pins σ H s) (g : NGet X.KW H a y o) (ry : RelV y u) : ∃ b k xs, u = .ref b ∧ (nestedKind X.prog X.w).is s.heap k b ∧ (a == sysModules) = false ∧ s.heap.DictOfH (nestedKind X.prog X.w) a xs ∧ RelO o ((atKey xs k).map (·.2)) := by
  obtain ⟨loc, es, ws, x, k, h1, h2, h3, h4, rfl⟩ := g
  obtain ⟨b, _, rfl, hk⟩ := nest_key I h3 h4 ry
  obtain ⟨_, hd, xs, np, dd⟩ := nest_dict I h2 h1
  exact ⟨b, k, xs, rfl, hk, hd, dd, np_val np k⟩
theorem room_nest {A : Around} (hu : A.units + 64 < cLine) : (nestedKind X.prog X.w).room A.in1 := by
  show A.units + 1 + 8 < cLine
  omega
theorem n_getItem {Q : Value → Shared → Prop} (hu : X.A.units + 64 < cLine) (I : Inv X pins σ H s) (g : NGet X.KW H a y (some v)) (ry : RelV y u) (h : ∀ w' s', Inv X pins σ H s' → RelV v w' → Q w' s') :
    s.TypeIs (.ref a) "dict" ∧ wpAny (model X.prog X.w) X.A (getItem (.ref a) u) Q E s := by
  obtain ⟨b, k, xs, rfl, hk, hd, dd, ro⟩ := nget_at I g ry
  obtain ⟨w', hw, rw'⟩ := RelO.some_of ro
  obtain ⟨p, hp, hp2⟩ := Option.map_eq_some_iff.mp hw
  refine ⟨dd.typeIs, wpAny_getItem_heap (room_nest hu) hk dd hp ?_⟩
  rw [hp2]
  exact h w' _ (I.tok _) rw'
def rNIn (K : KW) : R2 := fun x z H Q => ∃ a o, z = .ref a ∧ NGet K H a x o ∧ Q (.bl o.isSome) H
def rNNotIn (K : KW) : R2 := fun x z H Q => ∃ a o, z = .ref a ∧ NGet K H a x o ∧ Q (.bl (!o.isSome)) H
theorem op_nin (hu : X.A.units + 64 < cLine) : OpR X (compareOp .In) (rNIn X.KW) := by
  intro pins s σ H x z v u Q I rx rz h
  obtain ⟨a, o, rfl, g, q⟩ := h
  cases (show u = Value.ref a from rz)
  obtain ⟨b, k, xs, rfl, hk, hd, dd, ro⟩ := nget_at I g rx
  refine wpAny_in_heap (room_nest hu) hk hd dd ⟨.bl o.isSome, H, I.tok _, ?_, q⟩
  have := ro.isSome_eq
  rw [Option.isSome_map] at this
  rw [this]
  rfl
theorem op_nnotin (hu : X.A.units + 64 < cLine) : OpR X (compareOp .NotIn) (rNNotIn X.KW) := by
  intro pins s σ H x z v u Q I rx rz h
  obtain ⟨a, o, rfl, g, q⟩ := h
  cases (show u = Value.ref a from rz)
  obtain ⟨b, k, xs, rfl, hk, hd, dd, ro⟩ := nget_at I g rx
  refine wpAny_notIn_heap (room_nest hu) hk hd dd ⟨.bl (!o.isSome), H, I.tok _, ?_, q⟩
  have := ro.isSome_eq
  rw [Option.isSome_map] at this
  rw [this]
  rfl
/-- a[y] = v -/
def rNPut (K : KW) : TSet := fun x y v H Q => ∃ a es k b ws loc z, x = .ref a ∧ y = .ref b ∧ H a = some (nestO K.wd a es) ∧ NestOk K H loc es ws ∧ Rd K H loc y z ∧ keyT z = some k ∧ es.length < sizeLine ∧ Q (upd H a (nestO K.wd a (putE es k b v)))
theorem o_nput (hu : X.A.units + 64 < cLine) : PSet X (rNPut X.KW) := by
  intro pins s σ H o i v ov iv u Q I ro ri rv h
  obtain ⟨a, es, k, b, ws, loc, z, rfl, rfl, e, n, rz, hz, hl, q⟩ := h
  cases (show ov = Value.ref a from ro)
  cases (show iv = Value.ref b from ri)
  obtain ⟨b', eb, eb2, hk⟩ := nest_key I rz hz (u := .ref b) rfl
  cases eb
  obtain ⟨hz2, hd, xs, np, dd⟩ := nest_dict I n (.inl e)
  have hlx : xs.length ≤ sizeLine := by rw [← Paired.length np]; exact hz2
  refine wpAny_setItem_heap (hsz := hlx) (room_nest hu) hk dd fun h' dd' hs => ⟨_, ?_, q⟩
  have hl2 : (putE es k b v).length ≤ sizeLine := by have := putE_length es k b v; omega
  have he : ∃ q, h'.get? a = some q := let ⟨q, _, _, hq, _⟩ := dd'; ⟨q, hq⟩
  exact d_write I (by rw [e]; exact True.intro) hs he (nest_new hl2 hd (np_put np k b rv) dd')
/-- a.get(y, d) -/
theorem n_get2 {Q : Value → Shared → Prop} (hu : X.A.units + 64 < cLine) (I : Inv X pins σ H s) (g : NGet X.KW H a y o) (ry : RelV y u) (rd : RelV d r) (h : ∀ w' s', Inv X pins σ H s' → RelV (o.getD d) w' → Q w' s') :
    wpAny (model X.prog X.w) X.A (call (.builtin "dict.get") [.ref a, u, r]) Q E s := by
  obtain ⟨b, k, xs, rfl, hk, hd, dd, ro⟩ := nget_at I g ry
  exact call_meetsIn PySem.F.slot_dict_get dd.typeIs PySem.F.entry_dict_get (PySem.F.args_dict_get_3 _ _ _) (meetsH_dict_get_default (nestedKind X.prog X.w) a b hd r) ⟨room_nest hu, k, xs, hk, dd, h _ _ (I.tok _) (ro.getD rd)⟩
theorem n_get1 {Q : Value → Shared → Prop} (hu : X.A.units + 64 < cLine) (I : Inv X pins σ H s) (g : NGet X.KW H a y o) (ry : RelV y u) (h : ∀ w' s', Inv X pins σ H s' → RelV (o.getD .non) w' → Q w' s') :
    wpAny (model X.prog X.w) X.A (call (.builtin "dict.get") [.ref a, u]) Q E s := by
  obtain ⟨b, k, xs, rfl, hk, hd, dd, ro⟩ := nget_at I g ry
  exact call_meetsIn PySem.F.slot_dict_get dd.typeIs PySem.F.entry_dict_get (PySem.F.args_dict_get_2 _ _) (meetsH_dict_get (nestedKind X.prog X.w) a b hd) ⟨room_nest hu, k, xs, hk, dd, h _ _ (I.tok _) (ro.getD rfl)⟩
theorem nis_at (I : Inv X pins σ H s) (d : NIs X.KW H a) : s.TypeIs (.ref a) "dict" ∧ (∀ b, Value.ref a = .ref b → ∃ ob, s.heap.get? b = some ob ∧ ob.dict = none) := by
  obtain ⟨loc, es, ws, h1, h2⟩ := d
  obtain ⟨_, hd, xs, np, dd⟩ := nest_dict I h2 h1
  refine ⟨dd.typeIs, fun b q => ?_⟩
  cases q
  obtain ⟨ob, _, _, g1, g2, _⟩ := dd
  exact ⟨ob, g1, g2.2.1⟩
end

/-! ### the plain operations -/
/-- the entries of such a dict, walked or not -/
def nestAt (M : Mem) (n : Nat) : Option (List (W × W)) := match M[n]? with
  | some (.dT .nest ws) => some ws
  | some (.dT .lockN ws) => some ws
  | _ => none
def gGetN (M : Mem) (x y : W) : Option (W × Mem) := match x, keyT y with
  | .ref n, some k => ((nestAt M n).bind fun ws => valN ws k).map fun w => (w, M)
  | _, _ => none
def gInN (M : Mem) (x y : W) : Option (W × Mem) := match y, keyT x with
  | .ref n, some k => (nestAt M n).map fun ws => (.bl (valN ws k).isSome, M)
  | _, _ => none
def gNotInN (M : Mem) (x y : W) : Option (W × Mem) := match y, keyT x with
  | .ref n, some k => (nestAt M n).map fun ws => (.bl (!(valN ws k).isSome), M)
  | _, _ => none
def putNM (M : Mem) (o x w : W) : Option Mem := match o, keyT x with
  | .ref n, some k => match M[n]? with
    | some (.dT .nest ws) => if ws.length < 16777216 then some (M.set n (.dT .nest (putN ws k x w))) else none
    | _ => none
  | _, _ => none
/-- o.get(k, d) -/
def eGetN2 (o k d : CE) : CE := fun σ M => (o σ M).bind fun p => match p.1 with
  | .ref n => if (nestAt p.2 n).isSome = true then (k σ p.2).bind fun q => (d σ q.2).bind fun r => match keyT q.1 with
    | some kk => (nestAt r.2 n).map fun ws => ((valN ws kk).getD r.1, r.2)
    | none => none
    else none
  | _ => none
/-- o.get(k) -/
def eGetN1 (o k : CE) : CE := fun σ M => (o σ M).bind fun p => match p.1 with
  | .ref n => if (nestAt p.2 n).isSome = true then (k σ p.2).bind fun q => match keyT q.1 with
    | some kk => (nestAt q.2 n).map fun ws => ((valN ws kk).getD .non, q.2)
    | none => none
    else none
  | _ => none
def eDictN : CE := fun _ M => some (.ref M.length, M ++ [.dT .nest []])
@[simp] theorem eDictN_eq {σ : Sl} {M : Mem} : eDictN σ M = some (.ref M.length, M ++ [.dT .nest []]) := nr rfl
/-- {k: v} -/
def eNDisp (k v : CE) : CE := fun σ M => (k σ (M ++ [.dT .nest []])).bind fun p => (v σ p.2).bind fun q => match keyT p.1 with
  | some kk => match q.2[M.length]? with
    | some (.dT .nest []) => some (.ref M.length, q.2.set M.length (.dT .nest [(p.1, q.1)]))
    | _ => none
  | none => none
section
variable {K : KW} {H : Hp} {loc : List Addr} {M : Mem}
theorem nestAt_ok (s : Store K H loc M) {n : Nat} {a : Addr} {ws : List (W × W)} (ha : loc[n]? = some a) (h : nestAt M n = some ws) : ∃ es, L2.Rd H a (nestO K.wd a es) ∧ NestOk K H loc es ws := by
  unfold nestAt at h
  split at h
  · rename_i ws' hw
    cases h
    obtain ⟨es, h1, h2⟩ := s.ok n a _ ha hw
    exact ⟨es, .inl h1, h2⟩
  · rename_i ws' hw
    cases h
    obtain ⟨o, es, h1, h2⟩ := s.ok n a _ ha hw
    exact ⟨es, .inr ⟨o, h1⟩, h2⟩
  · cases h
theorem nget_of (s : Store K H loc M) {n : Nat} {a : Addr} {ws : List (W × W)} {y : V} {x : W} {k : NestedKey} (ha : loc[n]? = some a) (h : nestAt M n = some ws) (ry : Rd K H loc y x) (hk : keyT x = some k) :
    ∃ o, NGet K H a y o ∧ (valN ws k = none → o = none) ∧ ∀ w, valN ws k = some w → ∃ v, o = some v ∧ Rd K H loc v w := by
  obtain ⟨es, h1, h2⟩ := nestAt_ok s ha h
  obtain ⟨h3, h4⟩ := ok_val h2 k
  exact ⟨valE es k, ⟨loc, es, ws, x, k, h1, h2, ry, hk, rfl⟩, h3, h4⟩
theorem nget_isSome {o : Option V} {w : Option W} (h1 : w = none → o = none) (h2 : ∀ x, w = some x → ∃ v, o = some v ∧ Rd K H loc v x) : o.isSome = w.isSome := by
  cases w with
  | none => rw [h1 rfl]; rfl
  | some x => obtain ⟨v, rfl, _⟩ := h2 x rfl; rfl
theorem nget_getD {o : Option V} {w : Option W} {d : V} {e : W} (h1 : w = none → o = none) (h2 : ∀ x, w = some x → ∃ v, o = some v ∧ Rd K H loc v x) (h3 : Rd K H loc d e) : Rd K H loc (o.getD d) (w.getD e) := by
  cases w with
  | none => rw [h1 rfl]; exact h3
  | some x => obtain ⟨v, rfl, r⟩ := h2 x rfl; exact r
theorem l_inN : Lift2 K (rNIn K) gInN := by
  intro H loc M x y v u w M' Q s rx ry e aft
  unfold gInN at e
  split at e
  · rename_i n k hk
    obtain ⟨ws, hw, e⟩ := Option.map_eq_some_iff.mp e
    cases e
    cases ry with
    | ref ha =>
      obtain ⟨o, g, g1, g2⟩ := nget_of s ha hw rx hk
      refine ⟨_, o, rfl, g, ?_⟩
      rw [nget_isSome g1 g2]
      exact aft _ H loc s (.bl _) .refl (List.prefix_refl _)
  · cases e
theorem l_notInN : Lift2 K (rNNotIn K) gNotInN := by
  intro H loc M x y v u w M' Q s rx ry e aft
  unfold gNotInN at e
  split at e
  · rename_i n k hk
    obtain ⟨ws, hw, e⟩ := Option.map_eq_some_iff.mp e
    cases e
    cases ry with
    | ref ha =>
      obtain ⟨o, g, g1, g2⟩ := nget_of s ha hw rx hk
      refine ⟨_, o, rfl, g, ?_⟩
      rw [nget_isSome g1 g2]
      exact aft _ H loc s (.bl _) .refl (List.prefix_refl _)
  · cases e
theorem p_nput : LiftP K (rNPut K) putNM := by
  intro H loc M x y z o i v M' Q s rx ry rz e h
  unfold putNM at e
  split at e
  · rename_i n k hk
    split at e
    · rename_i ws hw
      split at e
      · rename_i hl
        cases e
        cases rx with
        | @ref a _ ha =>
          obtain ⟨es, h1, h2⟩ := s.ok n a _ ha hw
          obtain ⟨kn, kd, us, rfl⟩ := keyT_some hk
          cases ry with
          | @tup b xs _ sq rs =>
            have hle : es.length = ws.length := by
              have := congrArg List.length h2.keys
              simpa using this
            refine ⟨a, es, k, b, ws, loc, .tup us, rfl, rfl, h1, h2, .tup sq rs, hk, by rw [hle]; exact hl, ?_⟩
            have ex : Ext K H (upd H a (nestO K.wd a (putE es k b v))) := .upd h1 trivial
            refine h _ loc (s.put ha hw rfl rfl ⟨_, upd_same, (ok_put h2 kn kd (.tup sq rs) rz).mono ex (List.prefix_refl _)⟩) ex (List.prefix_refl _)
      · cases e
    · cases e
  · cases e
end
section
variable {X : Cx} {a b c : Expr} {ca cb cc : CE} {pos apos cpos : Pos}
theorem r_getN (hu : X.A.units + 64 < cLine) (ha : EV X a ca) (hb : EV X b cb) (hs : NoSl b) : EV X (.Subscript a b pos) (e2 gGetN ca cb) := ⟨fun pins s σV H Q I ⟨loc, σ, M, w, M', rel, e, aft⟩ => by
  obtain ⟨p, hp, e⟩ := bind_some e
  obtain ⟨q, hq, e⟩ := bind_some e
  refine subD_of PySem.F.slot_dict_getitem.lookup hs (thn (ha.run pins s σV H (fun x H1 => TC X.KW cb σV H1 fun y H2 => ∃ a v, x = .ref a ∧ NGet X.KW H2 a y (some v) ∧ Q v H2) I ?_) fun u s1 ⟨x, H1, I1, rx, q1⟩ => thn (hb.run pins s1 σV H1 _ I1 q1) fun iv s2 ⟨y, H2, I2, ry, a, v, ex, g, q2⟩ => ?_)
  · refine run1 rel hp fun v H1 loc1 rel1 rd1 ex1 l1 => run1 rel1 hq fun u H2 loc2 rel2 rd2 ex2 l2 => ?_
    unfold gGetN at e
    split at e
    · rename_i n k hn hk
      obtain ⟨z, hz, e⟩ := Option.map_eq_some_iff.mp e
      obtain ⟨ws, hw, hz⟩ := bind_some hz
      cases e
      rw [hn] at rd1
      cases rd1 with
      | ref hl =>
        obtain ⟨o, g, g1, g2⟩ := nget_of rel2.st (pre_get l2 hl) hw rd2 hk
        obtain ⟨v, rfl, rv⟩ := g2 _ hz
        exact ⟨_, v, rfl, g, aft _ H2 loc2 rel2.st rv (ex1.trans ex2) (l1.trans l2)⟩
    · cases e
  · subst ex
    obtain rfl : u = Value.ref a := rx
    exact n_getItem hu I2 g ry fun w' s3 I3 rw' => ⟨v, H2, I3, rw', q2⟩⟩
theorem r_getN2 (hu : X.A.units + 64 < cLine) (ha : EV X a ca) (hb : EV X b cb) (hc : EV X c cc) (m : M2 X a "get" apos b c cpos := by exact ⟨by rfl, by rfl, by rfl, by rfl⟩) : EV X (.Call (.Attribute a "get" apos) [b, c] [] cpos) (eGetN2 ca cb cc) := ⟨fun pins s σV H Q I ⟨loc, σ, M, w, M', rel, e, aft⟩ => by
  obtain ⟨p, hp, e⟩ := bind_some e
  refine wpAny_Call_method m.base m.few m.line PySem.F.plainAttrs_dict PySem.F.slot_dict_get PySem.F.type_dict_get (thn (ha.run pins s σV H (fun x H1 => ∃ a, x = .ref a ∧ NIs X.KW H1 a ∧ TC X.KW cb σV H1 fun y H2 => TC X.KW cc σV H2 fun z H3 => ∃ o, NGet X.KW H3 a y o ∧ Q (o.getD z) H3) I ?_) fun u s1 ⟨x, H1, I1, rx, a, ex, d, q1⟩ => ?_)
  · refine run1 rel hp fun v H1 loc1 rel1 rd1 ex1 l1 => ?_
    split at e
    · rename_i n hn
      split at e
      · rename_i hz
        obtain ⟨ws0, hw0⟩ := Option.isSome_iff_exists.mp hz
        rw [hn] at rd1
        cases rd1 with
        | @ref ad _ hl =>
          obtain ⟨es, h1, h2⟩ := nestAt_ok rel1.st hl hw0
          obtain ⟨q, hq, e⟩ := bind_some e
          obtain ⟨r, hr, e⟩ := bind_some e
          refine ⟨ad, rfl, ⟨loc1, es, ws0, h1, h2⟩, run1 rel1 hq fun y H2 loc2 rel2 rd2 ex2 l2 => run1 rel2 hr fun z H3 loc3 rel3 rd3 ex3 l3 => ?_⟩
          split at e
          · rename_i kk hk
            obtain ⟨ws, hw, e⟩ := Option.map_eq_some_iff.mp e
            cases e
            obtain ⟨o, g, g1, g2⟩ := nget_of rel3.st (pre_get l3 (pre_get l2 hl)) hw (rd2.mono ex3 l3) hk
            exact ⟨o, g, aft _ H3 loc3 rel3.st (nget_getD g1 g2 rd3) ((ex1.trans ex2).trans ex3) ((l1.trans l2).trans l3)⟩
          · cases e
      · cases e
    · cases e
  · subst ex
    obtain rfl : u = Value.ref a := rx
    obtain ⟨t1, t2⟩ := nis_at I1 d
    refine ⟨t1, t2, ?_⟩
    rw [m.trees]
    refine Calls.callWith_builtin rfl (Calls.evalArgs_plain (Calls.spliced_cons (thn (hb.run pins s1 σV H1 _ I1 q1) fun iv s2 ⟨y, H2, I2, ry, q2⟩ =>
      Calls.spliced_cons (thn (hc.run pins s2 σV H2 _ I2 q2) fun fv s3 ⟨z, H3, I3, rz, ov, g, q3⟩ => Calls.spliced_nil ?_))))
    exact n_get2 hu I3 g ry rz fun w' s4 I4 rw' => ⟨_, H3, I4, rw', q3⟩⟩
theorem r_getN1 (hu : X.A.units + 64 < cLine) (ha : EV X a ca) (hb : EV X b cb) (m : M1 X a "get" apos b cpos := by exact ⟨by rfl, by rfl, by rfl, by rfl⟩) : EV X (.Call (.Attribute a "get" apos) [b] [] cpos) (eGetN1 ca cb) := ⟨fun pins s σV H Q I ⟨loc, σ, M, w, M', rel, e, aft⟩ => by
  obtain ⟨p, hp, e⟩ := bind_some e
  refine wpAny_Call_method m.base m.few m.line PySem.F.plainAttrs_dict PySem.F.slot_dict_get PySem.F.type_dict_get (thn (ha.run pins s σV H (fun x H1 => ∃ a, x = .ref a ∧ NIs X.KW H1 a ∧ TC X.KW cb σV H1 fun y H2 => ∃ o, NGet X.KW H2 a y o ∧ Q (o.getD .non) H2) I ?_) fun u s1 ⟨x, H1, I1, rx, a, ex, d, q1⟩ => ?_)
  · refine run1 rel hp fun v H1 loc1 rel1 rd1 ex1 l1 => ?_
    split at e
    · rename_i n hn
      split at e
      · rename_i hz
        obtain ⟨ws0, hw0⟩ := Option.isSome_iff_exists.mp hz
        rw [hn] at rd1
        cases rd1 with
        | @ref ad _ hl =>
          obtain ⟨es, h1, h2⟩ := nestAt_ok rel1.st hl hw0
          obtain ⟨q, hq, e⟩ := bind_some e
          refine ⟨ad, rfl, ⟨loc1, es, ws0, h1, h2⟩, run1 rel1 hq fun y H2 loc2 rel2 rd2 ex2 l2 => ?_⟩
          split at e
          · rename_i kk hk
            obtain ⟨ws, hw, e⟩ := Option.map_eq_some_iff.mp e
            cases e
            obtain ⟨o, g, g1, g2⟩ := nget_of rel2.st (pre_get l2 hl) hw rd2 hk
            exact ⟨o, g, aft _ H2 loc2 rel2.st (nget_getD g1 g2 .non) (ex1.trans ex2) (l1.trans l2)⟩
          · cases e
      · cases e
    · cases e
  · subst ex
    obtain rfl : u = Value.ref a := rx
    obtain ⟨t1, t2⟩ := nis_at I1 d
    refine ⟨t1, t2, ?_⟩
    rw [m.trees]
    refine Calls.callWith_builtin rfl (Calls.evalArgs_plain (Calls.spliced_cons (thn (hb.run pins s1 σV H1 _ I1 q1) fun iv s2 ⟨y, H2, I2, ry, ov, g, q2⟩ => Calls.spliced_nil ?_)))
    exact n_get1 hu I2 g ry fun w' s4 I4 rw' => ⟨_, H2, I4, rw', q2⟩⟩
theorem nest_empty (h : Heap) {w : World} {H' : Hp} {P : Program} (hb : sysModules < h.objs.size) : ObjOk P w H' (h.push { cls := .type "dict", data := .dict #[] }) h.objs.size (nestO w h.objs.size []) :=
  nest_new (Nat.zero_le _) (beq_eq_false_iff_ne.mpr (Ne.symm (Nat.ne_of_lt hb))) .nil (Heap.DictOfH.new h)
theorem new_nest {K : KW} {H : Hp} {loc : List Addr} {M : Mem} {q : Addr} (s : Store K H loc M) (hq : H q = none) : Store K (upd H q (nestO K.wd q [])) (loc ++ [q]) (M ++ [.dT .nest []]) :=
  s.new hq ⟨[], upd_same, ⟨rfl, fun _ h => (by cases h), .nil, .nil⟩⟩
theorem r_dictN : EV X (.Dict [] [] pos) eDictN := ⟨fun pins s σV H Q I ⟨loc, σ, M, w, M', rel, e, aft⟩ => by
  cases e
  have hn := I.hok.fresh (Nat.le_refl s.heap.objs.size)
  refine wpAny_Dict_empty ⟨.ref s.heap.objs.size, _, I.laid (a := s.heap.objs.size) (o := nestO X.w s.heap.objs.size []) (t' := s.toks) (fun _ _ q => Heap.get?_push_of_some _ q) (Nat.le_refl _) (nest_empty s.heap I.big), rfl, ?_⟩
  exact aft _ _ (loc ++ [s.heap.objs.size]) (new_nest rel.st hn) (.ref (last_get rel.st.len.symm)) (.new hn) (List.prefix_append _ _)⟩
theorem r_ndisp (hu : X.A.units + 64 < cLine) (ha : EV X a ca) (hb : EV X b cb) (hz : (evalEachOpt [some a] X.env).zip ((evalEach [b] X.env).map fun v => do let x ← v; standAt pos; pure x) = (pairTrees [some a] [b] X.env pos).map fun p => (some p.1, p.2) := by rfl) :
    EV X (.Dict [some a] [b] pos) (eNDisp ca cb) := ⟨fun pins s σV H Q I ⟨loc, σ, M, w, M', rel, e, aft⟩ => by
  have hn := I.hok.fresh (Nat.le_refl s.heap.objs.size)
  have I1 := I.laid (a := s.heap.objs.size) (o := nestO X.w s.heap.objs.size []) (h' := s.heap.push { cls := .type "dict", data := .dict #[] }) (t' := s.toks) (fun _ _ q => Heap.get?_push_of_some _ q) (Nat.le_refl _) (nest_empty s.heap I.big)
  have rel1 := rel.move (new_nest rel.st hn) (.new hn) (List.prefix_append _ [s.heap.objs.size])
  have hlast : (loc ++ [s.heap.objs.size])[M.length]? = some s.heap.objs.size := last_get rel.st.len.symm
  obtain ⟨p, hp, e⟩ := bind_some e
  obtain ⟨q, hq, e⟩ := bind_some e
  split at e
  · rename_i kk hk
    split at e
    · rename_i hM
      cases e
      rw [arm_eval_Dict, hz, dictDisplay_pairs _ (by intro z; cases z) (by show 1 < 17; decide)]
      refine wpAny_bind (wpAny_standAt (wpAny_bind (wpAny_subDictH (knd := nestedKind X.prog X.w) (show X.A.units + 8 < cLine by omega) (by show 1 ≤ 15; decide) ?_)))
      refine pairTrees_cons_walk (thn (ha.run pins _ σV _ (fun x H1 => TC X.KW cb σV H1 fun y H2 => ∃ loc2 b, Store X.KW H2 loc2 q.2 ∧ loc2[M.length]? = some s.heap.objs.size ∧ x = .ref b ∧ Rd X.KW H2 loc2 x p.1 ∧ Rd X.KW H2 loc2 y q.1 ∧ Ext X.KW H H2 ∧ loc <+: loc2) I1 ?_) fun u s1 ⟨x, H1, I1', rx, q1⟩ => thn (hb.run pins s1 σV H1 _ I1' q1) fun w2 s2 ⟨y, H2, I2, ry, q2⟩ => pairTrees_nil_walk ?_)
      · refine run1 rel1 hp fun v H1 loc1 rel2 rd1 ex1 l1 => run1 rel2 hq fun u H2 loc2 rel3 rd2 ex2 l2 => ?_
        obtain ⟨_, _, us, hus⟩ := keyT_some hk
        have rd1' := rd1.mono ex2 l2
        rw [hus] at rd1 rd1'
        cases rd1 with
        | @tup b xs _ sq rs =>
          refine ⟨loc2, b, rel3.st, pre_get (l1.trans l2) hlast, rfl, by rw [hus]; exact rd1', rd2, (Ext.new hn).trans (ex1.trans ex2), (List.prefix_append _ _).trans (l1.trans l2)⟩
      · obtain ⟨loc2, b, st2, hl2, rfl, rd1, rd2, exA, lA⟩ := q2
        cases (show u = Value.ref b from rx)
        obtain ⟨es, h1, h2⟩ := st2.ok _ _ _ hl2 hM
        have es0 : es = [] := by
          have := congrArg List.length h2.keys
          simpa using this
        subst es0
        obtain ⟨_, hd, xs, np, dd⟩ := nest_dict I2 h2 (.inl h1)
        cases np
        obtain ⟨b', eb, eb2, hki⟩ := nest_key I2 rd1 hk (u := .ref b) rfl
        cases eb
        refine ⟨[(kk, b, w2)], ⟨rfl, rfl, hki, trivial⟩, dd, fun h' tk dd' hs => wpAny_pure ⟨.ref s.heap.objs.size, upd H2 s.heap.objs.size (nestO X.w s.heap.objs.size [(kk, b, y)]), ?_, rfl, ?_⟩⟩
        · have he : ∃ q, h'.get? s.heap.objs.size = some q := let ⟨q, _, _, hq, _⟩ := dd'; ⟨q, hq⟩
          refine d_write I2 (by rw [h1]; exact True.intro) hs he (nest_new (by show 1 ≤ sizeLine; decide) hd (.cons ⟨rfl, rfl, ry⟩ .nil) dd')
        · obtain ⟨kn, kd, us, hus⟩ := keyT_some hk
          have ex : Ext X.KW H2 (upd H2 s.heap.objs.size (nestO X.w s.heap.objs.size [(kk, b, y)])) := .upd h1 trivial
          have ok := (ok_put h2 kn kd rd1 rd2).mono ex (List.prefix_refl _)
          exact aft _ _ loc2 (st2.put hl2 hM rfl rfl ⟨[(kk, b, y)], upd_same, ok⟩) (.ref hl2) (exA.trans ex) lA
    · cases e
  · cases e⟩
end
end BF

set_option Elab.async false
set_option linter.all false
set_option autoImplicit false
set_option maxRecDepth 100000
/-! Walks of dicts; d[k] = v with numbers and texts as keys; sorted(d). -/
namespace BF
open PySem PySem.Spec
open PyProof.Rows L2
/-- a dict is locked, and open again -/
def lkO : MO → Option MO
  | .dK ws => some (.dT .lockF ws)
  | .dT .nest ws => some (.dT .lockN ws)
  | _ => none
def unO : MO → Option MO
  | .dT .lockF ws => some (.dK ws)
  | .dT .lockN ws => some (.dT .nest ws)
  | _ => none
def unM (n : Nat) (M : Mem) : Option Mem := (M[n]?.bind unO).map fun mo => M.set n mo
/-- the memory with the dict locked that c tells, and its id -/
def lkM (c : CE) (σ : Sl) (M : Mem) : Option (Nat × Mem) := match c σ M with
  | some (.ref n, _) => (M[n]?.bind lkO).map fun mo => (n, M.set n mo)
  | _ => none
def eLk (c e : CE) : CE := fun σ M => (lkM c σ M).bind fun l => (e σ l.2).bind fun p => (unM l.1 p.2).map fun M' => (p.1, M')
def sLk (c : CE) (b : CS) : CS := fun σ M => (lkM c σ M).bind fun l => (b σ l.2).bind fun o => match o with
  | .nx σ' M' => (unM l.1 M').map fun M2 => .nx σ' M2
  | .rt w M' => (unM l.1 M').map fun M2 => .rt w M2
  | .bk σ' M' => (unM l.1 M').map fun M2 => .bk σ' M2
  | .ct σ' M' => (unM l.1 M').map fun M2 => .ct σ' M2
/-- the keys of a locked dict -/
def iKeyF (c : CE) : CI := fun σ M => (c σ M).bind fun p => match p.1 with
  | .ref n => match p.2[n]? with
    | some (.dT .lockF ws) => some (ws.map (·.1), gdT, p.2)
    | _ => none
  | _ => none
def iKeyN (c : CE) : CI := fun σ M => (c σ M).bind fun p => match p.1 with
  | .ref n => match p.2[n]? with
    | some (.dT .lockN ws) => some (ws.map (·.1), gdT, p.2)
    | _ => none
  | _ => none
section
variable {K : KW} {H : Hp} {loc : List Addr} {M : Mem} {n : Nat} {a : Addr} {mo mo' : MO}
theorem lk_spec (h : MOk K H loc a mo) (hl : lkO mo = some mo') : ∃ u, H a = some u ∧ Mut (some u) ∧ isMut mo = true ∧ (∀ od, MOk K (upd H a (.frz od u)) loc a mo') := by
  cases mo with
  | lst _ => cases hl
  | ro _ => cases hl
  | dK ws =>
    cases hl
    obtain ⟨kvs, h1, h2, h3, h4⟩ := h
    exact ⟨_, h1, trivial, rfl, fun od => ⟨od, kvs, upd_same, h2, h3, h4.mono (.upd h1 trivial) (List.prefix_refl _)⟩⟩
  | dT m ws =>
    cases m with
    | nest =>
      cases hl
      obtain ⟨es, h1, h2⟩ := h
      exact ⟨_, h1, trivial, rfl, fun od => ⟨od, es, upd_same, h2.mono (.upd h1 trivial) (List.prefix_refl _)⟩⟩
    | lockF => cases hl
    | lockN => cases hl
theorem ext_unlock {o : Obj} {u : HO} (h : H a = some (.frz o u)) (m : Mut (some u)) : ∀ b xs, SqT K H b xs → SqT K (upd H a u) b xs := fun b xs q => by
  rcases q with (q | ⟨v, q⟩) | q
  · refine .inl (.inl ?_)
    rw [upd_ne fun e => ?_]
    · exact q
    · subst e; rw [h] at q; cases q
  · refine .inl (.inr ⟨v, ?_⟩)
    rw [upd_ne fun e => ?_]
    · exact q
    · subst e; rw [h] at q; cases q; exact m
  · exact .inr q
mutual
theorem Rd.moveT {H' : Hp} (e : ∀ b xs, SqT K H b xs → SqT K H' b xs) : ∀ {v : V} {w : W}, Rd K H loc v w → Rd K H' loc v w
  | _, _, .non => .non
  | _, _, .bl b => .bl b
  | _, _, .int i => .int i
  | _, _, .str x h h2 => .str x h h2
  | _, _, .tup h r => .tup (e _ _ h) (Rds.moveT e r)
  | _, _, .ref h => .ref h
theorem Rds.moveT {H' : Hp} (e : ∀ b xs, SqT K H b xs → SqT K H' b xs) : ∀ {vs : List V} {ws : List W}, Rds K H loc vs ws → Rds K H' loc vs ws
  | _, _, .nil => .nil
  | _, _, .cons r rs => .cons (Rd.moveT e r) (Rds.moveT e rs)
end
theorem NestOk.moveT {H' : Hp} {es : NE} {ws : List (W × W)} (e : ∀ b xs, SqT K H b xs → SqT K H' b xs) (h : NestOk K H loc es ws) : NestOk K H' loc es ws := ⟨h.keys, h.dep, h.ks.moveT e, h.vs.moveT e⟩
theorem FlatOk.moveT {H' : Hp} {es : List (Key × V)} {ws : List (W × W)} (e : ∀ b xs, SqT K H b xs → SqT K H' b xs) (h : FlatOk K H loc es ws) : FlatOk K H' loc es ws := ⟨h.keys, h.ok, h.vs.moveT e⟩
/-- other things stand while a lock is taken off -/
theorem MOk.unlock {b : Addr} {o : Obj} {u : HO} (h : H a = some (.frz o u)) (m : Mut (some u)) (hu : ∀ xs, u ≠ .lst xs) (hb : b ≠ a ∨ isOwn mo = false) (ok : MOk K H loc b mo) : MOk K (upd H a u) loc b mo := by
  have e := ext_unlock (K := K) h m
  cases mo with
  | lst ws =>
    obtain ⟨xs, h1, h2⟩ := ok
    have hb : b ≠ a := hb.elim id fun z => (by cases z)
    exact ⟨xs, by rw [upd_ne hb]; exact h1, h2.moveT e⟩
  | ro ws =>
    obtain ⟨xs, h1, h2⟩ := ok
    refine ⟨xs, ?_, h2.moveT e⟩
    rcases h1 with ⟨v, h1⟩ | h1
    · refine .inl ⟨v, ?_⟩
      rw [upd_ne fun z => ?_]
      · exact h1
      · subst z; rw [h] at h1; cases h1; exact hu _ rfl
    · exact .inr h1
  | dK ws =>
    obtain ⟨kvs, h1, h2, h3, h4⟩ := ok
    have hb : b ≠ a := hb.elim id fun z => (by cases z)
    exact ⟨kvs, by rw [upd_ne hb]; exact h1, h2, h3, h4.moveT e⟩
  | dT q ws =>
    have hc : b ≠ a := hb.elim id fun z => (by cases z)
    cases q with
    | nest => obtain ⟨es, h1, h2⟩ := ok; exact ⟨es, by rw [upd_ne hc]; exact h1, h2.moveT e⟩
    | lockF => obtain ⟨o, es, h1, h2⟩ := ok; exact ⟨o, es, by rw [upd_ne hc]; exact h1, h2.moveT e⟩
    | lockN => obtain ⟨o, es, h1, h2⟩ := ok; exact ⟨o, es, by rw [upd_ne hc]; exact h1, h2.moveT e⟩
theorem un_spec {o : Obj} {u : HO} (h : H a = some (.frz o u)) (m : Mut (some u)) (ok : MOk K H loc a mo) (hl : unO mo = some mo') : MOk K (upd H a u) loc a mo' := by
  have e := ext_unlock (K := K) h m
  cases mo with
  | lst _ => cases hl
  | ro _ => cases hl
  | dK _ => cases hl
  | dT q ws =>
    cases q with
    | nest => cases hl
    | lockF =>
      cases hl
      obtain ⟨o', kvs, h1, h2⟩ := ok
      rw [h] at h1; cases h1
      exact ⟨kvs, upd_same, h2.keys, h2.ok, h2.vs.moveT e⟩
    | lockN =>
      cases hl
      obtain ⟨o', es, h1, h2⟩ := ok
      rw [h] at h1; cases h1
      exact ⟨es, upd_same, h2.moveT e⟩
theorem un_own (hl : unO mo = some mo') : isOwn mo = true ∧ isOwn mo' = true := by
  cases mo with
  | lst _ => cases hl
  | ro _ => cases hl
  | dK _ => cases hl
  | dT q ws => cases q <;> cases hl <;> exact ⟨rfl, rfl⟩
theorem Store.unlock {M' : Mem} {o : Obj} {u : HO} (s : Store K H loc M) (ha : loc[n]? = some a) (h : H a = some (.frz o u)) (m : Mut (some u)) (hu : ∀ xs, u ≠ .lst xs) (e : unM n M = some M') : Store K (upd H a u) loc M' := by
  obtain ⟨mo', h1, rfl⟩ := Option.map_eq_some_iff.mp e
  obtain ⟨mo, h2, h3⟩ := bind_some h1
  obtain ⟨o1, o2⟩ := un_own h3
  have hn : n < M.length := (List.getElem?_eq_some_iff.mp h2).1
  refine ⟨by simp [s.len], fun i b q g1 g2 => ?_, fun i j b q r g1 g2 g3 g4 z1 z2 => ?_⟩
  · by_cases hi : n = i
    · subst hi
      rw [ha] at g1; cases g1
      rw [List.getElem?_set_self hn] at g2; cases g2
      exact un_spec h m (s.ok n a mo ha h2) h3
    · rw [List.getElem?_set_ne hi] at g2
      refine MOk.unlock h m hu ?_ (s.ok i b q g1 g2)
      by_cases hb : b = a
      · subst hb
        right
        cases z : isOwn q with
        | false => rfl
        | true => exact absurd (s.apart n i b mo q ha g1 h2 g2 o1 z) hi
      · exact .inl hb
  · have wt : ∀ {x : Nat} {y : MO}, (M.set n mo')[x]? = some y → isOwn y = true → ∃ y', M[x]? = some y' ∧ isOwn y' = true := fun {x y} q z => by
      by_cases hx : n = x
      · subst hx; exact ⟨mo, h2, o1⟩
      · rw [List.getElem?_set_ne hx] at q; exact ⟨y, q, z⟩
    obtain ⟨y1, w1, w2⟩ := wt g3 z1
    obtain ⟨y2, w3, w4⟩ := wt g4 z2
    exact s.apart i j b y1 y2 g1 g2 w1 w3 w2 w4
/-- what is taken: the store with the lock, and what comes of it -/
theorem Store.lock {c : CE} {σ : Sl} {l : Nat × Mem} (s : Store K H loc M) (e : lkM c σ M = some l) : ∃ a u, loc[l.1]? = some a ∧ H a = some u ∧ Mut (some u) ∧ (∀ xs, u ≠ .lst xs) ∧ ∀ od, Store K (upd H a (.frz od u)) loc l.2 ∧ Ext K H (upd H a (.frz od u)) := by
  unfold lkM at e
  split at e
  · rename_i n M0 hc
    obtain ⟨mo', h1, rfl⟩ := Option.map_eq_some_iff.mp e
    obtain ⟨mo, h2, h3⟩ := bind_some h1
    obtain ⟨a, ha, ok⟩ := s.at h2
    obtain ⟨u, hu, mu, mm, q⟩ := lk_spec ok h3
    refine ⟨a, u, ha, hu, mu, fun xs z => ?_, fun od => ⟨s.put0 ha h2 mm (q od), .upd hu mu⟩⟩
    subst z
    cases mo with
    | lst _ => cases h3
    | ro _ => cases h3
    | dK ws => obtain ⟨kvs, g1, _⟩ := ok; rw [hu] at g1; cases g1
    | dT m ws =>
      cases m with
      | nest => obtain ⟨es, g1, _⟩ := ok; rw [hu] at g1; cases g1
      | lockF => cases h3
      | lockN => cases h3
  · cases e
theorem ext_back {H' : Hp} {od : Obj} {u : HO} (hu : H a = some u) (mu : Mut (some u)) (ex : Ext K (upd H a (.frz od u)) H') : H' a = some (.frz od u) ∧ Ext K H (upd H' a u) := by
  have h1 : H' a = some (.frz od u) := ex.frz _ _ _ upd_same
  refine ⟨h1, fun b xs q => ext_unlock (K := K) h1 mu b xs (ex.tup _ _ ((Ext.upd hu mu).tup _ _ q)), fun b o v q => ?_⟩
  have hb : b ≠ a := fun z => by
    subst z
    rw [hu] at q; cases q; exact mu
  rw [upd_ne hb]
  exact ex.frz _ _ _ (by rw [upd_ne hb]; exact q)
end
section
variable {X : Cx} {e : Expr} {st : Stmt} {c ce : CE} {cs : CS}
theorem r_lock (c : CE) (h : EV X e ce) : EV X e (eLk c ce) := (pe_lock h).mono fun σV H Q ⟨loc, σ, M, w, M', rel, ev, aft⟩ => by
  obtain ⟨l, hl, ev⟩ := bind_some ev
  obtain ⟨p, hp, ev⟩ := bind_some ev
  obtain ⟨M2, hM, ev⟩ := Option.map_eq_some_iff.mp ev
  cases ev
  obtain ⟨a, u, ha, hu, mu, nl, q⟩ := rel.st.lock hl
  refine ⟨a, u, hu, mu, fun od => ?_⟩
  obtain ⟨st1, ex1⟩ := q od
  refine ⟨loc, σ, l.2, p.1, p.2, ⟨st1, rel.len, fun i w hi => ?_⟩, hp, fun v H' loc' s' r' ex l' => ?_⟩
  · obtain ⟨v, g1, g2⟩ := rel.sl i w hi
    exact ⟨v, g1, g2.mono ex1 (List.prefix_refl _)⟩
  · obtain ⟨h1, exB⟩ := ext_back hu mu ex
    exact ⟨h1, aft v _ loc' (s'.unlock (pre_get l' ha) h1 mu nl hM) (r'.moveT (ext_unlock h1 mu)) exB l'⟩
theorem s_lock (c : CE) (h : ES X st cs) : ES X st (sLk c cs) := (ps_lock h).mono fun D σV H ⟨loc, σ, M, o, rel, ev, aft⟩ => by
  obtain ⟨l, hl, ev⟩ := bind_some ev
  obtain ⟨o1, ho, ev⟩ := bind_some ev
  obtain ⟨a, u, ha, hu, mu, nl, q⟩ := rel.st.lock hl
  refine ⟨a, u, hu, mu, fun od => ?_⟩
  obtain ⟨st1, ex1⟩ := q od
  have sl : ∀ (i : Nat) (w : W), σ[i]? = some (some w) → ∃ v, σV[i]? = some (some v) ∧ Rd X.KW (upd H a (.frz od u)) loc v w := fun i w hi => by
    obtain ⟨v, g1, g2⟩ := rel.sl i w hi
    exact ⟨v, g1, g2.mono ex1 (List.prefix_refl _)⟩
  refine ⟨loc, σ, l.2, o1, ⟨st1, rel.len, sl⟩, ho, ?_⟩
  have move : ∀ {σ' : Sl} {M' M2 : Mem} {σV' : L2.St} {H' : Hp} {loc' : List Addr}, unM l.1 M' = some M2 → Rel X.KW loc' σ' M' σV' H' → Ext X.KW (upd H a (.frz od u)) H' → loc <+: loc' → H' a = some (.frz od u) ∧ Rel X.KW loc' σ' M2 σV' (upd H' a u) ∧ Ext X.KW H (upd H' a u) := fun {σ' M' M2 σV' H' loc'} hM r ex l' => by
    obtain ⟨h1, exB⟩ := ext_back hu mu ex
    exact ⟨h1, ⟨r.st.unlock (pre_get l' ha) h1 mu nl hM, r.len, fun i w hi => (by
      obtain ⟨v, g1, g2⟩ := r.sl i w hi
      exact ⟨v, g1, g2.moveT (ext_unlock h1 mu)⟩)⟩, exB⟩
  cases o1 with
  | nx σ' M' =>
    obtain ⟨M2, hM, ev⟩ := Option.map_eq_some_iff.mp ev
    cases ev
    intro σV' H' loc' r ex l'
    obtain ⟨h1, r2, exB⟩ := move hM r ex l'
    exact ⟨h1, aft σV' _ loc' r2 exB l'⟩
  | bk σ' M' =>
    obtain ⟨M2, hM, ev⟩ := Option.map_eq_some_iff.mp ev
    cases ev
    intro σV' H' loc' r ex l'
    obtain ⟨h1, r2, exB⟩ := move hM r ex l'
    exact ⟨h1, aft σV' _ loc' r2 exB l'⟩
  | ct σ' M' =>
    obtain ⟨M2, hM, ev⟩ := Option.map_eq_some_iff.mp ev
    cases ev
    intro σV' H' loc' r ex l'
    obtain ⟨h1, r2, exB⟩ := move hM r ex l'
    exact ⟨h1, aft σV' _ loc' r2 exB l'⟩
  | rt w M' =>
    obtain ⟨M2, hM, ev⟩ := Option.map_eq_some_iff.mp ev
    cases ev
    intro v H' loc' s' r' ex l'
    obtain ⟨h1, exB⟩ := ext_back hu mu ex
    exact ⟨h1, aft v _ loc' (s'.unlock (pre_get l' ha) h1 mu nl hM) (r'.moveT (ext_unlock h1 mu)) exB l'⟩
end

/-! ### walks -/
/-- the keys of the locked dict at d, keyed by nested tuples -/
def ItkN (w : World) (d : Addr) (o : Obj) (es : NE) : It :=
  ⟨fun i H => H d = some (.frz o (nestO w d es)) ∧ i < es.length, fun i H x H' => H' = H ∧ ∃ e, es[i]? = some e ∧ x = .ref e.2.1, fun i H => H d = some (.frz o (nestO w d es)) ∧ es.length ≤ i⟩
section
variable {X : Cx} {pins : List (Addr × Obj)} {σ : L2.St} {H : Hp} {s : Shared} {d : Addr} {o : Obj} {es : NE}
theorem frzN (I : Inv X pins σ H s) (h : H d = some (.frz o (nestO X.w d es))) : (d == sysModules) = false ∧ s.heap.get? d = some o ∧ o.ExactDict ∧ ∃ (en : Array DictEntry) (ep : Nat), o.data = .dict en ep ∧ en.size = es.length ∧
    ∀ (i : Nat) (e : NestedKey × Addr × V), es[i]? = some e → ∃ t : DictEntry, en[i]? = some t ∧ t.key = .ref e.2.1 := by
  obtain ⟨hd, ⟨z, hs, xs, np, o', en, ep, h1, h2, h3, h4, h5⟩, _⟩ := I.hok d _ h
  rw [hd] at h1
  cases h1
  have hl : en.size = xs.length := by rw [← Array.length_toList, h4, List.length_map]
  refine ⟨hs, hd, h2, en, ep, h3, by rw [hl]; exact (Paired.length np).symm, fun i e he => ?_⟩
  obtain ⟨x, hx, e1, e2, _⟩ := paired_get np he
  refine ⟨entryN X.w x, ?_, by rw [e2]; rfl⟩
  rw [← Array.getElem?_toList, h4, List.getElem?_map, hx]; rfl
end
theorem turn_keysN {P : Program} {w : World} {K : PySem.W.Frag} {tg : Expr} {d : Addr} {o : Obj} {en : Array DictEntry} {ep : Nat} {es : NE} (it : Addr) (hod : o.data = .dict en ep) : Turn P w K tg (ItkN w d o es) [it] it (fun i h => h.IsKeyIter it d i es.length ep) where
  mem := by simp
  obj := fun i h st b hb => by
    obtain rfl : b = it := by simpa using hb
    obtain ⟨oi, e1, e2, e3⟩ := st
    exact ⟨oi, e1, fun v q => by rw [e3] at q; cases q⟩
  keep := fun i h h' st k => st.at fun q e => k it (by simp) q e
  item := by
    intro X hP hw hK hc i pins s σ H E I hf st hg
    subst hP hw hK
    obtain ⟨hd, hi⟩ := hg
    obtain ⟨f0, f1, f2, f3, f4, f5⟩ := hf it (by simp)
    obtain ⟨_, g1, g2, en', ep', g3, g4, g5⟩ := frzN I hd
    obtain ⟨rfl, rfl⟩ := dict_ep hod g3
    obtain ⟨e, he⟩ : ∃ e, es[i]? = some e := ⟨_, List.getElem?_eq_getElem hi⟩
    obtain ⟨t, ht, hk⟩ := g5 i e he
    refine next_key_item st g1 g3 g4 ht fun h' st' sb => ?_
    obtain ⟨oi, e1, e2, e3⟩ := id st'
    refine ⟨t.key, rfl, go_of (s := { s with heap := h' }) e1 e2 e3 (by decide) ⟨.ref e.2.1, H, I.turned (t' := s.toks) (fun b ob hb q => (sb.2 b hb).trans q) f0 f1 f3 f4 f5, hk, ⟨rfl, e, he, rfl⟩, st', fun b hb => (hf b hb).1⟩⟩
  done := by
    intro X hP hw hK hc i pins s σ H E I hf st hg
    subst hP hw hK
    obtain ⟨hd, hi⟩ := hg
    obtain ⟨f0, f1, f2, f3, f4, f5⟩ := hf it (by simp)
    obtain ⟨_, g1, g2, en', ep', g3, g4, _⟩ := frzN I hd
    obtain ⟨rfl, rfl⟩ := dict_ep hod g3
    exact next_key_end (I.ok.hd hc) st g1 g3 g4 hi fun h' eb => ⟨rfl, I.turned (t' := s.toks) (fun b ob hb q => eb b ob hb q) f0 f1 f3 f4 f5⟩
  self := fun A i s Q E st h => wpAny_pyIter_keyiter st h
def iKeysN (w : World) (td : TE) : TI := fun σ H R => td σ H fun x H1 => ∃ d o es, x = .ref d ∧ H1 d = some (.frz o (nestO w d es)) ∧ R (ItkN w d o es) H1
section
variable {X : Cx} {tg e : Expr} {td : TE} {ce : CE}
theorem pi_keysN (he : PE X e td) : PI X tg e (iKeysN X.w td) := by
  refine ⟨fun pins s σ H R I h => ?_⟩
  refine thn (he.run pins s σ H _ I h) fun u s1 ⟨x, H1, I1, rx, d, o, es, ex, hd, q⟩ => ?_
  subst ex
  obtain rfl : u = Value.ref d := rx
  obtain ⟨hs, g1, g2, en, ep, g3, g4, _⟩ := frzN I1 hd
  refine iter_keys hs g1 g2 g3 (pi_one (tk := s1.toks) I1 _ (turn_keysN _ g3) ⟨_, Heap.get?_push_size _ rfl, rfl, ?_⟩ q)
  rw [g4] <;> rfl
theorem walk_of_keysN {K : KW} {H : Hp} {loc : List Addr} {d : Addr} {o : Obj} {es : NE} {ws : List (W × W)} (hd : H d = some (.frz o (nestO K.wd d es))) (n : NestOk K H loc es ws) : WalkW K H loc (ItkN K.wd d o es) (ws.map (·.1)) gdT :=
  fun i H1 loc1 M s ex l _ => by
    have hl : es.length = ws.length := by have := congrArg List.length n.keys; simpa using this
    refine ⟨fun w hw => ?_, fun hi => ⟨ex.frz _ _ _ hd, by rw [hl]; simpa using hi⟩⟩
    obtain ⟨v, h1, h2⟩ := n.ks.get hw
    rw [List.getElem?_map] at h1
    obtain ⟨e, he, rfl⟩ := Option.map_eq_some_iff.mp h1
    refine ⟨⟨ex.frz _ _ _ hd, (List.getElem?_eq_some_iff.mp he).1⟩, fun x H2 y => ?_⟩
    obtain ⟨rfl, e', he', rfl⟩ := y
    rw [he] at he'; cases he'
    exact ⟨h2.mono ex l, s, .refl⟩
theorem walk_of_keysF {K : KW} {H : Hp} {loc : List Addr} {d : Addr} {o : Obj} {kvs : List (Key × V)} {ws : List (W × W)} (hd : H d = some (.frz o (.dK kvs))) (n : FlatOk K H loc kvs ws) : WalkW K H loc (Itk d o kvs) (ws.map (·.1)) gdT :=
  fun i H1 loc1 M s ex l _ => by
    have hl : kvs.length = ws.length := by have := congrArg List.length n.keys; simpa using this
    refine ⟨fun w hw => ?_, fun hi => ⟨ex.frz _ _ _ hd, by rw [hl]; simpa using hi⟩⟩
    rw [← n.keys, List.getElem?_map] at hw
    obtain ⟨p, hp, rfl⟩ := Option.map_eq_some_iff.mp hw
    refine ⟨⟨ex.frz _ _ _ hd, (List.getElem?_eq_some_iff.mp hp).1⟩, fun x H2 y => ?_⟩
    obtain ⟨rfl, k, v, he', rfl⟩ := y
    rw [hp] at he'; cases he'
    refine ⟨?_, s, .refl⟩
    have := n.ok _ (List.mem_of_getElem? hp)
    cases k with
    | inl i => exact .int i
    | inr z => exact .str z this.1 this.2
theorem i_keyN (h : EV X e ce) : EI X tg e (iKeyN ce) := (pi_keysN h).mono fun σV H R ⟨loc, σ, M, ws, gd, M', rel, ev, aft⟩ => by
  obtain ⟨p, hp, ev⟩ := bind_some ev
  refine run1 rel hp fun v H1 loc1 rel1 rd1 ex1 l1 => ?_
  split at ev
  · rename_i n hn
    rw [hn] at rd1
    cases rd1 with
    | @ref a _ ha =>
      split at ev
      · rename_i zs hz
        cases ev
        obtain ⟨o, es, h1, h2⟩ := rel1.st.ok n a _ ha hz
        exact ⟨a, o, es, rfl, h1, aft _ H1 loc1 rel1.st ex1 l1 (walk_of_keysN h1 h2)⟩
      · cases ev
  · cases ev
theorem i_keyF (h : EV X e ce) : EI X tg e (iKeyF ce) := (pi_keys h).mono fun σV H R ⟨loc, σ, M, ws, gd, M', rel, ev, aft⟩ => by
  obtain ⟨p, hp, ev⟩ := bind_some ev
  refine run1 rel hp fun v H1 loc1 rel1 rd1 ex1 l1 => ?_
  split at ev
  · rename_i n hn
    rw [hn] at rd1
    cases rd1 with
    | @ref a _ ha =>
      split at ev
      · rename_i zs hz
        cases ev
        obtain ⟨o, kvs, h1, h2⟩ := rel1.st.ok n a _ ha hz
        exact ⟨a, o, rfl, .inl ⟨kvs, h1, aft _ H1 loc1 rel1.st ex1 l1 (walk_of_keysF h1 h2)⟩⟩
      · cases ev
  · cases ev
end
end BF

set_option Elab.async false
set_option linter.all false
set_option autoImplicit false
set_option maxRecDepth 100000
/-! d[k] = v, sorted(d), max of three, x in a list. -/
namespace BF
open PySem PySem.Spec
open PyProof.Rows L2
theorem hu65 {k : Nat} {A : Around} (hr : Room k A) : A.units + 65 < cLine := by have := hr.un; omega
def putF (M : Mem) (o x w : W) : Option Mem := match o, keyOf x with
  | .ref n, some k => match M[n]? with
    | some (.dK ws) => if ws.length < 16777216 then some (M.set n (.dK (putW ws k w))) else none
    | _ => none
  | _, _ => none
def rDPut : TSet := fun x y v H Q => ∃ a kvs k, x = .ref a ∧ y = kV k ∧ H a = some (.dK kvs) ∧ kvs.length < sizeLine ∧ Q (upd H a (.dK (putK kvs k v)))
theorem o_dput {X : Cx} (hu : X.A.units + 1 < cLine) : PSet X rDPut := by
  intro pins s σ H o i v ov iv u Q I ro ri rv h
  obtain ⟨a, kvs, k, rfl, rfl, e, hl, q⟩ := h
  cases (show ov = Value.ref a from ro)
  exact d_setItem hu I (DPut.k e hl) ri rv fun s' I' => ⟨_, I', q⟩
section
variable {K : KW} {H : Hp} {loc : List Addr}
theorem key_any {kvs : List (Key × V)} {ws : List (W × W)} (h : kvs.map (fun p => keyW p.1) = ws.map (·.1)) (k : Key) : (kvs.any fun kv => decide (kv.1 = k)) = ws.any fun p => decide (keyOf p.1 = some k) := by
  induction kvs generalizing ws with
  | nil =>
    cases ws with
    | nil => rfl
    | cons _ _ => cases h
  | cons p kvs ih =>
    cases ws with
    | nil => cases h
    | cons q ws =>
      simp only [List.map_cons, List.cons.injEq] at h
      rw [List.any_cons, List.any_cons, ih h.2, ← h.1, keyOf_keyW]
      congr 1
      exact decide_eq_decide.mpr ⟨fun z => by rw [z], fun z => Option.some.inj z⟩
theorem put_rel {kvs : List (Key × V)} {ws : List (W × W)} {k : Key} {v : V} {w : W} (hk : kvs.map (fun p => keyW p.1) = ws.map (·.1)) (h : Rds K H loc (kvs.map (·.2)) (ws.map (·.2))) (r : Rd K H loc v w) :
    (putK kvs k v).map (fun p => keyW p.1) = (putW ws k w).map (·.1) ∧ Rds K H loc ((putK kvs k v).map (·.2)) ((putW ws k w).map (·.2)) := by
  unfold putK putW
  rw [key_any hk k]
  split
  · rename_i hz
    clear hz
    induction kvs generalizing ws with
    | nil =>
      cases ws with
      | nil => exact ⟨rfl, .nil⟩
      | cons _ _ => cases hk
    | cons p kvs ih =>
      cases ws with
      | nil => cases hk
      | cons q ws =>
        simp only [List.map_cons, List.cons.injEq] at hk h
        cases h with
        | cons r1 r2 =>
          obtain ⟨i1, i2⟩ := ih hk.2 r2
          have e : keyOf q.1 = some p.1 := by rw [← hk.1, keyOf_keyW]
          simp only [List.map_cons, e, Option.some.injEq]
          by_cases z : p.1 = k
          · rw [if_pos z, if_pos z]
            exact ⟨List.cons_eq_cons.mpr ⟨hk.1, i1⟩, .cons r i2⟩
          · rw [if_neg z, if_neg z]
            exact ⟨List.cons_eq_cons.mpr ⟨hk.1, i1⟩, .cons r1 i2⟩
  · rw [List.map_append, List.map_append, List.map_append, List.map_append, hk]
    exact ⟨rfl, h.append (.cons r .nil)⟩
theorem putK_ok {kvs : List (Key × V)} {k : Key} {v : V} (h : ∀ p ∈ kvs, KeyOk p.1) (hk : KeyOk k) : ∀ p ∈ putK kvs k v, KeyOk p.1 := by
  unfold putK
  split
  · intro p hp
    obtain ⟨q, hq, rfl⟩ := List.mem_map.mp hp
    have := h q hq
    split <;> exact this
  · intro p hp
    rcases List.mem_append.mp hp with hp | hp
    · exact h p hp
    · rw [List.mem_singleton] at hp; subst hp; exact hk
theorem rd_keyOk {v : V} {w : W} {k : Key} (r : Rd K H loc v w) (h : keyOf w = some k) : KeyOk k := by
  cases r with
  | int i => cases h; trivial
  | str x h1 h2 => cases h; exact ⟨h1, h2⟩
  | _ => cases h
theorem p_dput : LiftP K rDPut putF := by
  intro H loc M x y z o i v M' Q s rx ry rz e h
  unfold putF at e
  split at e
  · rename_i n k hk
    split at e
    · rename_i ws hw
      split at e
      · rename_i hl
        cases e
        cases rx with
        | @ref a _ ha =>
          obtain ⟨kvs, h1, h2, h3, h4⟩ := s.ok n a _ ha hw
          have hle : kvs.length = ws.length := by have := congrArg List.length h2; simpa using this
          refine ⟨a, kvs, k, rfl, rd_key ry hk, h1, by rw [hle]; exact hl, ?_⟩
          have ex : Ext K H (upd H a (.dK (putK kvs k v))) := .upd h1 trivial
          obtain ⟨q1, q2⟩ := put_rel (k := k) h2 h4 rz
          exact h _ loc (s.put ha hw rfl rfl ⟨_, upd_same, q1, putK_ok h3 (rd_keyOk ry hk), q2.mono ex (List.prefix_refl _)⟩) ex (List.prefix_refl _)
      · cases e
    · cases e
  · cases e
/-- sorted(d), the keys ascending as they stand -/
def pSortD : Fn := fun ws M => match ws with
  | [.ref n] => match M[n]? with
    | some (.dK kvs) => match asInts (kvs.map (·.1)) with
      | some ks => if ks.length < 64 ∧ ks.Pairwise (· ≤ ·) then some (.ref M.length, M ++ [.lst (ks.map W.int)]) else none
      | none => none
    | _ => none
  | _ => none
def rSortD : List V → Hp → VK → Prop := fun xs H Q => ∃ (a : Addr) (kvs : List (Key × V)) (ks : List Int), xs = [.ref a] ∧ L2.Rd H a (.dK kvs) ∧ kvs.map (·.1) = ks.map Sum.inl ∧ ks.length < 64 ∧
    ∀ (ys : List Int) (p : Addr), ys.Perm ks → ys.Pairwise (· ≤ ·) → H p = none → Q (.ref p) (upd H p (.lst (ys.map V.int)))
theorem cr_sortD {X : Cx} (hc : X.calm = true) : CallR X (.builtin "sorted") rSortD := call_sortedDI hc
theorem keysI : ∀ {kvs : List (Key × V)} {ks : List Int}, kvs.map (fun p => keyW p.1) = ks.map W.int → kvs.map (·.1) = ks.map Sum.inl
  | [], [], _ => rfl
  | [], _ :: _, h => by cases h
  | _ :: _, [], h => by cases h
  | p :: kvs, k :: ks, h => by
    simp only [List.map_cons, List.cons.injEq] at h ⊢
    refine ⟨?_, keysI h.2⟩
    have := h.1
    cases hp : p.1 with
    | inl i => rw [hp] at this; cases this; rfl
    | inr z => rw [hp] at this; cases this
theorem n_sortD : LiftN K rSortD pSortD := by
  intro H loc M ws vs w M' Q s r e aft
  unfold pSortD at e
  split at e
  · split at e
    · rename_i zs hz
      split at e
      · rename_i ks hks
        split at e
        · rename_i hc
          cases e
          match vs, r with
          | [_], .cons (.ref (a := a) hn) .nil =>
            obtain ⟨kvs, h1, h2, h3, h4⟩ := s.ok _ _ _ hn hz
            refine ⟨a, kvs, ks, rfl, .inl h1, keysI (by rw [h2, asInts_some hks]), hc.1, fun ys p hp hs hH => ?_⟩
            have e1 : ys = ks := List.Perm.eq_of_pairwise (fun a b _ _ h1 h2 => Int.le_antisymm h1 h2) hs hc.2 hp
            subst e1
            exact aft_lst s (rds_ints ys) hH aft
        · cases e
      · cases e
    · cases e
  · cases e
/-- max of three -/
def pMax3 : Fn := fun ws M => match ws with
  | [.int i, .int j, .int k] => some (.int (if (if i < j then j else i) < k then k else (if i < j then j else i)), M)
  | _ => none
@[simp] theorem pMax3_eq {M : Mem} (i j k : Int) : pMax3 [.int i, .int j, .int k] M = some (.int (if (if i < j then j else i) < k then k else (if i < j then j else i)), M) := nr rfl
theorem n_max3 : LiftN K (rNuC3 nuMax3) pMax3 := by
  intro H loc M ws vs w M' Q s r e aft
  unfold pMax3 at e
  split at e
  · rename_i i j k
    cases e
    match vs, r with
    | [_, _, _], .cons (.int _) (.cons (.int _) (.cons (.int _) .nil)) =>
      refine ⟨_, _, _, V.int (if (if i < j then j else i) < k then k else (if i < j then j else i)), rfl, ?_, aft _ H loc s (.int _) .refl (List.prefix_refl _)⟩
      have h2 : ∀ a b : Int, nuMax2 (.int a) (.int b) = some (.int (if a < b then b else a)) := fun a b => by
        show some (if decide (a < b) = true then V.int b else V.int a) = _
        by_cases h : a < b <;> simp [h]
      show (nuMax2 (.int i) (.int j)).bind _ = _
      rw [h2, Option.bind_some, h2]
  · cases e
/-! ### in a list -/
def gInD (M : Mem) (x y : W) : Option (W × Mem) := match toD M 64 x, toD M 64 y with
  | some d, some (.list ds) => some (.bl (ds.any fun z => PyData.eqv z d), M)
  | _, _ => none
def gNotInD (M : Mem) (x y : W) : Option (W × Mem) := match toD M 64 x, toD M 64 y with
  | some d, some (.list ds) => some (.bl (!ds.any fun z => PyData.eqv z d), M)
  | _, _ => none
theorem in_aux {M : Mem} {x y : W} {v u : V} {d : PyData} {ds : List PyData} (s : Store K H loc M) (rx : Rd K H loc v x) (ry : Rd K H loc u y) (h1 : toD M 64 x = some d) (h2 : toD M 64 y = some (.list ds)) :
    Dp K H v d ∧ Dp K H u (.list ds) ∧ SeqAt.shaped d = true ∧ SeqAt.shaped (.list ds) = true := by
  obtain ⟨g1, g2, g3⟩ := toD_ok s 64 v x d rx h1
  obtain ⟨g4, g5, g6⟩ := toD_ok s 64 u y _ ry h2
  exact ⟨g1, g4, by rw [SeqAt.shaped, g2, decide_eq_true g3]; rfl, by rw [SeqAt.shaped, g5, decide_eq_true g6]; rfl⟩
theorem l_inD : Lift2 K (rInD K) gInD := by
  intro H loc M x y v u w M' Q s rx ry e aft
  unfold gInD at e
  split at e
  · rename_i d ds h1 h2
    cases e
    obtain ⟨g1, g2, g3, g4⟩ := in_aux s rx ry h1 h2
    exact ⟨d, ds, g1, g2, g3, g4, aft _ H loc s (.bl _) .refl (List.prefix_refl _)⟩
  · cases e
theorem l_notInD : Lift2 K (rNotInD K) gNotInD := by
  intro H loc M x y v u w M' Q s rx ry e aft
  unfold gNotInD at e
  split at e
  · rename_i d ds h1 h2
    cases e
    obtain ⟨g1, g2, g3, g4⟩ := in_aux s rx ry h1 h2
    exact ⟨d, ds, g1, g2, g3, g4, aft _ H loc s (.bl _) .refl (List.prefix_refl _)⟩
  · cases e
end
open Enc in
theorem any_enc {α : Type} [Enc α] [DecidableEq α] (hd : dep α ≤ 63) (a : α) : ∀ as : List α, ((as.map fun b => dP (enc b)).any fun z => PyData.eqv z (dP (enc a))) = decide (a ∈ as)
  | [] => rfl
  | b :: as => by
    rw [List.map_cons, List.any_cons, any_enc hd a as, eqv_P 63 _ _ (okW_mono _ _ (ok b) 63 hd) (okW_mono _ _ (ok a) 63 hd), Bool.eq_iff_iff, Bool.or_eq_true, eqE, decide_eq_true_eq, decide_eq_true_eq, List.mem_cons]
    exact ⟨fun h => h.elim (fun z => .inl z.symm) .inr, fun h => h.elim (fun z => .inl z.symm) .inr⟩
open Enc in
theorem gInD_enc {α : Type} [Enc α] [DecidableEq α] (M : Mem) (n : Nat) (as : List α) (a : α) (h : M[n]? = some (.lst (as.map enc))) (hd : dep α ≤ 63 := by decide) : gInD M (enc a) (.ref n) = some (.bl (decide (a ∈ as)), M) := by
  unfold gInD
  rw [toD_lst M n as (.inl h) hd, toD_P M 64 _ (okW_mono _ _ (ok a) 64 (by omega))]
  simp only [any_enc hd]
open Enc in
theorem gNotInD_enc {α : Type} [Enc α] [DecidableEq α] (M : Mem) (n : Nat) (as : List α) (a : α) (h : M[n]? = some (.lst (as.map enc))) (hd : dep α ≤ 63 := by decide) : gNotInD M (enc a) (.ref n) = some (.bl (!decide (a ∈ as)), M) := by
  unfold gNotInD
  rw [toD_lst M n as (.inl h) hd, toD_P M 64 _ (okW_mono _ _ (ok a) 64 (by omega))]
  simp only [any_enc hd]
end BF

set_option Elab.async false
set_option linter.all false
set_option autoImplicit false
set_option maxRecDepth 100000
/-! enumerate of lists and of tuples. -/
namespace BF
open PySem PySem.Spec
open PyProof.Rows L2
set_option maxHeartbeats 1000000 in
theorem enum_new {v : Value} {o : Obj} {H : Heap → Prop} (B : Begins v o H) : Meets (Builtin.«enumerate.__new__» ⟨[.type "enumerate", v], []⟩) (fun _ R s => H s.heap ∧ R (.ok (.ret (.ref (s.heap.push o).objs.size))) { s with heap := (s.heap.push o).push { cls := .type "enumerate", data := .fields #[.none, .bool false, .ref s.heap.objs.size, rawInt 0, .none, .none] } }) :=
  .of_wp fun prog w A R s h => by
    obtain ⟨hp, g, d, tk, os⟩ := s
    obtain ⟨h1, h2⟩ := h
    have h3 := sub_enumerate
    have it0 : ∀ {A' : Around} {E Q : Value → Shared → Prop}, Q (.ref hp.objs.size) ⟨hp.push o, g, d, tk, os⟩ → wpAny (model prog w) A' (pyIter v) Q E ⟨hp, g, d, tk, os⟩ := fun q => B.iter prog w _ _ _ _ h1 q
    wp_walk using it0
    refine wpAny_stack_any fun st => wpAny_pure ?_
    split
    · rename_i c _ _ _ _ _
      cases (c == Value.type "enumerate") <;> (wp_walk using it0; exact ⟨_, rfl, h2⟩)
    · wp_walk using it0
      exact ⟨_, rfl, h2⟩
theorem enum_call {prog : Program} {w : World} {A : Around} {E : Value → Shared → Prop} {s : Shared} {v : Value} {o : Obj} {H : Heap → Prop} {Q : Value → Shared → Prop} (B : Begins v o H) (h1 : H s.heap)
    (h : ∀ h', IsEnum h' (s.heap.objs.size + 1) s.heap.objs.size 0 .none → h'.get? s.heap.objs.size = some o → (∀ b q, s.heap.get? b = some q → h'.get? b = some q) → Q (.ref (s.heap.objs.size + 1)) { s with heap := h' }) :
    wpAny (model prog w) A (call (.type "enumerate") [v]) Q E s := by
  refine callType_new F.called_enumerate (by decide) (F.typeCall_enumerate_1 _) (F.newCall_enumerate_1 _) (fun obj => F.args_object_init_2 obj _) F.entry_enumerate_new (enum_new B) ⟨h1, ?_⟩
  have hz : (s.heap.push o).objs.size = s.heap.objs.size + 1 := Heap.size_push ..
  show _ ∧ _
  rw [hz]
  have he := Heap.get?_push_size (s.heap.push o) (o := { cls := .type "enumerate", data := .fields #[.none, .bool false, .ref s.heap.objs.size, rawInt 0, .none, .none] }) rfl
  rw [hz] at he
  exact ⟨⟨_, he, rfl⟩, h _ he (Heap.get?_push_of_some _ (Heap.get?_push_size _ B.free)) fun b q x => Heap.get?_push_of_some _ (Heap.get?_push_of_some _ x)⟩
/-- the tuple at a, each item in a new pair -/
def IteT (K : PySem.W.Frag) (a : Addr) : It :=
  ⟨fun i H => ∃ (xs : List V) (x : V), SqT K H a xs ∧ xs[i]? = some x, fun i H v H' => ∃ T x, v = .ref T ∧ H T = none ∧ H' = upd H T (.tup [.int (i : Nat), x]) ∧ ∀ xs, SqT K H a xs → xs[i]? = some x, fun i H => ∃ xs : List V, SqT K H a xs ∧ xs.length ≤ i⟩
theorem turn_enumT {P : Program} {w : World} {K : PySem.W.Frag} {elts : List Expr} {kk : Nat} {tpos : Pos} (a e it : Addr) :
    Turn P w K (.Tuple elts kk tpos) (IteT K a) [e, it] e (fun i h => (∃ old, IsEnum h e it ((i : Nat) : Int) old) ∧ h.IsTupleIter it a i ∧ e ≠ it ∧ a ≠ it ∧ a ≠ e) where
  mem := by simp
  obj := fun i h st b hb => by
    obtain ⟨⟨old, he⟩, ⟨o, g1, g2, g3⟩, _⟩ := st
    rcases List.mem_cons.mp hb with rfl | hb
    · exact ⟨_, he, fun v q => nomatch q⟩
    · rw [List.mem_singleton] at hb
      subst hb
      exact ⟨o, g1, fun v q => by rw [g3] at q; cases q⟩
  keep := fun i h h' st k => ⟨let ⟨old, he⟩ := st.1; ⟨old, k e (by simp) _ he⟩, st.2.1.at fun o q => k it (by simp) o q, st.2.2⟩
  item := by
    intro X hP hw hK hc i pins s σ H E I hf st hg
    subst hP hw hK
    obtain ⟨⟨old, he⟩, hit, hne, ha1, ha2⟩ := st
    obtain ⟨xs, x, hq, hx⟩ := hg
    obtain ⟨its, rv, p, hz⟩ := I.tuple hq
    obtain ⟨u, hu, ru⟩ := rv.get hx
    have hlt : i < its.toArray.size := by have := (List.getElem?_eq_some_iff.mp hu).1; simpa using this
    have l1 : e < s.heap.objs.size := Heap.lt_size he
    have l2 : it < s.heap.objs.size := by obtain ⟨_, q, _⟩ := hit; exact Heap.lt_size q
    refine wpAny_pyNext_enum_itemD (Draws.tuple (prog := X.prog) (w := X.w) (A := X.A.in1) (I.ok.hd hc) it a ha1 its.toArray) he ⟨hit, p⟩ hlt hne (fun hm => ?_) fun y h' tk hy ho hst hT hsz hk => ?_
    · rcases List.mem_cons.mp hm with q | hm
      · exact hne q
      · exact ha2 (List.mem_singleton.mp hm).symm
    have ey : y = u := by
      have : its.toArray[i]? = some u := by simpa using hu
      rw [this] at hy; exact (Option.some.inj hy).symm
    subst ey
    refine ⟨_, rfl, wpAny_letOwnedTupleGo_enum (s := { s with heap := h', toks := tk + 1 }) ho fun h'' he' sb => ?_⟩
    have hT2 : h''.get? s.heap.objs.size = some { cls := .type "tuple", data := .seq #[.int i tk, y] } := (sb.2 _ (Nat.ne_of_gt l1)).trans hT
    have new : ObjOk X.prog X.w (upd H s.heap.objs.size (.tup [.int (i : Nat), x])) h'' s.heap.objs.size (.tup [.int (i : Nat), x]) := ⟨by show 2 ≤ sizeLine; decide, [.int i tk, y], .cons ⟨_, rfl⟩ (.cons ru .nil), ⟨_, hT2, rfl, _, rfl⟩⟩
    have I1 := I.turnedNew (t' := tk + 1) (ch := [e, it]) (fun b ob hb q => (sb.2 b (fun z => hb (by simp [z]))).trans (hk b ob (fun z => hb (by simp [z])) (fun z => hb (by simp [z])) q)) hf (Nat.le_refl _) new
    refine ⟨.ref s.heap.objs.size, _, I1, rfl, ⟨_, x, rfl, I.hok.fresh (Nat.le_refl _), rfl, fun ys hy => by rw [I.tuple_inj hy hq]; exact hx⟩, ⟨⟨y, ?_⟩, hst.1.at fun o q => (sb.2 it (Ne.symm hne)).trans q, hne, ha1, ha2⟩, fun b hb => ?_⟩
    · have e1 : ((i + 1 : Nat) : Int) = (i : Int) + 1 := by omega
      rw [e1]; exact he'
    · have hb' : b < s.heap.objs.size := by
        rcases List.mem_cons.mp hb with z | hb
        · rw [z]; exact l1
        · rw [List.mem_singleton.mp hb]; exact l2
      rw [upd_ne (Nat.ne_of_lt hb')]
      exact (hf b hb).1
  done := by
    intro X hP hw hK hc i pins s σ H E I hf st hg
    subst hP hw hK
    obtain ⟨⟨old, he⟩, hit, hne, ha1, ha2⟩ := st
    obtain ⟨xs, hq, hx⟩ := hg
    obtain ⟨its, rv, p, hz⟩ := I.tuple hq
    obtain ⟨f0, f1, f2, f3, f4, f5⟩ := hf it (by simp)
    have hl := rv.length
    have hT : s.TypeIs (.ref e) "enumerate" := ⟨_, he, rfl⟩
    unfold pyNext
    refine wpAny_bind (wpAny_attempt (wpAny_callSpecial?_slot (name := Str.ofString "__next__") hT F.slot_enumerate_next (wpAny_call_entry F.slot_enumerate_next hT F.entry_enumerate_next ?_ (F.args_enumerate_next_1 _))))
    show wpAny _ _ (field (.ref e) 2 >>= _) _ _ _
    refine wpAny_bind (wpAny_field he rfl (x := .ref it) rfl ?_)
    refine wpAny_bind (wpAny_nextOf_tuple_end (I.ok.hd hc) hit p (Array.getElem?_eq_none (by simp; omega)) fun h' x he' hx' => ?_)
    obtain ⟨o, ho, hcl⟩ := hx'
    exact wpAny_bind (wpAny_isInstance (T := "StopIteration") (b := true) ⟨o, ho, hcl⟩ isSubtype_stop (wpAny_pure ⟨rfl, I.turned (t' := s.toks) (fun b o hb q => he' b o hb q) f0 f1 f3 f4 f5⟩))
  self := fun A i s Q E st h => let ⟨⟨_, he⟩, _⟩ := st; wpAny_pyIter_enum he h
def iEnumTT (K : PySem.W.Frag) (ta : TA) : TI := fun σ H R => ta σ H fun vs H1 => ∃ a xs, vs = [.ref a] ∧ SqT K H1 a xs ∧ R (IteT K a) H1
theorem pi_enumT {X : Cx} {e : Expr} {ta : TA} {p pos tpos : Pos} {elts : List Expr} {kk : Nat} (hg : Gl X "enumerate") (hm : X.mg "enumerate" = none) (ha : PA X [e] ta) (hs : starEach [e] X.env = [(false, eval e X.env)] := by rfl) :
    PI X (.Tuple elts kk tpos) (.Call (.Name "enumerate" p) [e] [] pos) (iEnumTT X.K ta) := by
  refine ⟨fun pins s σ H R I h => Call_ (ld_blt I hg hm boot_enumerate (PyProof.Rows.callWith_type1 (thn (ha.run pos pins s σ H _ I h) fun us s1 ⟨vs, H1, I1, r1, q1⟩ => ?_) hs rfl))⟩
  obtain ⟨a, xs, ex, hq, q⟩ := q1
  subst ex
  cases r1 with
  | cons r rr =>
    cases rr
    cases r
    obtain ⟨its, rv, p', hz⟩ := I1.tuple hq
    have la : a < s1.heap.objs.size := by obtain ⟨o, ho, _⟩ := id p'; exact Heap.lt_size ho
    refine enum_call (begins_tuple a its.toArray) p' fun h' he hit hk => wpAny_pyIter_enum he ?_
    refine ⟨s1.heap.objs.size + 1, [s1.heap.objs.size + 1, s1.heap.objs.size], _, _, H1, rfl, I1.kept (t' := s1.toks) hk, turn_enumT a (s1.heap.objs.size + 1) s1.heap.objs.size, ⟨⟨.none, he⟩, ⟨_, hit, rfl, rfl⟩, Nat.succ_ne_self _, Nat.ne_of_lt la, Nat.ne_of_lt (Nat.lt_succ_of_lt la)⟩, fun b hb => ?_, q⟩
    have hle : s1.heap.objs.size ≤ b := by
      rcases List.mem_cons.mp hb with z | hb
      · rw [z]; exact Nat.le_add_right _ _
      · rw [List.mem_singleton.mp hb]; exact Nat.le_refl _
    exact I1.fpOk hle (I1.hok.fresh hle)
theorem enumW_get {ws : List W} {i : Nat} {w : W} (h : (enumW ws)[i]? = some w) : ∃ x, ws[i]? = some x ∧ w = .tup [.int (i : Nat), x] := by
  unfold enumW at h
  rw [List.getElem?_map, List.getElem?_zipIdx] at h
  cases q : ws[i]? with
  | none => rw [q] at h; cases h
  | some x => rw [q] at h; cases h; exact ⟨x, rfl, by simp⟩
theorem enumW_length (ws : List W) : (enumW ws).length = ws.length := by simp [enumW]
section
variable {K : KW} {H : Hp} {loc : List Addr}
theorem walk_of_enumT {a : Addr} {xs : List V} {ws : List W} (sq : SqT K H a xs) (r : Rds K H loc xs ws) : WalkW K H loc (IteT K a) (enumW ws) gdT :=
  fun i H1 loc1 M s ex l _ => ⟨fun w hw => by
    obtain ⟨x, hx, rfl⟩ := enumW_get hw
    obtain ⟨v, h1, h2⟩ := r.get hx
    refine ⟨⟨xs, v, ex.tup _ _ sq, h1⟩, fun y H2 q => ?_⟩
    obtain ⟨T, v', rfl, hT, rfl, f⟩ := q
    have e1 := f xs (ex.tup _ _ sq)
    rw [h1] at e1; cases e1
    have ex2 : Ext K H1 (upd H1 T (.tup [.int (i : Nat), v])) := .new hT
    exact ⟨.tup (SqT.of upd_same) (.cons (.int _) (.cons (h2.mono (ex.trans ex2) l) .nil)), s.newT hT, ex2⟩, fun hl => ⟨xs, ex.tup _ _ sq, by rw [r.length]; rw [enumW_length] at hl; exact hl⟩⟩
theorem walk_of_enumL {a : Addr} {n : Nat} {ws : List W} (hn : loc[n]? = some a) : WalkW K H loc (Ite K a) (enumW ws) (fun M' => decide (M'[n]? = some (.lst ws))) :=
  fun i H1 loc1 M s ex l hg => by
    have hg := of_decide_eq_true hg
    obtain ⟨xs, h1, r⟩ := s.ok n a _ (pre_get l hn) hg
    refine ⟨fun w hw => ?_, fun hl => ⟨xs, SqL.of h1, by rw [r.length]; rw [enumW_length] at hl; exact hl⟩⟩
    obtain ⟨x, hx, rfl⟩ := enumW_get hw
    obtain ⟨v, h2, h3⟩ := r.get hx
    refine ⟨⟨xs, v, SqL.of h1, h2⟩, fun y H2 q => ?_⟩
    obtain ⟨T, v', rfl, hT, rfl, f⟩ := q
    have e1 := f xs (SqL.of h1)
    rw [h2] at e1; cases e1
    have ex2 : Ext K H1 (upd H1 T (.tup [.int (i : Nat), v])) := .new hT
    exact ⟨.tup (SqT.of upd_same) (.cons (.int _) (.cons (h3.mono ex2 (List.prefix_refl _)) .nil)), s.newT hT, ex2⟩
end
section
variable {X : Cx} {e : Expr} {ce : CE} {p pos tpos : Pos} {elts : List Expr} {kk : Nat}
theorem i_enumT (hg : Gl X "enumerate") (hm : X.mg "enumerate" = none) (h : EA X [e] [ce]) (hs : starEach [e] X.env = [(false, eval e X.env)] := by rfl) : EI X (.Tuple elts kk tpos) (.Call (.Name "enumerate" p) [e] [] pos) (iEnumT ce) :=
  (pi_enumT hg hm h hs).mono fun σV H R ⟨loc, σ, M, ws, gd, M', rel, ev, aft⟩ => by
    obtain ⟨q, hq, ev⟩ := bind_some ev
    refine runA (p := ([q.1], q.2)) rel (by simp only [eArgs, hq, Option.bind_some]) fun vs H1 loc1 rel1 rd1 ex1 l1 => ?_
    split at ev
    · rename_i zs hz
      cases ev
      rw [hz] at rd1
      match vs, rd1 with
      | [_], .cons (.tup (a := a) (xs := xs) sq rs) .nil => exact ⟨a, xs, rfl, sq, aft _ H1 loc1 rel1.st ex1 l1 (walk_of_enumT sq rs)⟩
    · cases ev
theorem i_enumL (hg : Gl X "enumerate") (hm : X.mg "enumerate" = none) (h : EA X [e] [ce]) (hs : starEach [e] X.env = [(false, eval e X.env)] := by rfl) : EI X (.Tuple elts kk tpos) (.Call (.Name "enumerate" p) [e] [] pos) (iEnumL ce) :=
  (pi_enum hg hm h hs).mono fun σV H R ⟨loc, σ, M, ws, gd, M', rel, ev, aft⟩ => by
    obtain ⟨q, hq, ev⟩ := bind_some ev
    refine runA (p := ([q.1], q.2)) rel (by simp only [eArgs, hq, Option.bind_some]) fun vs H1 loc1 rel1 rd1 ex1 l1 => ?_
    split at ev
    · rename_i n hn
      split at ev
      · rename_i zs hz
        cases ev
        rw [hn] at rd1
        match vs, rd1 with
        | [_], .cons (.ref (a := a) ha) .nil =>
          obtain ⟨xs, h1, _⟩ := rel1.st.ok n a _ ha hz
          exact ⟨a, xs, rfl, SqL.of h1, aft _ H1 loc1 rel1.st ex1 l1 (walk_of_enumL ha)⟩
      · cases ev
    · cases ev
end
end BF

set_option Elab.async false
set_option linter.all false
set_option autoImplicit false
set_option maxRecDepth 100000
/-! sorted(list of tuples) that stands in order. -/
namespace BF
open PySem PySem.Spec
open PyProof.Rows L2
/-- what is asked of the items -/
def inOrd (ds : List PyData) : Bool := (ds.all fun d => ds.all fun e => PySem.W.alike d e) && ((ds.all fun d => match d with | .tuple (_ :: _) => true | _ => false) || (match ds with | [.tuple []] => true | _ => false)) && decide (ds.Pairwise fun a b => PySem.W.dataLe false id a b = true)
theorem sorts_one {prog : Program} {w : World} {A : Around} {s : Shared} {vs : List Value} (e : PySem.W.EachIs (fun v d => ∃ as, Reads s.heap v d as) vs [.tuple []]) : PySem.W.SortsAt prog w A s (PySem.W.dataKind s.heap [.tuple []]) vs := by
  have al : PySem.W.AllAlike [PyData.tuple []] := by
    intro d hd d' hd'
    rw [List.mem_singleton] at hd hd'
    subst hd; subst hd'; rfl
  have hl := e.length
  refine ⟨fun v hv => ?_, PyProof.Rows.tuples' false, fun E x y a b Q ha hb hq => ?_, fun h2 => ?_⟩
  · obtain ⟨d, hd, as, r⟩ := e.left v hv
    exact ⟨_, PySem.W.dataKind_some al hd r⟩
  · obtain ⟨d, as, hd, ra, rfl⟩ := PySem.W.dataKind_inv ha
    obtain ⟨d', as', hd', rb, rfl⟩ := PySem.W.dataKind_inv hb
    rw [List.mem_singleton] at hd hd'
    subst hd; subst hd'
    have hq' : Q false s := hq
    cases ra with
    | @tuple l o xs n _ _ h1 h2 h3 h4 =>
      cases rb with
      | @tuple l' o' xs' n' _ _ k1 k2 k3 k4 =>
        have z1 : xs.toList = [] := List.length_eq_zero_iff.mp (PySem.SeqAt.ReadsAll.length _ _ _ h4)
        have z2 : xs'.toList = [] := List.length_eq_zero_iff.mp (PySem.SeqAt.ReadsAll.length _ _ _ k4)
        refine PySem.W.kat_lt h1 h3 k1 k3 ?_
        rw [z1]
        have y1 : xs.size = 0 := by rw [← Array.length_toList, z1]; rfl
        have y2 : xs'.size = 0 := by rw [← Array.length_toList, z2]; rfl
        rw [y1, y2]
        exact hq'
  · rw [hl] at h2
    exact absurd h2 (by simp)
theorem vals_of_each : ∀ {out : List Value} {vs : List V} {ds : List PyData}, vs.length = ds.length → PySem.W.EachIs (fun u (p : V × PyData) => RelV p.1 u) out (vs.zip ds) → Vals vs out
  | _, [], _, _, h => by cases h; exact .nil
  | _, v :: vs, [], hl, _ => by cases hl
  | _, v :: vs, d :: ds, hl, h => by
    cases h with
    | cons h1 h2 => exact .cons h1 (vals_of_each (by simpa using hl) h2)
theorem each_zip {X : Cx} {pins : List (Addr × Obj)} {σ : L2.St} {H : Hp} {s : Shared} (I : Inv X pins σ H s) : ∀ {us : List Value} {vs : List V} {ds : List PyData}, Vals vs us → L2.DpAll X.K H vs ds → vs.length = ds.length ∧ PySem.W.EachIs (fun u (p : V × PyData) => RelV p.1 u) us (vs.zip ds) ∧ PySem.W.EachIs (fun u (p : V × PyData) => ∃ as, Reads s.heap u p.2 as) us (vs.zip ds)
  | _, _, _, .nil, .nil => ⟨rfl, .nil, .nil⟩
  | _, _, _, .cons r1 r2, .cons h1 h2 => by
    obtain ⟨e1, e2, e3⟩ := each_zip I r2 h2
    exact ⟨by simp [e1], .cons r1 e2, .cons (L2.Dp.reads I _ _ _ h1 r1) e3⟩
theorem each_snd {R : Value → PyData → Prop} : ∀ {us : List Value} {ps : List (V × PyData)}, PySem.W.EachIs (fun u (p : V × PyData) => R u p.2) us ps → PySem.W.EachIs R us (ps.map (·.2))
  | _, [], .nil => .nil
  | _, _ :: _, .cons h1 h2 => .cons h1 (each_snd h2)
def rSortT (K : PySem.W.Frag) : List V → Hp → VK → Prop := fun xs H Q => ∃ (a : Addr) (vs : List V) (ds : List PyData), xs = [.ref a] ∧ L2.SqL K H a vs ∧ L2.DpAll K H vs ds ∧ inOrd ds = true ∧ (∀ d ∈ ds, d.depth ≤ 60) ∧
    ∀ p : Addr, H p = none → Q (.ref p) (upd H p (.lst vs))
theorem call_sortT {X : Cx} (hu : X.A.units + 65 < cLine) : CallR X (.builtin "sorted") (rSortT X.K) := by
  intro pins s σ H xs us Q I r q
  obtain ⟨a, vs, ds, ex, hd, hds, ho, hdep, q⟩ := q
  subst ex
  obtain ⟨u, eu, rx⟩ := vals1 r
  subst eu
  cases rx
  obtain ⟨its, rv, ⟨o, n, g1, g2, _, g3⟩, hz⟩ := I.list hd
  obtain ⟨el, er, ed⟩ := each_zip I rv hds
  have hlist : s.heap.IsList a its.toArray := ⟨o, g1, g2, n, g3⟩
  have e2 : (vs.zip ds).map (·.2) = ds := List.map_snd_zip (by omega)
  have hil : its.length = vs.length := by rw [rv.length]
  have hsz : vs.length ≤ 16777216 := by have := hz; rw [sizeLine_eq] at this; exact this
  unfold inOrd at ho
  rw [Bool.and_eq_true, Bool.and_eq_true, decide_eq_true_eq] at ho
  obtain ⟨⟨al, ty⟩, pw⟩ := ho
  have hal : PySem.W.AllAlike ds := fun d hd d' hd' => List.all_eq_true.mp (List.all_eq_true.mp al d hd) d' hd'
  -- what the call leaves
  have fin : ∀ out : List Value, Vals vs out → EP X pins σ Q (.ref (s.heap.objs.size + 1)) { s with heap := sortedAll s.heap its out.toArray } := fun out ho => by
    obtain ⟨e', he'⟩ := PyProof.Rows.sortedAll_at s.heap its out.toArray
    have old : ∀ b o, s.heap.get? b = some o → (sortedAll s.heap its out.toArray).get? b = some o := fun b o h => PyProof.Rows.sortedAll_old h
    exact ⟨.ref (s.heap.objs.size + 1), upd H (s.heap.objs.size + 1) (.lst vs), I.laid (t' := s.toks) old (Nat.le_succ _)
      (show ObjOk X.prog X.w _ _ _ (.lst vs) from ⟨hz, out, e', ho, he'⟩), rfl, q _ (I.hok.fresh (Nat.le_succ _))⟩
  rw [Bool.or_eq_true] at ty
  rcases ty with ty | ty
  · have hk : PySem.W.Sortable ((vs.zip ds).map (·.2)) := .inl fun d hd => by
      rw [e2] at hd
      have := List.all_eq_true.mp ty d hd
      match d, this with
      | .tuple (x :: r), _ => exact ⟨x, r, rfl⟩
    refine PySem.W.sorted_data (enc := fun p : V × PyData => p.2) hlist er ed (by rw [e2]; exact hal) hk (by simp; rw [sizeLine_eq]; omega) (fun b hb => ?_) fun out hlo eo => ?_
    · have hm : b.2 ∈ ds := by rw [← e2]; exact List.mem_map.mpr ⟨b, hb, rfl⟩
      have := hdep _ hm
      omega
    · have ms : (vs.zip ds).mergeSort (PySem.W.dataLe false fun p : V × PyData => p.2) = vs.zip ds := by
        refine List.mergeSort_of_pairwise ?_
        have : ((vs.zip ds).map (·.2)).Pairwise fun a b => PySem.W.dataLe false id a b = true := by rw [e2]; exact pw
        exact List.pairwise_map.mp this
      rw [ms] at eo
      exact fin out (vals_of_each el eo)
  · have h1 : ds = [.tuple []] := by
      match ds, ty with
      | [.tuple []], _ => rfl
    subst h1
    have hv1 : vs.length = 1 := el
    obtain ⟨v, rfl⟩ : ∃ v, vs = [v] := List.length_eq_one_iff.mp hv1
    obtain ⟨u, rfl⟩ : ∃ u, its = [u] := List.length_eq_one_iff.mp (by rw [hil]; rfl)
    have ed' := each_snd (R := fun u d => ∃ as, Reads s.heap u d as) ed
    have ed2 : PySem.W.EachIs (fun x d => ∃ as, Reads (PySem.W.sortingHeap (PySem.W.copyHeap s.heap [u]) (s.heap.objs.size + 1) [u]) x d as) [u] [.tuple []] := by
      cases ed' with
      | cons h1 h2 =>
        obtain ⟨as, r⟩ := h1
        exact .cons ⟨as, PyProof.Rows.Reads.keeps (fun _ _ => PySem.W.sorting_copy_old) r⟩ .nil
    obtain ⟨hp, hhp⟩ : ∃ hp, hp = PySem.W.sortingHeap (PySem.W.copyHeap s.heap [u]) (s.heap.objs.size + 1) [u] := ⟨_, rfl⟩
    rw [← hhp] at ed2
    have so := sorts_one (prog := X.prog) (w := X.w) (A := X.A.in1.in1) (s := { s with heap := hp }) ed2
    refine PySem.W.sorted_vals (κ := PySem.W.dataKind hp [.tuple []]) hlist (by rw [← hhp]; exact so) (by rw [sizeLine_eq]; simp) ?_
    obtain ⟨z, hz'⟩ : ∃ z, PySem.W.sortVals (PySem.W.dataKind hp [.tuple []]) false [u] [u] = [z] := List.length_eq_one_iff.mp (PySem.W.sortVals_length false rfl)
    have hm := PySem.W.sortVals_mem (κ := PySem.W.dataKind hp [.tuple []]) false (ks := [u]) (vs := [u]) (v := z) (by rw [hz']; exact List.mem_singleton.mpr rfl)
    rw [List.mem_singleton] at hm
    rw [hz', hm]
    exact fin [u] rv
/-- sorted(l), the items in order as they stand -/
def pSortT : Fn := fun ws M => match ws with
  | [.ref n] => match M[n]? with
    | some (.lst xs) => match mapO (toD M 60) xs with
      | some ds => if inOrd ds = true then some (.ref M.length, M ++ [.lst xs]) else none
      | none => none
    | _ => none
  | _ => none
theorem toDs_ok {K : KW} {H : Hp} {loc : List Addr} {M : Mem} (s : Store K H loc M) : ∀ {vs : List V} {ws : List W} {ds : List PyData}, Rds K H loc vs ws → Paired (fun a b => toD M 60 a = some b) ws ds → L2.DpAll K H vs ds ∧ ∀ d ∈ ds, d.depth ≤ 60
  | _, _, _, .nil, .nil => ⟨.nil, fun _ h => (by cases h)⟩
  | _, _, _, .cons a b, .cons c d => by
    obtain ⟨g1, _, g3⟩ := toD_ok s 60 _ _ _ a c
    obtain ⟨g4, g5⟩ := toDs_ok s b d
    exact ⟨.cons g1 g4, fun x hx => (List.mem_cons.mp hx).elim (fun e => e ▸ g3) (g5 x)⟩
theorem n_sortT {K : KW} : LiftN K (rSortT K) pSortT := by
  intro H loc M ws vs w M' Q s r e aft
  unfold pSortT at e
  split at e
  · split at e
    · rename_i zs hz
      split at e
      · rename_i ds hds
        split at e
        · rename_i ho
          cases e
          match vs, r with
          | [_], .cons (.ref (a := a) hn) .nil =>
            obtain ⟨xs, q1, q2⟩ := s.ok _ _ _ hn hz
            obtain ⟨g1, g2⟩ := toDs_ok s q2 (mapO_get hds)
            exact ⟨a, xs, ds, rfl, SqL.of q1, g1, ho, g2, fun l hl => aft_lst s q2 hl aft⟩
        · cases e
      · cases e
    · cases e
  · cases e
end BF

set_option Elab.async false
set_option linter.all false
set_option autoImplicit false
set_option maxRecDepth 100000
/-! Small sets of nested tuples: made of a list, sorted. -/
namespace BF
open PySem PySem.Spec
open PyProof.Rows L2
abbrev IsN (P : Program) (w : World) (hp : Heap) (k : NestedKey) (b : Addr) : Prop := (nestedKind P w).is hp k b
section
variable {P : Program} {w : World} {A : Around} {E : Value → Shared → Prop} {s : Shared}
theorem isN_stays {hp hp' : Heap} {k : NestedKey} {b : Addr} (z : IsN P w hp k b) (hk : ∀ c o, hp.get? c = some o → hp'.get? c = some o) : IsN P w hp' k b :=
  (PySem.nestedKind_stays).stays (fun c o _ _ hc _ => hk c o hc) z
theorem isN_beside {hp hp' : Heap} {k : NestedKey} {b c : Addr} {o : Obj} {en : Array (Int × Value)} {ee : Nat} {tb : SetTable} (z : IsN P w hp k b) (ho : hp.get? c = some o) (hd : o.data = .set en ee tb) (hs : Heap.SameBut c hp hp') : IsN P w hp' k b :=
  (PySem.nestedKind_stays).stays (fun d u vs n hu hv => by
    have hne : d ≠ c := by
      intro e
      rw [e, ho] at hu
      cases hu
      rw [hd] at hv
      cases hv
    exact (hs.2 d hne).trans hu) z
/-! ### what the search asks of them -/
def OfAt (P : Program) (w : World) (n : Nat) (s : Shared) (v : Value) : Prop := ∀ (A : Around) (E : Value → Shared → Prop) (Q : Bool → Shared → Prop), Q false s → wpAny (model P w) A (ofAClassStatement n v) Q E s
def ByAt (P : Program) (w : World) (n : Nat) (s : Shared) (v : Value) : Prop := ∀ (A : Around) (E : Value → Shared → Prop) (Q : Bool → Shared → Prop), (∀ r, Q r s) → wpAny (model P w) A (hashByValue n v) Q E s
mutual
theorem ofA_key : ∀ (k : NestedKey) (v : Value) (n : Nat) (s : Shared), NestedIs s.heap k v → k.depth ≤ n → OfAt P w n s v
  | .none, _, n, s, z, _ => by
    cases z
    intro A E Q h
    cases n <;> exact wpAny_pure h
  | .num i, _, n, s, z, _ => by
    cases z <;> (intro A E Q h; cases n <;> exact wpAny_pure h)
  | .text y, _, n, s, z, _ => by
    cases z
    intro A E Q h
    cases n <;> exact wpAny_pure h
  | .tup ks, _, n, s, z, hn => by
    cases z with
    | @tup b o vs m _ ho hc hd hk =>
      simp only [NestedKey.depth] at hn
      cases n with
      | zero => omega
      | succ n =>
        have all := ofA_keys ks vs.toList n s hk (by omega)
        intro A E Q h
        unfold ofAClassStatement
        refine wpAny_bind (wpAny_typeOf (T := "tuple") ⟨o, ho, hc⟩ ?_)
        dsimp only
        have et : (("tuple" : String) == "tuple") = true := by decide
        simp only [et, if_true, Bool.not_true, Bool.false_eq_true, if_false]
        try refine wpAny_bind (wpAny_pure ?_)
        try simp only [Bool.not_true, Bool.false_eq_true, if_false]
        show wpAny _ _ (seqItems? (.ref b) >>= _) _ _ s
        refine wpAny_bind (wpAny_seqItems ho hd ?_)
        dsimp only
        refine wpAny_bind ?_
        rw [← Array.forIn_toList]
        refine wpAny_forIn_list _ (fun left r s' => r.1 = none ∧ s' = s ∧ ∀ u ∈ left, OfAt P w n s u) _ ?_ ?_ _ _ ⟨rfl, rfl, all⟩
        · rintro u left r s' ⟨hr, rfl, hall⟩
          refine wpAny_bind (hall u List.mem_cons_self _ _ _ ?_)
          simp only [Bool.false_eq_true, if_false]
          exact wpAny_pure ⟨rfl, rfl, fun x hx => hall x (List.mem_cons_of_mem _ hx)⟩
        · rintro ⟨r1, r2⟩ s' ⟨hr, rfl, _⟩
          simp only at hr
          subst hr
          exact wpAny_pure h
theorem ofA_keys : ∀ (ks : List NestedKey) (vs : List Value) (n : Nat) (s : Shared), NestedAll s.heap ks vs → NestedKey.depthAll ks ≤ n → ∀ v ∈ vs, OfAt P w n s v
  | [], _, n, s, z, _, v, hv => by cases z; cases hv
  | k :: ks, _, n, s, z, hn, v, hv => by
    cases z with
    | cons z1 z2 =>
      simp only [NestedKey.depthAll] at hn
      rcases List.mem_cons.mp hv with e | hv
      · rw [e]; exact ofA_key k _ n s z1 (by omega)
      · exact ofA_keys ks _ n s z2 (by omega) v hv
end
mutual
theorem byA_key : ∀ (k : NestedKey) (v : Value) (n : Nat) (s : Shared), NestedIs s.heap k v → k.depth ≤ n → ByAt P w n s v
  | .none, _, n, s, z, _ => by
    cases z
    intro A E Q h
    cases n <;> exact wpAny_pure (h _)
  | .num i, _, n, s, z, _ => by
    cases z <;> (intro A E Q h; cases n <;> exact wpAny_pure (h _))
  | .text y, _, n, s, z, _ => by
    cases z
    intro A E Q h
    cases n <;> exact wpAny_pure (h _)
  | .tup ks, _, n, s, z, hn => by
    cases z with
    | @tup b o vs m _ ho hc hd hk =>
      simp only [NestedKey.depth] at hn
      cases n with
      | zero => omega
      | succ n =>
        have all := byA_keys ks vs.toList n s hk (by omega)
        intro A E Q h
        unfold hashByValue
        refine wpAny_bind (wpAny_specialOf (T := "tuple") ⟨o, ho, hc⟩ F.slot_tuple_hash.lookup ?_)
        show wpAny _ _ (seqItems? (.ref b) >>= _) _ _ s
        refine wpAny_bind (wpAny_seqItems ho hd ?_)
        refine wpAny_bind ?_
        show wpAny _ _ (forIn vs _ _) _ _ s
        rw [← Array.forIn_toList]
        refine wpAny_forIn_list _ (fun left r s' => r.1 = none ∧ s' = s ∧ ∀ u ∈ left, ByAt P w n s u) _ ?_ ?_ _ _ ⟨rfl, rfl, all⟩
        · rintro u left r s' ⟨hr, rfl, hall⟩
          refine wpAny_bind (hall u List.mem_cons_self _ _ _ fun c => ?_)
          cases c
          · simp only [Bool.not_false, if_true]
            refine wpAny_pure ?_
            exact wpAny_pure (h _)
          · simp only [Bool.not_true, Bool.false_eq_true, if_false]
            exact wpAny_pure ⟨rfl, rfl, fun x hx => hall x (List.mem_cons_of_mem _ hx)⟩
        · rintro ⟨r1, r2⟩ s' ⟨hr, rfl, _⟩
          simp only at hr
          subst hr
          exact wpAny_pure (h _)
theorem byA_keys : ∀ (ks : List NestedKey) (vs : List Value) (n : Nat) (s : Shared), NestedAll s.heap ks vs → NestedKey.depthAll ks ≤ n → ∀ v ∈ vs, ByAt P w n s v
  | [], _, n, s, z, _, v, hv => by cases z; cases hv
  | k :: ks, _, n, s, z, hn, v, hv => by
    cases z with
    | cons z1 z2 =>
      simp only [NestedKey.depthAll] at hn
      rcases List.mem_cons.mp hv with e | hv
      · rw [e]; exact byA_key k _ n s z1 (by omega)
      · exact byA_keys ks _ n s z2 (by omega) v hv
end
theorem seenN {k : NestedKey} {b : Addr} {Q : Bool → Shared → Prop} (hk : IsN P w s.heap k b) {ys : List Value} (hy : ∀ y ∈ ys, ∃ j c, y = Value.ref c ∧ IsN P w s.heap j c) (h : Q false s) : wpAny (model P w) A (searchCouldBeSeen (.ref b) ys) Q E s := by
  unfold searchCouldBeSeen
  refine wpAny_bind ?_
  refine wpAny_forIn_list _ (fun left r s' => r.1 = none ∧ s' = s ∧ ∀ y ∈ left, ∃ j c, y = Value.ref c ∧ IsN P w s.heap j c) _ ?_ ?_ _ _ ⟨rfl, rfl, hy⟩
  · rintro u left r s' ⟨hr, rfl, hall⟩
    obtain ⟨j, c, rfl, hc⟩ := hall u List.mem_cons_self
    have left' : ∀ y ∈ left, ∃ j c, y = Value.ref c ∧ IsN P w s'.heap j c := fun y hy => hall y (List.mem_cons_of_mem _ hy)
    dsimp only
    by_cases hv : (b == c || (carriedByValue (.ref b) && carriedByValue (.ref c))) = true
    · refine wp_if_pos hv ?_
      exact wpAny_pure ⟨rfl, rfl, left'⟩
    · refine wp_if_neg hv ?_
      refine wpAny_bind ((nestedKind P w).quiet hk ?_)
      simp only [Bool.not_true, Bool.false_eq_true, if_false]
      refine wpAny_bind ((nestedKind P w).quiet hc ?_)
      simp only [Bool.not_true, Bool.false_eq_true, if_false]
      refine wpAny_bind (ofA_key _ _ 8 _ hk.1 hk.2 _ _ _ ?_)
      simp only [Bool.false_eq_true, if_false]
      refine wpAny_bind (ofA_key _ _ 8 _ hc.1 hc.2 _ _ _ ?_)
      simp only [Bool.false_eq_true, if_false]
      exact wpAny_pure ⟨rfl, rfl, left'⟩
  · rintro ⟨r1, r2⟩ s' ⟨hr, rfl, _⟩
    simp only at hr
    subst hr
    exact wpAny_pure h
/-! ### the set -/
def nrows (w : World) (ps : List (Addr × NestedKey)) : List (Int × Value) := ps.map fun p => (p.2.hash w, Value.ref p.1)
structure SetN (P : Program) (w : World) (hp : Heap) (c : Addr) (ps : List (Addr × NestedKey)) (en : Array (Int × Value)) (ee : Nat) (tb : SetTable) : Prop where
  obj : ∃ o, hp.get? c = some o ∧ o.ExactSet ∧ o.data = .set en ee tb
  rws : en.toList = nrows w ps
  tok : TabOk tb (ps.map fun p => p.2.hash w)
  dis : (ps.map (·.2)).Nodup
  ek : ∀ p ∈ ps, IsN P w hp p.2 p.1
  ld : w.params.followText "set-order" = true ∨ tb.led = true
  room : ps.length * 5 < tb.mask * 3
  few : ps.length ≤ 60
variable {c : Addr} {ps : List (Addr × NestedKey)} {en : Array (Int × Value)} {ee : Nat} {tb : SetTable}
theorem SetN.size (R : SetN P w s.heap c ps en ee tb) : en.size = ps.length := by
  rw [← Array.length_toList, R.rws]
  exact List.length_map _
theorem SetN.fits (R : SetN P w s.heap c ps en ee tb) : tb.fits en.size = true := by
  have z1 := R.tok.sz
  rw [List.length_map] at z1
  have z2 := R.size
  have z3 := R.room
  unfold SetTable.fits SetTable.fill
  rw [R.tok.dm, Bool.and_eq_true, beq_iff_eq, decide_eq_true_eq]
  exact ⟨by omega, by show tb.place.size + 0 ≤ tb.mask; omega⟩
theorem SetN.at (R : SetN P w s.heap c ps en ee tb) {i : Nat} {p : Addr × NestedKey} (hi : ps[i]? = some p) : en[i]? = some (p.2.hash w, Value.ref p.1) := by
  rw [← Array.getElem?_toList, R.rws, nrows, List.getElem?_map, hi]
  rfl
theorem SetN.stands (R : SetN P w s.heap c ps en ee tb) : ¬ tb.gaveWay = true := by
  unfold SetTable.gaveWay
  rw [mask_odd R.tok.mok]
  decide
/-- from the n-th step of its way on, the search meets the key, or the free slot -/
theorem seekN (R : SetN P w s.heap c ps en ee tb) {x : Addr} {k : NestedKey} (hx : IsN P w s.heap k x) (hu : A.units + 8 < cLine) {m : Nat} (hm : m < 10 * SetTable.turns tb.mask)
    (hfree : way tb.mask (k.hash w) m ∉ tb.place.toList) (hfull : ∀ n, n < m → way tb.mask (k.hash w) n ∈ tb.place.toList) {Q : SetFound → Shared → Prop}
    (qin : k ∈ ps.map (·.2) → Q (.there none) s) (qout : k ∉ ps.map (·.2) → Q (.free (way tb.mask (k.hash w) m) false) s) :
    ∀ (fuel n : Nat) (from_ : Option SetTable.Probe), from_.getD (tb.probeStart (k.hash w)) = nth tb.mask (runAt tb.mask (SetTable.bits (k.hash w) % (tb.mask + 1)) (SetTable.bits (k.hash w))) n → n ≤ m → m - n < fuel →
      (∀ (i : Nat) p, ps[i]? = some p → p.2 = k → ∃ n', n ≤ n' ∧ n' < m ∧ tb.place.toList[i]? = some (way tb.mask (k.hash w) n')) →
      wpAny (model P w) A (setSearchFrom c (.ref x) (k.hash w) true fuel from_) Q E s
  | 0, n, _, _, _, hf, _ => absurd hf (Nat.not_lt_zero _)
  | fuel + 1, n, from_, hfr, hn, hf, reach => by
    obtain ⟨o, ho, hex, hd⟩ := R.obj
    rw [L2.setSearchFrom_succ]
    refine wpAny_bind (wpAny_setState_of ho hd R.fits ?_)
    dsimp only
    refine wp_if_neg R.stands ?_
    try refine wpAny_bind (wpAny_pure ?_)
    obtain ⟨p0, hp0⟩ : ∃ p0, p0 = runAt tb.mask (SetTable.bits (k.hash w) % (tb.mask + 1)) (SetTable.bits (k.hash w)) := ⟨_, rfl⟩
    rw [← hp0] at hfr
    have clean : ∀ (q : Nat) (p : SetTable.Probe), p.dummy = none → (nth tb.mask p q).dummy = none := by
      intro q
      induction q with
      | zero => intro p h; exact h
      | succ q ih =>
        intro p h
        refine ih (adv tb.mask p) ?_
        unfold adv
        split <;> exact h
    have d0 : (nth tb.mask p0 n).dummy = none := clean n p0 (by rw [hp0]; rfl)
    have on : ∀ q, nth tb.mask (nth tb.mask p0 n) q = nth tb.mask p0 (n + q) := fun q => (nth_add tb.mask n p0 q).symm
    have onj : ∀ q, (nth tb.mask (nth tb.mask p0 n) q).j = way tb.mask (k.hash w) (n + q) := fun q => by rw [on, hp0]
    have spec := go_spec tb R.tok.ris R.tok.dm (fun i => (en[i]?.map (·.1)).getD 0) (k.hash w) (10 * SetTable.turns tb.mask) (m - n) _ d0 (by omega)
      (fun q hq => by rw [onj]; exact hfull (n + q) (by omega)) (by rw [onj, show n + (m - n) = m by omega]; exact hfree)
    have hashOf : ∀ (i : Nat) p, ps[i]? = some p → (fun i => (en[i]?.map (·.1)).getD 0) i = p.2.hash w := fun i p hi => by
      simp only [R.at hi, Option.map_some, Option.getD_some]
    rcases spec with ⟨q, i, hq, hi, _, hno, hpr⟩ | ⟨hno, hpr⟩
    · have hpr2 : tb.probe (fun i => (en[i]?.map (·.1)).getD 0) (k.hash w) (from_.getD (tb.probeStart (k.hash w))) = some (.candidate (way tb.mask (k.hash w) (n + q)) i (nth tb.mask p0 (n + (q + 1)))) := by
        rw [hfr, ← onj, ← on]
        exact hpr
      rw [hpr2]
      dsimp only
      rw [onj] at hi
      have il : i < ps.length := by
        have z1 : i < tb.place.toList.length := (List.getElem?_eq_some_iff.mp hi).1
        have z2 := R.tok.sz
        rw [List.length_map] at z2
        rw [Array.length_toList] at z1
        omega
      obtain ⟨p, hp⟩ : ∃ p, ps[i]? = some p := ⟨_, List.getElem?_eq_getElem il⟩
      have pm : p ∈ ps := List.mem_of_getElem? hp
      have hpk := R.ek p pm
      have behind : wpAny (model P w) A (L2.searchRest c (.ref x) (k.hash w) true fuel en tb (way tb.mask (k.hash w) (n + q)) i (nth tb.mask p0 (n + (q + 1)))) Q E s := by
        unfold L2.searchRest
        rw [R.at hp]
        dsimp only
        refine wpAny_bind (wpAny_holding ((nestedKind P w).eqBool hu hpk hx ?_))
        refine wpAny_bind (wpAny_setState_of ho hd R.fits ?_)
        dsimp only
        by_cases same : p.2 = k
        · refine wp_if_pos (by simp [same]) ?_
          exact wpAny_pure (qin (List.mem_map.mpr ⟨p, pm, same⟩))
        · refine wp_if_neg (by simp [same]) ?_
          try refine wpAny_bind (wpAny_pure ?_)
          rw [L2.sameMem]
          dsimp only
          have live : tb.slot (way tb.mask (k.hash w) (n + q)) = .live i := slot_live R.tok.ris hi
          simp only [if_true, live, R.at hp]
          refine wpAny_bind (wpAny_isSame_ref_self (wpAny_bind (wpAny_pure ?_)))
          simp only [if_true]
          refine wp_if_neg (by simp [same]) ?_
          refine seekN R hx hu hm hfree hfull qin qout fuel (n + (q + 1)) _ (by rw [Option.getD_some, hp0]) (by omega) (by omega) fun i1 p1 h1 hk1 => ?_
          obtain ⟨n', a1, a2, a3⟩ := reach i1 p1 h1 hk1
          refine ⟨n', ?_, a2, a3⟩
          refine Classical.byContradiction fun z => ?_
          by_cases zz : n' = n + q
          · rw [zz] at a3
            have live2 := slot_live R.tok.ris a3
            rw [live] at live2
            injection live2 with live2
            rw [← live2, hp] at h1
            exact same ((congrArg Prod.snd (Option.some.inj h1)).trans hk1)
          · exact hno (n' - n) i1 (by omega) (by rw [onj, show n + (n' - n) = n' by omega]; exact a3) ((hashOf i1 p1 h1).trans (by rw [hk1]))
      by_cases hl : tb.led = true
      · refine wp_if_neg (by simp [hl]) ?_
        try refine wpAny_bind (wpAny_pure ?_)
        exact behind
      · refine wp_if_pos (by simp [hl]) ?_
        refine wpAny_bind (seenN hx (fun y hy => ?_) ?_)
        · obtain ⟨u, hu1, hu2⟩ := List.mem_map.mp hy
          have hu3 : u ∈ en ∧ u.1 = k.hash w := by simpa using hu1
          have hu4 : u ∈ en.toList := by simpa using hu3.1
          rw [R.rws] at hu4
          obtain ⟨p2, hp2, e2⟩ := List.mem_map.mp hu4
          exact ⟨p2.2, p2.1, by rw [← hu2, ← e2], R.ek p2 hp2⟩
        · refine wp_if_neg (by decide) ?_
          try refine wpAny_bind (wpAny_pure ?_)
          exact behind
    · have hpr2 : tb.probe (fun i => (en[i]?.map (·.1)).getD 0) (k.hash w) (from_.getD (tb.probeStart (k.hash w))) = some (.empty (way tb.mask (k.hash w) m) none) := by
        have ew : way tb.mask (k.hash w) m = (nth tb.mask (nth tb.mask p0 n) (m - n)).j := by rw [onj, show n + (m - n) = m by omega]
        rw [hfr, ew]
        exact hpr
      rw [hpr2]
      dsimp only
      refine wpAny_pure (qout fun hmem => ?_)
      obtain ⟨p1, hp1, hk1⟩ := List.mem_map.mp hmem
      obtain ⟨i1, hi1⟩ := List.getElem?_of_mem hp1
      obtain ⟨n', a1, a2, a3⟩ := reach i1 p1 hi1 hk1
      exact hno (n' - n) i1 (by omega) (by rw [onj, show n + (n' - n) = n' by omega]; exact a3) ((hashOf i1 p1 hi1).trans (by rw [hk1]))
/-- the search as an adding asks for it -/
theorem searchN (R : SetN P w s.heap c ps en ee tb) {x : Addr} {k : NestedKey} (hx : IsN P w s.heap k x) (hu : A.units + 8 < cLine) {Q : SetFound → Shared → Prop}
    (qin : k ∈ ps.map (·.2) → Q (.there none) s)
    (qout : ∀ m, k ∉ ps.map (·.2) → way tb.mask (k.hash w) m ∉ tb.place.toList → (∀ n, n < m → way tb.mask (k.hash w) n ∈ tb.place.toList) → Q (.free (way tb.mask (k.hash w) m) false) s) :
    wpAny (model P w) A (setSearch c (.ref x) (k.hash w) true) Q E s := by
  have z1 := R.room
  obtain ⟨m, m1, m2, m3⟩ := R.tok.first (by rw [List.length_map]; omega) (k.hash w)
  have big : m < 100000 := by
    have m1' := m1
    unfold SetTable.turns at m1'
    rcases R.tok.mok with e | e | e <;> rw [e] at m1' <;> omega
  unfold setSearch
  refine seekN R hx hu m1 m2 m3 qin (fun z => qout m z m2 m3) 100000 0 none rfl (Nat.zero_le _) (by omega) fun i p hp hk => ?_
  have hi : (ps.map fun p => p.2.hash w)[i]? = some (k.hash w) := by rw [List.getElem?_map, hp, ← hk]; rfl
  have il : i < tb.place.toList.length := by
    have z2 : i < ps.length := (List.getElem?_eq_some_iff.mp hp).1
    have z3 := R.tok.sz
    rw [List.length_map] at z3
    rw [Array.length_toList]
    omega
  obtain ⟨n, n1, n2⟩ := R.tok.before m2 hi (List.getElem?_eq_getElem il)
  exact ⟨n, Nat.zero_le _, n1, by rw [List.getElem?_eq_getElem il, n2]⟩
theorem nrows_put (ps : List (Addr × NestedKey)) (i : Nat) (x : Addr) (k : NestedKey) : nrows w (ps.take i ++ (x, k) :: ps.drop i) = (nrows w ps).take i ++ (k.hash w, Value.ref x) :: (nrows w ps).drop i := by
  simp only [nrows, List.map_append, List.map_cons, List.map_take, List.map_drop]
/-- in another order -/
theorem nrows_pick (ps : List (Addr × NestedKey)) (en : Array (Int × Value)) (ord : Array Nat) (h : en.toList = nrows w ps) (hp : ord.toList.Perm (List.range ps.length)) :
    ∃ ps2, (ord.filterMap (en[·]?)).toList = nrows w ps2 ∧ ps2.Perm ps ∧ (ps2.map fun p => p.2.hash w) = ord.toList.map fun i => (en.map (·.1)).getD i 0 := by
  have sz : en.size = ps.length := by rw [← Array.length_toList, h, nrows, List.length_map]
  have get : ∀ i, en[i]? = (ps[i]?).map fun p : Addr × NestedKey => (p.2.hash w, Value.ref p.1) := fun i => by rw [← Array.getElem?_toList, h, nrows, List.getElem?_map]
  have main : ∀ l : List Nat, (∀ i ∈ l, i < ps.length) → l.filterMap (fun i => en[i]?) = nrows w (l.filterMap fun i => ps[i]?) ∧ ((l.filterMap fun i => ps[i]?).map fun p => p.2.hash w) = l.map fun i => (en.map (·.1)).getD i 0 := by
    intro l
    induction l with
    | nil => intro _; exact ⟨rfl, rfl⟩
    | cons i l ih =>
      intro hl
      obtain ⟨e1, e2⟩ := ih fun j hj => hl j (List.mem_cons_of_mem _ hj)
      have hi := hl i List.mem_cons_self
      have pi := List.getElem?_eq_getElem hi
      have ei := get i
      rw [pi, Option.map_some] at ei
      rw [List.filterMap_cons_some ei, List.filterMap_cons_some pi, e1, List.map_cons, List.map_cons, e2]
      refine ⟨rfl, ?_⟩
      have : (en.map (·.1)).getD i 0 = (ps[i]).2.hash w := by
        rw [Array.getD_eq_getD_getElem?, Array.getElem?_map, ei]; rfl
      rw [this]
  obtain ⟨m1, m2⟩ := main ord.toList fun i hi => List.mem_range.mp (hp.mem_iff.mp hi)
  refine ⟨ord.toList.filterMap fun i => ps[i]?, by simpa using m1, ?_, m2⟩
  have whole : ∀ n, n ≤ ps.length → (List.range n).filterMap (fun i => ps[i]?) = ps.take n := by
    intro n
    induction n with
    | zero => intro _; rfl
    | succ n ih =>
      intro hn
      rw [List.range_succ, List.filterMap_append, ih (by omega), List.take_add_one, List.getElem?_eq_getElem (show n < ps.length by omega)]
      simp [List.getElem?_eq_getElem (show n < ps.length by omega)]
  have := hp.filterMap fun i => ps[i]?
  rw [whole _ (Nat.le_refl _), List.take_length] at this
  exact this
/-- a larger table -/
theorem relayN {o : Obj} (ho : s.heap.get? c = some o) (hex : o.ExactSet) (hd : o.data = .set en ee tb) (hr : en.toList = nrows w ps) (hs : tb.place.size = en.size) (hdm : tb.dummies = #[]) (hle : en.size ≤ tb.mask) (nd : (ps.map (·.2)).Nodup)
    (ks : ∀ p ∈ ps, IsN P w s.heap p.2 p.1) (ld : w.params.followText "set-order" = true ∨ tb.led = true) (few : ps.length ≤ 60) {want W : Nat} (w1 : SetTable.sizeAbove want - 1 = W) (w2 : MaskOk W) (w3 : SetTable.sizeAbove want ≤ 128) (w4 : ps.length * 5 < W * 3) {Q : Unit → Shared → Prop}
    (q : ∀ hp' ps' en' ee' tb', Heap.SameBut c s.heap hp' → SetN P w hp' c ps' en' ee' tb' → ps'.Perm ps → Q () { s with heap := hp' }) : wpAny (model P w) A (setRelay c want) Q E s := by
  have sz : en.size = ps.length := by rw [← Array.length_toList, hr, nrows, List.length_map]
  have fit : tb.fits en.size = true := by
    unfold SetTable.fits SetTable.fill
    rw [hdm, Bool.and_eq_true, beq_iff_eq, decide_eq_true_eq]
    exact ⟨hs, by show tb.place.size + 0 ≤ tb.mask; omega⟩
  obtain ⟨tb', ord, e, pm, T, em, el, epl, ed⟩ := relaid_ok tb (hs := en.map (·.1)) (wanted := want) w1 w2 (by rw [Array.size_map, sz]; omega)
  rw [Array.size_map, sz] at pm
  obtain ⟨ps2, r1, r2, r3⟩ := nrows_pick ps en ord hr pm
  rw [← r3] at T
  have s2 : (ord.filterMap (en[·]?)).size = en.size := by rw [← Array.length_toList, r1, nrows, List.length_map, r2.length_eq, sz]
  rw [L2.setRelay_eq]
  refine wpAny_bind (wpAny_setState_of ho hd fit ?_)
  dsimp only
  refine wp_if_neg (by rw [sizeLine_eq]; omega) ?_
  try refine wpAny_bind (wpAny_pure ?_)
  rw [e]
  dsimp only
  refine wpAny_bind ?_
  refine wp_if_neg (by rw [s2]; simp) ?_
  try refine wpAny_bind (wpAny_pure ?_)
  refine wpAny_pure ?_
  dsimp only
  refine wpAny_storeSet_of ho hd ?_ (by rw [s2, sz, sizeLine_eq]; omega)
  have sb : Heap.SameBut c s.heap (s.heap.update c (Obj.putSet (ord.filterMap (en[·]?)) tb')) := Heap.SameBut.update ..
  exact q _ ps2 (ord.filterMap (en[·]?)) (ee + 1) tb' sb ⟨⟨_, store_at ho hd, ⟨hex.1, hex.2.1, hex.2.2⟩, rfl⟩, r1, T, (r2.map (·.2)).nodup_iff.mpr nd, fun p hp => isN_beside (ks p (r2.mem_iff.mp hp)) ho hd sb, by rw [el]; exact ld, by rw [r2.length_eq, em]; exact w4, by rw [r2.length_eq]; exact few⟩ r2
/-- one more -/
theorem addN (R : SetN P w s.heap c ps en ee tb) {x : Addr} {k : NestedKey} (hx : IsN P w s.heap k x) (hu : A.units + 8 < cLine) (hsm : k ∉ ps.map (·.2) → ps.length ≤ 59) {Q : Bool → Shared → Prop}
    (q : ∀ b hp' ps' en' ee' tb', Heap.SameBut c s.heap hp' → SetN P w hp' c ps' en' ee' tb' → (k ∈ ps.map (·.2) → ps' = ps) → (k ∉ ps.map (·.2) → ps'.Perm ((x, k) :: ps)) → Q b { s with heap := hp' }) :
    wpAny (model P w) A (setAddHashed c (.ref x) (k.hash w)) Q E s := by
  obtain ⟨o, ho, hex, hd⟩ := R.obj
  have z1 := R.size
  have z2 := R.room
  unfold setAddHashed
  refine wpAny_holding ?_
  rw [show (100000 : Nat) = 99999 + 1 from rfl, L2.setAddHashedIn_succ]
  refine wpAny_bind (wpAny_setState_of ho hd R.fits ?_)
  dsimp only
  refine wp_if_neg (by simp [byScan, Value.scannable]) ?_
  try refine wpAny_bind (wpAny_pure ?_)
  refine wpAny_bind (searchN R hx hu (fun hm => ?_) fun m hm hfree hfull => ?_)
  · dsimp only
    exact wpAny_pure (q false s.heap ps en ee tb (Heap.SameBut.refl c s.heap) R (fun _ => rfl) fun z => absurd hm z)
  · dsimp only
    have hsm := hsm hm
    refine wpAny_bind (wpAny_setState_of ho hd R.fits ?_)
    dsimp only
    obtain ⟨p1, p2, p3, p4, p5, p6, p7, p8, p9⟩ := R.tok.put hfree hfull
    generalize hpt : tb.put (way tb.mask (k.hash w) m) = pt at p1 p3 p4 p5 p6 p7 p8 p9 ⊢
    obtain ⟨tb1, i⟩ := pt
    dsimp only at p1 p3 p4 p5 p6 p7 p8 p9 ⊢
    subst p1
    have hin : (SetTable.insertAt en (SetTable.below tb.place (way tb.mask (k.hash w) m)) (k.hash w, Value.ref x)).toList = nrows w (ps.take (SetTable.below tb.place (way tb.mask (k.hash w) m)) ++ (x, k) :: ps.drop (SetTable.below tb.place (way tb.mask (k.hash w) m))) := by
      rw [SetTable.toList_insertAt, nrows_put, R.rws]
    generalize SetTable.below tb.place (way tb.mask (k.hash w) m) = i at p2 p3 hin ⊢
    have pm := put_perm ps i (x, k)
    have hlen : (ps.take i ++ (x, k) :: ps.drop i).length = ps.length + 1 := pm.length_eq
    have hhs : (ps.take i ++ (x, k) :: ps.drop i).map (fun p => p.2.hash w) = (ps.map fun p => p.2.hash w).take i ++ k.hash w :: (ps.map fun p => p.2.hash w).drop i := by
      simp only [List.map_append, List.map_cons, List.map_take, List.map_drop]
    rw [← hhs] at p3
    have nd1 : ((ps.take i ++ (x, k) :: ps.drop i).map (·.2)).Nodup := by
      refine (pm.map (·.2)).nodup_iff.mpr ?_
      rw [List.map_cons]
      exact List.nodup_cons.mpr ⟨hm, R.dis⟩
    have hes : (SetTable.insertAt en i (k.hash w, Value.ref x)).size = ps.length + 1 := by
      rw [← Array.length_toList, hin, nrows, List.length_map, hlen]
    generalize SetTable.insertAt en i (k.hash w, Value.ref x) = en1 at hin hes ⊢
    generalize ps.take i ++ (x, k) :: ps.drop i = ps1 at pm hlen p3 nd1 hin
    have goal : ∀ tb2 : SetTable, TabOk tb2 (ps1.map fun p => p.2.hash w) → tb2.mask = tb.mask → tb2.led = tb.led → tb2.fill = ps.length + 1 →
        wpAny (model P w) A (storeSet c en1 tb2 >>= fun _ => if (!false && tb2.tooFull) = true then (do setRelay c (SetTable.grown (en.size + 1)); pure true) else pure true) Q E s := fun tb2 t1 t2 t3 t4 => by
      refine wpAny_bind ?_
      refine wpAny_storeSet_of ho hd ?_ (by rw [hes, sizeLine_eq]; omega)
      have sb : Heap.SameBut c s.heap (s.heap.update c (Obj.putSet en1 tb2)) := Heap.SameBut.update ..
      have ho1 := store_at (es' := en1) (t' := tb2) ho hd
      generalize s.heap.update c (Obj.putSet en1 tb2) = hp1 at sb ho1 ⊢
      have keys1 : ∀ p ∈ ps1, IsN P w hp1 p.2 p.1 := fun p hp => by
        rcases List.mem_cons.mp (pm.mem_iff.mp hp) with e | hp
        · rw [e]; exact isN_beside hx ho hd sb
        · exact isN_beside (R.ek p hp) ho hd sb
      have ld1 : w.params.followText "set-order" = true ∨ tb2.led = true := by rw [t3]; exact R.ld
      by_cases hf : tb2.tooFull = true
      · have full : (ps.length + 1) * 5 ≥ tb.mask * 3 := by
          have h := hf
          unfold SetTable.tooFull at h
          rw [decide_eq_true_eq, t4, t2] at h
          exact h
        have two : (tb.mask = 7 ∧ ps.length = 4) ∨ (tb.mask = 31 ∧ ps.length = 18) := by
          rcases R.tok.mok with e | e | e
          · left; rw [e] at full z2; exact ⟨e, by omega⟩
          · right; rw [e] at full z2; exact ⟨e, by omega⟩
          · exfalso; rw [e] at full; omega
        have at1 : tb2.place.size = en1.size := by
          have h := t1.sz
          rw [List.length_map, hlen] at h
          rw [h, hes]
        refine wp_if_pos (by rw [hf]; rfl) ?_
        rw [z1]
        have lay : ∀ W : Nat, SetTable.sizeAbove (SetTable.grown (ps.length + 1)) - 1 = W → MaskOk W → SetTable.sizeAbove (SetTable.grown (ps.length + 1)) ≤ 128 → (ps.length + 1) * 5 < W * 3 →
            wpAny (model P w) A (do setRelay c (SetTable.grown (ps.length + 1)); pure true) Q E { s with heap := hp1 } := fun W w1 w2 w3 w4 => by
          refine wpAny_bind (relayN (s := { s with heap := hp1 }) ho1 ⟨hex.1, hex.2.1, hex.2.2⟩ rfl hin at1 t1.dm (by rw [hes, t2]; rcases two with ⟨e, e2⟩ | ⟨e, e2⟩ <;> omega) nd1 keys1 ld1 (by rw [hlen]; omega) w1 w2 w3 (by rw [hlen]; exact w4) ?_)
          intro hp2 ps2 en2 ee2 tb3 sb2 R2 pm2
          exact wpAny_pure (q true hp2 ps2 en2 ee2 tb3 (sb.trans sb2) R2 (fun z => absurd z hm) fun _ => pm2.trans pm)
        rcases two with ⟨_, e2⟩ | ⟨_, e2⟩
        · exact lay 31 (by rw [e2, size_20]) (.inr (.inl rfl)) (by rw [e2, size_20]; decide) (by omega)
        · exact lay 127 (by rw [e2, size_76]) (.inr (.inr rfl)) (by rw [e2, size_76]; decide) (by omega)
      · have nf : tb2.tooFull = false := by simpa using hf
        have rest : ps1.length * 5 < tb2.mask * 3 := by
          have h := nf
          unfold SetTable.tooFull at h
          rw [decide_eq_false_iff_not, t4, t2] at h
          rw [hlen, t2]
          omega
        refine wp_if_neg (by rw [nf]; decide) ?_
        exact wpAny_pure (q true hp1 ps1 en1 (ee + 1) tb2 sb ⟨⟨_, ho1, ⟨hex.1, hex.2.1, hex.2.2⟩, rfl⟩, hin, t1, nd1, keys1, ld1, rest, by rw [hlen]; omega⟩ (fun z => absurd z hm) fun _ => pm)
    rw [List.length_map] at p9
    have t7 : tb1.mask = tb.mask := p4
    by_cases hpl : tb1.plain = true
    · refine wp_if_pos hpl ?_
      refine wpAny_bind (byA_key _ _ 8 _ hx.1 hx.2 _ _ _ fun r => ?_)
      cases r
      · exact goal { tb1 with plain := false } ⟨p3.ris, p3.dm, p3.sz, p3.mok, p3.bd, p3.reach⟩ t7 p5 p9
      · exact goal tb1 p3 t7 p5 p9
    · refine wp_if_neg hpl ?_
      refine wpAny_bind (wpAny_pure ?_)
      exact goal tb1 p3 t7 p5 p9
/-! ### set(list) -/
/-- what the set has of the first i -/
structure GotN (ks : List (Addr × NestedKey)) (i : Nat) (ps : List (Addr × NestedKey)) : Prop where
  sub : ∀ p ∈ ps, p ∈ ks.take i
  all : ∀ p ∈ ks.take i, p.2 ∈ ps.map (·.2)
theorem gotN_same {ks ps : List (Addr × NestedKey)} {i : Nat} {p : Addr × NestedKey} (g : GotN ks i ps) (h : ks[i]? = some p) (hm : p.2 ∈ ps.map (·.2)) : GotN ks (i + 1) ps := by
  have et : ks.take (i + 1) = ks.take i ++ [p] := by rw [List.take_add_one, h]; rfl
  constructor
  · intro r hr
    rw [et]
    exact List.mem_append_left _ (g.sub r hr)
  · intro r hr
    rw [et, List.mem_append, List.mem_singleton] at hr
    rcases hr with hr | rfl
    · exact g.all r hr
    · exact hm
theorem gotN_more {ks ps ps' : List (Addr × NestedKey)} {i : Nat} {p : Addr × NestedKey} (g : GotN ks i ps) (h : ks[i]? = some p) (pm : ps'.Perm (p :: ps)) : GotN ks (i + 1) ps' := by
  have et : ks.take (i + 1) = ks.take i ++ [p] := by rw [List.take_add_one, h]; rfl
  constructor
  · intro r hr
    rw [et, List.mem_append, List.mem_singleton]
    rcases List.mem_cons.mp (pm.mem_iff.mp hr) with rfl | hr
    · exact .inr rfl
    · exact .inl (g.sub r hr)
  · intro r hr
    rw [(pm.map (·.2)).mem_iff, List.map_cons, List.mem_cons]
    rw [et, List.mem_append, List.mem_singleton] at hr
    rcases hr with hr | rfl
    · exact .inr (g.all r hr)
    · exact .inl rfl
theorem short_of {α : Type} [DecidableEq α] : ∀ {l D : List α}, l.Nodup → (∀ x ∈ l, x ∈ D) → l.length ≤ D.length
  | [], _, _, _ => Nat.zero_le _
  | x :: l, D, hn, hs => by
    rw [List.nodup_cons] at hn
    have hx := hs x List.mem_cons_self
    have := short_of (l := l) (D := D.erase x) hn.2 fun y hy => (List.mem_erase_of_ne (by intro e; subst e; exact hn.1 hy)).mpr (hs y (List.mem_cons_of_mem _ hy))
    rw [List.length_erase_of_mem hx] at this
    have := List.length_pos_of_mem hx
    rw [List.length_cons]
    omega
theorem SetN.carry {hp hp' : Heap} (R : SetN P w hp c ps en ee tb) (ha : ∀ o, hp.get? c = some o → hp'.get? c = some o) (ht : ∀ p ∈ ps, IsN P w hp' p.2 p.1) : SetN P w hp' c ps en ee tb :=
  ⟨let ⟨o, ho, r⟩ := R.obj; ⟨o, ha o ho, r⟩, R.rws, R.tok, R.dis, ht, R.ld, R.room, R.few⟩
theorem setN_new {hp : Heap} (ho : hp.get? c = some { cls := .type "set", dict := none, data := .set #[] 0 (.fresh 0 0 (!w.params.followText "set-order")) }) : SetN P w hp c [] #[] 0 (.fresh 0 0 (!w.params.followText "set-order")) := by
  refine ⟨⟨_, ho, ⟨rfl, rfl, rfl⟩, rfl⟩, rfl, ⟨List.Pairwise.nil, rfl, rfl, .inl rfl, fun x hx => (by cases hx), fun i h j hi => (by simp at hi)⟩, List.nodup_nil, fun p hp => (by cases hp), ?_, (show 0 < 7 * 3 by decide), by simp⟩
  show _ ∨ (!w.params.followText "set-order") = true
  cases w.params.followText "set-order"
  · exact .inr rfl
  · exact .inl rfl
/-- the loop that takes one item after another -/
theorem fillN {I : Addr} {fp wr : List Addr} {G : Array GenState → Array GenState → Prop} {n : Nat} {Pv : Nat → Value → Prop} {St : Nat → Shared → Prop} {R : Result → Shared → Prop}
    (W : WalksS P w A.in1 I fp wr G n Pv St) (S : Addr) (outside : S ∉ fp) (ks : List (Addr × NestedKey)) (D : List NestedKey) (hn : n = ks.length) (hD : D.length ≤ 60) (hks : ∀ p ∈ ks, p.2 ∈ D) (val : ∀ i v, Pv i v → ∃ p, ks[i]? = some p ∧ v = .ref p.1)
    (h0 : Heap) (key0 : ∀ p ∈ ks, IsN P w h0 p.2 p.1) (S0 : h0.get? S = none) (w0 : ∀ b ∈ wr, h0.get? b = none) (hu : A.in1.units + 8 < cLine) :
    ∀ (left i : Nat) (s : Shared), n - i = left → i ≤ n → St i s → (∀ b o, h0.get? b = some o → s.heap.get? b = some o) → (∃ ps en ee tb, SetN P w s.heap S ps en ee tb ∧ GotN ks i ps) →
      (∀ s' ps en ee tb, Moved (S :: wr) G s s' → SetN P w s'.heap S ps en ee tb → GotN ks n ps → (∀ b o, h0.get? b = some o → s'.heap.get? b = some o) → R (.ok (.ret .none)) s') →
      codeAny (model P w) A (.builtin "set.update.loop" ⟨[.ref S, .ref I], []⟩) R s := by
  have offW : S ∉ wr := fun z => outside (W.sub _ z)
  have wide : ∀ b ∈ wr, b ∈ S :: wr := fun b hb => List.mem_cons_of_mem _ hb
  have still : ∀ {s s' : Shared}, Moved wr G s s' → (∀ b o, h0.get? b = some o → s.heap.get? b = some o) → ∀ b o, h0.get? b = some o → s'.heap.get? b = some o := fun mv hk b o e =>
    mv.heap b o (fun hb => by rw [w0 b hb] at e; cases e) (hk b o e)
  intro left
  induction left with
  | zero =>
    intro i s hleft hi hst hk ⟨ps, en, ee, tb, RS, g⟩ fin
    obtain rfl : i = n := by omega
    refine codeAny_builtin F.entry_set_update_loop ?_
    rw [Around.under_plainId F.plain_set_update_loop _]
    show wpAny _ A.in1 (pyNext (.ref I) >>= _) _ _ s
    refine wpAny_bind (W.done s _ _ hst fun s' mv => ?_)
    have hk' := still mv hk
    exact wpAny_pure (fin s' ps en ee tb (mv.mono wide) (RS.carry (fun o e => mv.heap S o offW e) fun p hp => isN_stays (key0 p (List.mem_of_mem_take (g.sub p hp))) hk') g hk')
  | succ left ih =>
    intro i s hleft hi hst hk ⟨ps, en, ee, tb, RS, g⟩ fin
    have hlt : i < n := by omega
    refine codeAny_builtin F.entry_set_update_loop ?_
    rw [Around.under_plainId F.plain_set_update_loop _]
    show wpAny _ A.in1 (pyNext (.ref I) >>= _) _ _ s
    refine wpAny_bind (W.item i s _ _ hlt hst fun v s' hPv hst' mv => ?_)
    obtain ⟨p, hp, rfl⟩ := val i v hPv
    have hk' := still mv hk
    have RS' : SetN P w s'.heap S ps en ee tb := RS.carry (fun o e => mv.heap S o offW e) fun q hq => isN_stays (key0 q (List.mem_of_mem_take (g.sub q hq))) hk'
    have hx : IsN P w s'.heap p.2 p.1 := isN_stays (key0 p (List.mem_of_getElem? hp)) hk'
    show wpAny _ A.in1 (holding [Value.ref p.1] (setAdd S (.ref p.1)) >>= _) _ _ s'
    refine wpAny_bind (wpAny_holding ?_)
    unfold setAdd
    refine wpAny_holding ?_
    refine wpAny_bind ((nestedKind P w).pyHash hu hx ?_)
    have room : p.2 ∉ ps.map (·.2) → ps.length ≤ 59 := fun z => by
      have nd : (p.2 :: ps.map (·.2)).Nodup := List.nodup_cons.mpr ⟨z, RS.dis⟩
      have := short_of (D := D) nd fun x hx => by
        rcases List.mem_cons.mp hx with rfl | hx
        · exact hks p (List.mem_of_getElem? hp)
        · obtain ⟨q, hq, rfl⟩ := List.mem_map.mp hx
          exact hks q (List.mem_of_mem_take (g.sub q hq))
      rw [List.length_cons, List.length_map] at this
      omega
    refine addN (s := { s' with toks := s'.toks + (nestedKind P w).draws p.2 }) RS' hx hu room fun b hp' ps' en' ee' tb' sb RS2 c1 c2 => ?_
    have g' : GotN ks (i + 1) ps' := by
      by_cases z : p.2 ∈ ps.map (·.2)
      · rw [c1 z]; exact gotN_same g hp z
      · exact gotN_more g hp (c2 z)
    have hk2 : ∀ b o, h0.get? b = some o → hp'.get? b = some o := fun b o e => (sb.2 b (fun z => by rw [z, S0] at e; cases e)).trans (hk' b o e)
    refine wpAny_pure ⟨plainId_quiet F.plain_set_update_loop _, ih (i + 1) _ (by omega) hlt (W.frame _ s' _ _ hst' (Nat.le_add_right _ _) fun b hb o e => ?_) hk2 ⟨ps', en', ee', tb', RS2, g'⟩ fun s'' ps2 en2 ee2 tb2 mv2 RS3 g3 hk3 => ?_⟩
    · have : b ≠ S := fun z => outside (z ▸ hb)
      rw [sb.2 b this]; exact e
    · refine fin s'' ps2 en2 ee2 tb2 (Moved.trans W.gtrans ((mv.mono wide).then_heap (Nat.le_add_right _ _) fun b o hb e => ?_) mv2) RS3 g3 hk3
      have : b ≠ S := fun z => hb (by rw [z]; exact List.mem_cons_self)
      rw [sb.2 b this]; exact e
set_option maxHeartbeats 3200000 in
/-- set(list) -/
theorem call_setN {l : Addr} {items : Array Value} (ks : List (Addr × NestedKey)) (D : List NestedKey) {Q : Value → Shared → Prop} (hh : A.handled = none) (hl : s.heap.IsList l items) (hit : items.toList = ks.map fun p => Value.ref p.1)
    (hk : ∀ p ∈ ks, IsN P w s.heap p.2 p.1) (hD : D.length ≤ 60) (hks : ∀ p ∈ ks, p.2 ∈ D) (hu : A.units + 20 < cLine)
    (fin : ∀ (hp : Heap) (tk : Nat) ps en ee tb, SetN P w hp s.heap.objs.size ps en ee tb → GotN ks ks.length ps → (∀ b o, s.heap.get? b = some o → hp.get? b = some o) → Q (.ref s.heap.objs.size) { s with heap := hp, toks := tk }) :
    wpAny (model P w) A (call (.type "set") [.ref l]) Q E s := by
  have isz : items.size = ks.length := by rw [← Array.length_toList, hit, List.length_map]
  obtain ⟨kls, tl, hmro⟩ := F.called_set.mro
  have hmade := F.called_set.made
  have hsub := F.called_set.sub
  refine wpAny_call (codeAny_of_tree ?_)
  show wpAny _ _ (callAny (.type "set") _) _ _ _
  refine wpAny_pure ⟨Code.quiet_builtin _ (by decide +kernel), codeAny_builtin F.entry_type_call ?_⟩
  rw [Around.under_plain (weight_type_call_type "set" [.ref l] []) rfl]
  have a1 := F.called_set.notType
  have a2 := F.called_set.canCreate
  have a3 := F.typeCall_set_1 (.ref l)
  repeat (any_goals (first | assumption | wp_step))
  refine codeAny_mono (code_set_led1 (.ref l) (E := E) (Q₁ := fun obj s1 => obj = .ref s.heap.objs.size ∧ s1 = { s with heap := s.heap.push { cls := .type "set", dict := none, data := .set #[] 0 (.fresh 0 0 (!w.params.followText "set-order")) } }) ⟨rfl, rfl⟩) fun r s1 hr => ?_
  cases r with
  | error e => exact hr
  | ok fl =>
    cases fl with
    | ret obj =>
      obtain ⟨rfl, rfl⟩ := hr
      have hS : (s.heap.push { cls := .type "set", dict := none, data := .set #[] 0 (.fresh 0 0 (!w.params.followText "set-order")) }).get? s.heap.objs.size = some { cls := .type "set", dict := none, data := .set #[] 0 (.fresh 0 0 (!w.params.followText "set-order")) } := Heap.get?_push_size _ rfl
      have hT : Shared.TypeIs { s with heap := s.heap.push { cls := .type "set", dict := none, data := .set #[] 0 (.fresh 0 0 (!w.params.followText "set-order")) } } (.ref s.heap.objs.size) "set" := ⟨_, hS, rfl⟩
      have hli := F.called_set.init.lookup
      have hbi := F.called_set.init.bind (.ref s.heap.objs.size)
      repeat (any_goals (first | assumption | wp_step))
      refine codeAny_mono (codeAny_call_builtin (R := wants (fun r s2 => r = .none ∧ ∃ hp tk ps en ee tb, s2 = { s with heap := hp, toks := tk } ∧ SetN P w hp s.heap.objs.size ps en ee tb ∧ GotN ks ks.length ps ∧
          (∀ b o, s.heap.get? b = some o → hp.get? b = some o)) E) F.called_set.init.plain F.entry_set_init (check_set_init_1 hT ?_)) fun r2 s2 hr2 => ?_
      · obtain ⟨ol, hol, hcl, nl, hdl⟩ := hl
        obtain ⟨ocls, odict, odata, oslots⟩ := ol
        simp only at hcl hdl
        subst hcl; subst hdl
        have hol2 : (s.heap.push { cls := .type "set", dict := none, data := .set #[] 0 (.fresh 0 0 (!w.params.followText "set-order")) }).get? l = some { cls := .type "list", dict := odict, data := .seq items nl, slots := oslots } := Heap.get?_push_of_some _ hol
        have b1 := F.sub_list_set
        have b2 := F.sub_list_frozenset
        have b3 : (Value.type "list" == Value.type "dict") = false := by decide
        have list1 : (s.heap.push { cls := .type "set", dict := none, data := .set #[] 0 (.fresh 0 0 (!w.params.followText "set-order")) }).IsList l items := ⟨_, hol2, rfl, nl, rfl⟩
        unfold Builtin.«set.__init__» noKeywords Builtin.Frozenset.updateFrom
        generalize hPI : pyIter = PI
        wp_walk
        subst hPI
        refine wpAny_pyIter_list (s := { s with heap := s.heap.push { cls := .type "set", dict := none, data := .set #[] 0 (.fresh 0 0 (!w.params.followText "set-order")) } }) list1 ?_
        refine wpAny_bind (wpAny_runValue ?_)
        have lS : l < s.heap.objs.size := Heap.lt_size hol
        have hh3 : A.in1.in1.in1.handled = none := by simp [hh]
        have sz1 : (s.heap.push { cls := .type "set", dict := none, data := .set #[] 0 (.fresh 0 0 (!w.params.followText "set-order")) }).objs.size = s.heap.objs.size + 1 := Heap.size_push ..
        have neI : l ≠ (s.heap.push { cls := .type "set", dict := none, data := .set #[] 0 (.fresh 0 0 (!w.params.followText "set-order")) }).objs.size := by rw [sz1]; exact Nat.ne_of_lt (Nat.lt_succ_of_lt lS)
        have offS : s.heap.objs.size ∉ [(s.heap.push { cls := .type "set", dict := none, data := .set #[] 0 (.fresh 0 0 (!w.params.followText "set-order")) }).objs.size, l] := by
          rw [sz1]
          simp only [List.mem_cons, List.not_mem_nil, or_false, not_or]
          refine ⟨?_, ?_⟩
          · exact Nat.ne_of_lt (Nat.lt_succ_self _)
          · exact Nat.ne_of_gt lS
        have val : ∀ (i : Nat) (v : Value), items[i]? = some v → ∃ p, ks[i]? = some p ∧ v = .ref p.1 := fun i v hv => by
          rw [← Array.getElem?_toList, hit, List.getElem?_map] at hv
          obtain ⟨p, hp, e⟩ := Option.map_eq_some_iff.mp hv
          exact ⟨p, hp, e.symm⟩
        have none_at : ∀ b, s.heap.objs.size ≤ b → s.heap.get? b = none := fun b hb => by
          cases z : s.heap.get? b with
          | none => rfl
          | some o => exact absurd (Nat.lt_of_lt_of_le (Heap.lt_size z) hb) (Nat.lt_irrefl b)
        refine fillN ((Walks.list hh3 _ l neI items).toS) s.heap.objs.size offS ks D isz hD hks val s.heap hk (none_at _ (Nat.le_refl _)) (fun b hb => none_at b (by
            rw [List.mem_singleton.mp hb, sz1]
            exact Nat.le_succ _)) (by simp only [Around.in1_units]; omega) (items.size - 0) 0 _ (by omega) (Nat.zero_le _)
          ⟨⟨_, Heap.get?_push_size _ rfl, rfl, rfl⟩, (list1.push _)⟩ (fun b o e => Heap.get?_push_of_some _ (Heap.get?_push_of_some _ e)) ?start ?stop
        case start =>
          exact ⟨[], #[], 0, _, setN_new (Heap.get?_push_of_some _ hS), fun p hp => (by cases hp), fun p hp => (by simp at hp)⟩
        case stop =>
          intro s' ps en ee tb mv RS g hk'
          obtain ⟨hp, g2, d2, tk2, os2⟩ := s'
          have eg : g2 = s.gens := mv.gens
          have ed : d2 = s.drawn := mv.drawn
          have eo : os2 = s.os := mv.os
          subst eg; subst ed; subst eo
          show wpAny _ _ _ _ _ _
          refine wpAny_pure ?_
          show wpAny _ _ (ret Value.none) _ _ _
          rw [isz] at g
          exact wpAny_pure ⟨rfl, hp, tk2, ps, en, ee, tb, rfl, RS, g, hk'⟩
      · cases r2 with
        | error e => exact hr2
        | ok fl2 =>
          cases fl2 with
          | ret r =>
            obtain ⟨rfl, hp, tk, ps, en, ee, tb, rfl, RS, g, hk'⟩ := hr2
            repeat (any_goals (first | assumption | wp_step))
            exact fin _ _ _ _ _ _ RS g hk'
          | _ => exact hr2.elim
    | _ => exact hr.elim
mutual
theorem reads_at {hp : Heap} : ∀ (d : PyData) (v : Value) (as : List Addr), PySem.W.alike d d = true → Reads hp v d as → ∀ b ∈ as, ∃ o, hp.get? b = some o
  | .none, _, _, _, r, b, hb => by cases r; cases hb
  | .bool _, _, _, _, r, b, hb => by cases r; cases hb
  | .int _, _, _, _, r, b, hb => by cases r; cases hb
  | .str _, _, _, _, r, b, hb => by cases r; cases hb
  | .list xs, _, _, al, r, b, hb => by
    cases r with
    | list h1 h2 h3 h4 =>
      rcases List.mem_cons.mp hb with rfl | hb
      · exact ⟨_, h1⟩
      · exact reads_all_at xs _ _ (by simpa [PySem.W.alike] using al) h4 b hb
  | .tuple xs, _, _, al, r, b, hb => by
    cases r with
    | tuple h1 h2 h3 h4 => exact reads_all_at xs _ _ (by simpa [PySem.W.alike] using al) h4 b hb
  | .dict _, _, _, al, _, _, _ => absurd al (by simp [PySem.W.alike])
theorem reads_all_at {hp : Heap} : ∀ (ds : List PyData) (vs : List Value) (as : List Addr), PySem.W.alikeAll ds ds = true → ReadsAll hp vs ds as → ∀ b ∈ as, ∃ o, hp.get? b = some o
  | [], _, _, _, r, b, hb => by cases r; cases hb
  | d :: ds, _, _, al, r, b, hb => by
    rw [PySem.W.alikeAll, Bool.and_eq_true] at al
    cases r with
    | cons h1 h2 =>
      rcases List.mem_append.mp hb with hb | hb
      · exact reads_at d _ _ al.1 h1 b hb
      · exact reads_all_at ds _ _ al.2 h2 b hb
end
end
end BF

set_option Elab.async false
set_option linter.all false
set_option autoImplicit false
set_option maxRecDepth 100000
/-! sorted(set(list)) of nested tuples, one rule. -/
namespace BF
open PySem PySem.Spec
open PyProof.Rows L2
section
variable {P : Program} {w : World} {A : Around} {E : Value → Shared → Prop} {s : Shared}
variable {c : Addr} {ps : List (Addr × NestedKey)} {en : Array (Int × Value)} {ee : Nat} {tb : SetTable}
theorem refs_perm {ps : List (Addr × NestedKey)} : ∀ {vs : List Value}, (∀ v ∈ vs, ∃ q ∈ ps, v = Value.ref q.1) → ∃ qs : List (Addr × NestedKey), vs = qs.map (fun q => Value.ref q.1) ∧ ∀ q ∈ qs, q ∈ ps
  | [], _ => ⟨[], rfl, fun _ h => (by cases h)⟩
  | v :: vs, h => by
    obtain ⟨q, hq, e⟩ := h v List.mem_cons_self
    obtain ⟨qs, e1, h1⟩ := refs_perm fun u hu => h u (List.mem_cons_of_mem _ hu)
    exact ⟨q :: qs, by rw [List.map_cons, e, e1], fun r hr => (List.mem_cons.mp hr).elim (fun z => z ▸ hq) (h1 r)⟩
theorem refs_in : ∀ {us : List Value} {qs : List (Addr × NestedKey)}, PySem.W.EachIs (fun u (q : Addr × NestedKey) => u = Value.ref q.1) us qs → us = qs.map fun q => Value.ref q.1
  | _, [], h => by cases h; rfl
  | _, _ :: _, h => by
    cases h with
    | cons h1 h2 => rw [List.map_cons, h1, refs_in h2]
theorem refs_out {R : Value → Addr × NestedKey → Prop} : ∀ (qs : List (Addr × NestedKey)), (∀ q ∈ qs, R (.ref q.1) q) → PySem.W.EachIs R (qs.map fun q => Value.ref q.1) qs
  | [], _ => .nil
  | q :: qs, h => .cons (h q List.mem_cons_self) (refs_out qs fun r hr => h r (List.mem_cons_of_mem _ hr))
set_option maxHeartbeats 1600000 in
/-- sorted(set) -/
theorem sort_setN (R : SetN P w s.heap c ps en ee tb) (hh : A.handled = none) (hu : A.units + 65 < cLine) (dt : Addr × NestedKey → PyData) (rd : ∀ p ∈ ps, ∃ as, Reads s.heap (.ref p.1) (dt p) as)
    (al : ∀ p ∈ ps, ∀ q ∈ ps, PySem.W.alike (dt p) (dt q) = true) (tc : (∀ p ∈ ps, ∃ x r, dt p = .tuple (x :: r)) ∨ ps.map dt = [.tuple []]) (dep : ∀ p ∈ ps, (dt p).depth ≤ 50) {Q : Value → Shared → Prop}
    (fin : ∀ s' b (n : Nat) (qs : List (Addr × NestedKey)), (∀ d o, s.heap.get? d = some o → s'.heap.get? d = some o) → s'.gens = s.gens → s'.os = s.os → s.heap.objs.size ≤ b →
      s'.heap.get? b = some (seqObj "list" (qs.map fun q => Value.ref q.1).toArray n) → qs.Perm ps → qs.Pairwise (fun p q => PySem.W.dataLe false dt p q = true) → Q (.ref b) s') :
    wpAny (model P w) A (call (.builtin "sorted") [.ref c]) Q E s := by
  obtain ⟨o, ho, hex, hd⟩ := R.obj
  have sz := R.size
  have sm := R.few
  refine Calls.call_function_entry kind_sorted plain_sorted entry_sorted (args_sorted1 _) ?_
  unfold Builtin.«sorted»
  refine wpAny_bind (m := checkCount "sorted" 1 1 _) (wpAny_pure ?_)
  refine wpAny_bind (collect_set (A := A.in1) hh ⟨o, ho, hex.1, hd⟩ R.fits (by unfold scanBound; omega) R.tok.ris R.ld fun s1 vs k1 z1 g1 o1 pm => ?_)
  have evs : en.toList.map (·.2) = ps.map fun q => Value.ref q.1 := by
    rw [R.rws, nrows, List.map_map]; rfl
  rw [evs] at pm
  obtain ⟨qs, e1, inq⟩ := refs_perm (ps := ps) (vs := vs) fun v hv => by
    obtain ⟨q, hq, e⟩ := List.mem_map.mp (pm.mem_iff.mp hv)
    exact ⟨q, hq, e.symm⟩
  subst e1
  have one : ∀ q ∈ ps, ∀ r ∈ ps, q.1 = r.1 → q = r := fun q hq r hr e => by
    have t1 := R.ek q hq
    have t2 := R.ek r hr
    rw [e] at t1
    exact Prod.ext e ((nestedKind P w).inj t1 t2)
  have nps : ps.Nodup := List.Pairwise.of_map (·.2) (fun _ _ hne e => hne (congrArg _ e)) R.dis
  have nref : (ps.map fun q => Value.ref q.1).Nodup := by
    refine List.pairwise_map.mpr (List.Pairwise.imp_of_mem (fun {q r} hq hr hne e => ?_) nps)
    injection e with e
    exact hne (one q hq r hr e)
  have nqs : qs.Nodup := List.Pairwise.of_map (fun q : Addr × NestedKey => Value.ref q.1) (fun _ _ hne e => hne (congrArg (fun q : Addr × NestedKey => Value.ref q.1) e)) (pm.nodup_iff.mpr nref)
  have pq : qs.Perm ps := (List.perm_ext_iff_of_nodup nqs nps).mpr fun q => ⟨inq q, fun hq => by
    have : Value.ref q.1 ∈ qs.map fun q => Value.ref q.1 := pm.mem_iff.mpr (List.mem_map.mpr ⟨q, hq, rfl⟩)
    obtain ⟨r, hr, e⟩ := List.mem_map.mp this
    injection e with e
    rw [← one r (inq r hr) q hq e]
    exact hr⟩
  have ql : qs.length ≤ 60 := by rw [pq.length_eq]; exact sm
  refine wpAny_bind (wpAny_newList ?_ (by rw [sizeLine_eq, List.length_map]; omega))
  have hoL : (s1.heap.push (seqObj "list" (qs.map fun q => Value.ref q.1).toArray 0)).get? s1.heap.objs.size = some (seqObj "list" (qs.map fun q => Value.ref q.1).toArray 0) := Heap.get?_push_size _ rfl
  obtain ⟨h2, hh2⟩ : ∃ h2, h2 = s1.heap.push (seqObj "list" (qs.map fun q => Value.ref q.1).toArray 0) := ⟨_, rfl⟩
  rw [← hh2] at hoL ⊢
  have keep2 : ∀ d u, s.heap.get? d = some u → h2.get? d = some u := fun d u e => by rw [hh2]; exact Heap.get?_push_of_some _ (k1 d u e)
  have rds : ∀ q ∈ qs, ∃ as, Reads h2 (.ref q.1) (dt q) as ∧ s1.heap.objs.size ∉ as := fun q hq => by
    obtain ⟨as, r⟩ := rd q (inq q hq)
    have r1 : Reads s1.heap (.ref q.1) (dt q) as := PyProof.Rows.Reads.keeps k1 r
    refine ⟨as, by rw [hh2]; exact PyProof.Rows.Reads.keeps (fun _ _ => Heap.get?_push_of_some _) r1, fun hm => ?_⟩
    obtain ⟨u, hu1⟩ := reads_at _ _ _ (al q (inq q hq) q (inq q hq)) r1 _ hm
    exact absurd (Heap.lt_size hu1) (Nat.lt_irrefl _)
  have done : ∀ out : List Value, (∃ rs : List (Addr × NestedKey), out = (rs.map fun q => Value.ref q.1) ∧ rs.Perm qs ∧ rs.Pairwise (fun p q => PySem.W.dataLe false dt p q = true)) → ∀ sh : Shared, sh.gens = s1.gens → sh.os = s1.os → sh.heap = sortedHeap h2 s1.heap.objs.size (qs.map fun q => Value.ref q.1) out.toArray → Q (.ref s1.heap.objs.size) sh := by
    rintro out ⟨rs, rfl, pr, pw⟩ sh e1 e2 e3
    obtain ⟨n, hn⟩ := sortedHeap_at (vs := qs.map fun q => Value.ref q.1) (out := (rs.map fun q => Value.ref q.1).toArray) hoL
    refine fin sh s1.heap.objs.size n rs (fun d u e => ?_) (e1.trans g1) (e2.trans o1) z1 (by rw [e3]; exact hn) (pr.trans pq) pw
    have lt := Heap.lt_size (k1 d u e)
    rw [e3, sortedHeap_old (Nat.ne_of_lt lt) (by rw [hh2, size_push']; exact Nat.lt_succ_of_lt lt)]
    exact keep2 d u e
  have hal : PySem.W.AllAlike (qs.map dt) := by
    intro d hd d' hd'
    obtain ⟨q, hq, rfl⟩ := List.mem_map.mp hd
    obtain ⟨r, hr, rfl⟩ := List.mem_map.mp hd'
    exact al q (inq q hq) r (inq r hr)
  rcases tc with tc | tc
  · refine wpAny_bind (wpAny_holding (PySem.W.list_sort_data (s := { s1 with heap := h2 }) (enc := dt) (R := fun u (q : Addr × NestedKey) => u = Value.ref q.1) hoL (refs_out qs fun _ _ => rfl) (refs_out qs rds) hal ?_ (by rw [sizeLine_eq]; omega) (fun q hq => ?_) fun out hlo eo => ?_))
    · exact .inl fun d hd => by
        obtain ⟨q, hq, rfl⟩ := List.mem_map.mp hd
        exact tc q (inq q hq)
    · have := dep q (inq q hq)
      simp only [Around.in1_units]
      omega
    · have tot : PySem.W.TotalLe (PySem.W.dataLe false dt) := PySem.W.sortLe_total _ _ _
      exact wpAny_pure ⟨_, rfl, done out ⟨qs.mergeSort (PySem.W.dataLe false dt), refs_in eo, List.mergeSort_perm _ _, PySem.W.sort_pairwise tot qs⟩ _ rfl rfl rfl⟩
  · have qd : qs.map dt = [.tuple []] := List.perm_singleton.mp (by rw [← tc]; exact pq.map dt)
    obtain ⟨q0, hq0⟩ : ∃ q0, qs = [q0] := List.length_eq_one_iff.mp (by have := congrArg List.length qd; simpa using this)
    have er2 : PySem.W.EachIs (fun v d => ∃ as, Reads h2 v (id d) as ∧ s1.heap.objs.size ∉ as) [Value.ref q0.1] [PyData.tuple []] := by
      obtain ⟨as, r1, r2⟩ := rds q0 (by rw [hq0]; exact List.mem_singleton.mpr rfl)
      rw [hq0] at qd
      have d0 : dt q0 = .tuple [] := (List.cons.inj qd).1
      rw [d0] at r1
      exact .cons ⟨as, r1, r2⟩ .nil
    obtain ⟨h3, hh3⟩ : ∃ h3, h3 = PySem.W.sortingHeap h2 s1.heap.objs.size (qs.map fun q => Value.ref q.1) := ⟨_, rfl⟩
    have er3 : PySem.W.EachIs (fun v d => ∃ as, Reads h3 v d as) [Value.ref q0.1] [PyData.tuple []] := by
      have := PySem.W.each_keepBut (h := h2) (h' := h3) (enc := id) (a := s1.heap.objs.size) (fun _ _ hb q => by rw [hh3]; exact PySem.W.sortingHeap_old hb q) (fun o q => by rw [hoL] at q; rw [← Option.some.inj q]) (by rw [← List.map_id [PyData.tuple []]] at qd; rw [← qd]; exact hal) er2
      exact this
    have so := sorts_one (prog := P) (w := w) (A := A.in1.in1) (s := { s1 with heap := h3 }) er3
    have eq0 : (qs.map fun q => Value.ref q.1) = [Value.ref q0.1] := by rw [hq0]; rfl
    rw [hh3, ← eq0] at so
    obtain ⟨z, hz'⟩ : ∃ z, PySem.W.sortVals (PySem.W.dataKind h3 [.tuple []]) false [Value.ref q0.1] [Value.ref q0.1] = [z] := List.length_eq_one_iff.mp (PySem.W.sortVals_length false rfl)
    have hm := PySem.W.sortVals_mem (κ := PySem.W.dataKind h3 [.tuple []]) false (ks := [Value.ref q0.1]) (vs := [Value.ref q0.1]) (v := z) (by rw [hz']; exact List.mem_singleton.mpr rfl)
    rw [List.mem_singleton] at hm
    refine wpAny_bind (wpAny_holding (wpAny_call_entry slot_list_sort ⟨_, hoL, rfl⟩ entry_list_sort (PySem.W.list_sort_vals (s := { s1 with heap := h2 }) (κ := PySem.W.dataKind (PySem.W.sortingHeap h2 s1.heap.objs.size (qs.map fun q => Value.ref q.1)) [.tuple []]) hoL so (by rw [eq0, sizeLine_eq]; simp) ⟨.none, rfl, ?_⟩) (args_list_sort _)))
    refine wpAny_pure ⟨_, rfl, done _ ⟨qs, ?_, List.Perm.refl _, by rw [hq0]; exact List.pairwise_singleton ..⟩ _ rfl rfl rfl⟩
    rw [eq0, ← eq0, ← hh3, eq0, hz', hm]
end
/-! ### tracked -/
def SetN0 (w : World) (hp : Heap) (c : Addr) (ps : List (Addr × NestedKey)) : Prop := ∃ (en : Array (Int × Value)) (ee : Nat) (tb : SetTable), (∃ o, hp.get? c = some o ∧ o.ExactSet ∧ o.data = .set en ee tb) ∧ en.toList = nrows w ps ∧ TabOk tb (ps.map fun p => p.2.hash w) ∧ (ps.map (·.2)).Nodup ∧
  (w.params.followText "set-order" = true ∨ tb.led = true) ∧ ps.length * 5 < tb.mask * 3 ∧ ps.length ≤ 60
def SetNO (w : World) (c : Addr) (ps : List (Addr × NestedKey)) : HO := .ext fun hp => SetN0 w hp c ps
theorem SetN.bare {P : Program} {w : World} {hp : Heap} {c : Addr} {ps : List (Addr × NestedKey)} {en : Array (Int × Value)} {ee : Nat} {tb : SetTable} (R : SetN P w hp c ps en ee tb) : SetN0 w hp c ps := ⟨en, ee, tb, R.obj, R.rws, R.tok, R.dis, R.ld, R.room, R.few⟩
theorem setNO_new {P : Program} {w : World} {H : Hp} {hp : Heap} {c : Addr} {ps : List (Addr × NestedKey)} (R : SetN0 w hp c ps) : ObjOk P w H hp c (SetNO w c ps) := by
  refine ⟨R, ?_, fun g1 g2 p k => ?_⟩
  · obtain ⟨en, ee, tb, ⟨o, ho, _⟩, _⟩ := R
    exact ⟨o, ho⟩
  · obtain ⟨en, ee, tb, ⟨o, ho, r⟩, q⟩ := (show SetN0 w g1 c ps from p)
    exact (show SetN0 w g2 c ps from ⟨en, ee, tb, ⟨o, k o ho, r⟩, q⟩)
section
variable {X : Cx}
def NK (X : Cx) (H : Hp) (v : V) (k : NestedKey) : Prop := ∃ (loc : List Addr) (w : W), Rd X.KW H loc v w ∧ keyT w = some k
theorem NK.is {pins : List (Addr × Obj)} {σ : L2.St} {H : Hp} {s : Shared} {b : Addr} {k : NestedKey} (I : Inv X pins σ H s) (h : NK X H (.ref b) k) : IsN X.prog X.w s.heap k b := by
  obtain ⟨loc, w, r, hk⟩ := h
  obtain ⟨a, e1, _, h3⟩ := nest_key I r hk (u := .ref b) rfl
  cases e1
  exact h3
theorem refs_vals : ∀ {ks : List (Addr × NestedKey)} {us : List Value}, Vals (ks.map fun p => V.ref p.1) us → us = ks.map fun p => Value.ref p.1
  | [], _, h => by cases h; rfl
  | p :: ks, _, h => by
    cases h with
    | cons h1 h2 =>
      rw [refs_vals h2, List.map_cons]
      congr 1
theorem vals_refs : ∀ (ks : List (Addr × NestedKey)), Vals (ks.map fun p => V.ref p.1) (ks.map fun p => Value.ref p.1)
  | [] => .nil
  | _ :: ks => .cons rfl (vals_refs ks)
def rSetN (X : Cx) : List V → Hp → VK → Prop := fun xs H Q => ∃ (l : Addr) (ks : List (Addr × NestedKey)) (D : List NestedKey), xs = [V.ref l] ∧ SqL X.K H l (ks.map fun p => V.ref p.1) ∧ (∀ p ∈ ks, NK X H (.ref p.1) p.2) ∧ D.length ≤ 60 ∧ (∀ p ∈ ks, p.2 ∈ D) ∧
  ∀ a ps, H a = none → (∀ p ∈ ps, p ∈ ks) → (∀ p ∈ ks, p.2 ∈ ps.map (·.2)) → (ps.map (·.2)).Nodup → Q (.ref a) (upd H a (SetNO X.w a ps))
theorem cr_setN (hc : X.calm = true) (hu : X.A.units + 65 < cLine) : CallR X (.type "set") (rSetN X) := by
  intro pins s σ H xs us Q I r h
  obtain ⟨l, ks, D, rfl, hl, hk, hD, hks, q⟩ := h
  rw [Vals.ref1 r]
  obtain ⟨its, rv, pl, hz⟩ := I.list hl
  have hn : H s.heap.objs.size = none := I.hok.fresh (Nat.le_refl _)
  refine call_setN (P := X.prog) (w := X.w) ks D (I.ok.hd hc) pl.isList (by simpa using refs_vals rv) (fun p hp => (hk p hp).is I) hD hks (by omega) fun hp tk ps en ee tb R g k => ?_
  refine ⟨.ref s.heap.objs.size, upd H s.heap.objs.size (SetNO X.w s.heap.objs.size ps), I.laid (t' := tk) k (Nat.le_refl _) (setNO_new R.bare), rfl, q _ ps hn (fun p hp => List.mem_of_mem_take (g.sub p hp)) (fun p hp => g.all p (by rw [List.take_length]; exact hp)) R.dis⟩
def rSortN (X : Cx) : List V → Hp → VK → Prop := fun vs H Q => ∃ (a : Addr) (ps : List (Addr × NestedKey)) (dt : Addr × NestedKey → PyData), vs = [V.ref a] ∧ H a = some (SetNO X.w a ps) ∧ (∀ p ∈ ps, NK X H (.ref p.1) p.2 ∧ L2.Dp X.K H (.ref p.1) (dt p)) ∧
  (∀ p ∈ ps, ∀ q ∈ ps, PySem.W.alike (dt p) (dt q) = true) ∧ ((∀ p ∈ ps, ∃ x r, dt p = .tuple (x :: r)) ∨ ps.map dt = [.tuple []]) ∧ (∀ p ∈ ps, (dt p).depth ≤ 50) ∧
  ∀ (qs : List (Addr × NestedKey)) (b : Addr), qs.Perm ps → qs.Pairwise (fun p q => PySem.W.dataLe false dt p q = true) → H b = none → Q (.ref b) (upd H b (.lst (qs.map fun q => V.ref q.1)))
theorem cr_sortN (hc : X.calm = true) (hu : X.A.units + 65 < cLine) : CallR X (.builtin "sorted") (rSortN X) := by
  intro pins s σ H vs us Q I r h
  obtain ⟨a, ps, dt, rfl, ha, hk, al, tc, dep, q⟩ := h
  obtain ⟨en, ee, tb, h1, h2, h3, h4, h5, h6, h7⟩ := (show SetN0 X.w s.heap a ps from (I.hok a _ ha).1)
  have R : SetN X.prog X.w s.heap a ps en ee tb := ⟨h1, h2, h3, h4, fun p hp => (hk p hp).1.is I, h5, h6, h7⟩
  rw [Vals.ref1 r]
  refine sort_setN R (I.ok.hd hc) hu dt (fun p hp => L2.Dp.reads I _ _ _ (hk p hp).2 rfl) al tc dep fun s' b n qs k g o hb hg pm pw => ?_
  have hlen : (qs.map fun q => V.ref q.1).length ≤ sizeLine := by rw [List.length_map, pm.length_eq, sizeLine_eq]; omega
  have hn : H b = none := I.hok.fresh hb
  have J : Inv X pins σ (upd H b (.lst (qs.map fun q => V.ref q.1))) { s with heap := s'.heap, gens := s'.gens, drawn := s'.drawn, toks := s'.toks } :=
    I.call (ch := []) (Un.laid k hb hn) (I.hok.laid k hb ⟨hlen, qs.map (fun q => Value.ref q.1), n, vals_refs qs, hg⟩) (by rw [g]; exact I.bare) (fun _ z => nomatch z)
  have e : s' = { s with heap := s'.heap, gens := s'.gens, drawn := s'.drawn, toks := s'.toks } := by
    cases s'
    cases s
    cases o
    rfl
  rw [e]
  exact ⟨.ref b, _, J, rfl, q qs b pm pw hn⟩
end
/-! ### the promise -/
structure SetOk (xs rs : List W) : Prop where
  few : rs.length ≤ 60
  to : ∀ x ∈ xs, x ∈ rs
  fro : ∀ x ∈ rs, x ∈ xs
  ok : ∀ x ∈ rs, okW 40 x = true ∧ (keyT x).isSome = true
  tc : (∀ x ∈ rs, ∃ y ys, dP x = .tuple (y :: ys)) ∨ rs = [.tup []]
  inj : ∀ x ∈ rs, ∀ y ∈ rs, keyT x = keyT y → x = y
  al : ∀ x ∈ rs, ∀ y ∈ rs, PySem.W.alike (dP x) (dP y) = true
  asc : rs.Pairwise fun x y => PySem.W.dataLe false dP x y = true ∧ PySem.W.dataLe false dP y x = false
theorem SetOk.nodup {xs rs : List W} (h : SetOk xs rs) : rs.Nodup := h.asc.imp fun {a b} ⟨h1, h2⟩ e => by
  subst e
  rw [h1] at h2; cases h2
theorem perm_of_mem {α : Type} {l m : List α} (hl : l.Nodup) (hm : m.Nodup) (h : ∀ x, x ∈ l ↔ x ∈ m) : l.Perm m := (List.perm_ext_iff_of_nodup hl hm).mpr h
theorem asc_unique {l rs : List W} (hp : l.Perm rs) (hl : l.Pairwise fun x y => PySem.W.dataLe false dP x y = true) (hr : rs.Pairwise fun x y => PySem.W.dataLe false dP x y = true ∧ PySem.W.dataLe false dP y x = false) : l = rs := by
  refine List.Perm.eq_of_pairwise (le := fun x y => PySem.W.dataLe false dP x y = true) (fun a b ha hb h1 h2 => ?_) hl (hr.imp fun h => h.1) hp
  have ha' : a ∈ rs := hp.mem_iff.mp ha
  refine Classical.byContradiction fun hne => ?_
  obtain ⟨i, hi⟩ := List.getElem?_of_mem ha'
  obtain ⟨j, hj⟩ := List.getElem?_of_mem hb
  have pw := List.pairwise_iff_getElem.mp hr
  obtain ⟨il, ei⟩ := List.getElem?_eq_some_iff.mp hi
  obtain ⟨jl, ej⟩ := List.getElem?_eq_some_iff.mp hj
  rcases Nat.lt_trichotomy i j with z | z | z
  · have := (pw i j il jl z).2
    rw [ei, ej, h2] at this; cases this
  · subst z
    exact hne (by rw [← ei, ← ej])
  · have := (pw j i jl il z).2
    rw [ei, ej, h1] at this; cases this
theorem SetOk.one {xs rs rs' : List W} (h : SetOk xs rs) (h' : SetOk xs rs') : rs = rs' :=
  asc_unique (perm_of_mem h.nodup h'.nodup fun x => ⟨fun z => h'.to x (h.fro x z), fun z => h.to x (h'.fro x z)⟩) (h.asc.imp fun z => z.1) h'.asc
open Classical in
noncomputable def pSortSet : Fn := fun ws M => match ws with
  | [.ref n] => match M[n]? with
    | some (.lst xs) => if h : ∃ rs, SetOk xs rs then some (.ref M.length, M ++ [.lst h.choose]) else none
    | _ => none
  | _ => none
theorem pSortSet_ok {M : Mem} {n : Nat} {xs rs : List W} (hM : M[n]? = some (.lst xs)) (h : SetOk xs rs) : pSortSet [.ref n] M = some (.ref M.length, M ++ [.lst rs]) := by
  have ex : ∃ rs, SetOk xs rs := ⟨rs, h⟩
  unfold pSortSet
  simp only [hM]
  rw [dif_pos ex, (ex.choose_spec).one h]
theorem keyed {K : KW} {H : Hp} {loc : List Addr} : ∀ {vs : List V} {xs : List W}, Rds K H loc vs xs → (∀ x ∈ xs, (keyT x).isSome = true) → ∃ ks : List (Addr × NestedKey), vs = ks.map (fun p => V.ref p.1) ∧ (∀ p ∈ ks, ∃ x ∈ xs, Rd K H loc (.ref p.1) x ∧ keyT x = some p.2) ∧ ∀ x ∈ xs, ∃ p ∈ ks, keyT x = some p.2
  | _, _, .nil, _ => ⟨[], rfl, fun _ h => (by cases h), fun _ h => (by cases h)⟩
  | _, _, .cons (w := x) r rs, h => by
    obtain ⟨ks, e1, h1, h2⟩ := keyed rs fun y hy => h y (List.mem_cons_of_mem _ hy)
    obtain ⟨k, hk⟩ := Option.isSome_iff_exists.mp (h x List.mem_cons_self)
    obtain ⟨_, _, ws, rfl⟩ := keyT_some hk
    cases r with
    | @tup a us _ sq rs' =>
      refine ⟨(a, k) :: ks, by rw [List.map_cons, e1], fun p hp => ?_, fun y hy => ?_⟩
      · rcases List.mem_cons.mp hp with rfl | hp
        · exact ⟨_, List.mem_cons_self, .tup sq rs', hk⟩
        · obtain ⟨y, hy, z⟩ := h1 p hp
          exact ⟨y, List.mem_cons_of_mem _ hy, z⟩
      · rcases List.mem_cons.mp hy with rfl | hy
        · exact ⟨_, List.mem_cons_self, hk⟩
        · obtain ⟨p, hp, z⟩ := h2 y hy
          exact ⟨p, List.mem_cons_of_mem _ hp, z⟩
section
variable {X : Cx}
/-- sorted(set(e)) -/
theorem r_sortSet {e : Expr} {c : CE} {p p2 pos pos2 : Pos} (hc : X.calm = true) (hu : X.A.units + 65 < cLine) (hg : Gl X "sorted") (hm : X.mg "sorted" = none) (hg2 : Gl X "set") (hm2 : X.mg "set" = none) (ha : EV X e c)
    (n2 : starEach [e] X.env = (false, eval e X.env) :: starEach [] X.env := by rfl) (n1 : starEach [.Call (.Name "set" p2) [e] [] pos2] X.env = (false, eval (.Call (.Name "set" p2) [e] [] pos2) X.env) :: starEach [] X.env := by rfl) :
    EV X (.Call (.Name "sorted" p) [.Call (.Name "set" p2) [e] [] pos2] [] pos) (eN pSortSet [c]) := by
  have inner := pe_callTy (pos := pos2) (p := p2) (cr_setN hc hu) hg2 hm2 (by decide +kernel) (pa_cons ha pa_nil n2) (by decide) (by decide) n2 (by rfl)
  refine (pe_callB (pos := pos) (p := p) (cr_sortN hc hu) hg hm (by decide +kernel) (pa_cons inner pa_nil n1) (by decide) (by decide) n1 (by rfl)).mono fun σV H Q ⟨loc, σ, M, w, M', rel, e, aft⟩ => ?_
  obtain ⟨q, hq, e⟩ := bind_some e
  obtain ⟨r, hr, hq⟩ := bind_some hq
  obtain ⟨t, ht, hq⟩ := bind_some hq
  cases ht
  cases hq
  refine run1 rel hr fun v H1 loc1 rel1 rd1 ex1 l1 => ?_
  unfold pSortSet at e
  simp only at e
  split at e
  · rename_i n hn
    obtain ⟨hn1, _⟩ := List.cons.inj hn
    rw [hn1] at rd1
    split at e
    · rename_i xs hz
      split at e
      · rename_i ex
        obtain ⟨rs, hrs⟩ : ∃ rs, rs = ex.choose := ⟨_, rfl⟩
        have so : SetOk xs rs := hrs ▸ ex.choose_spec
        rw [← hrs] at e
        cases e
        cases rd1 with
        | @ref l _ hl =>
          have st := rel1.st
          obtain ⟨vs, q1, q2⟩ := st.ok _ _ _ hl hz
          obtain ⟨ks, rfl, k1, k2⟩ := keyed q2 fun x hx => (so.ok x (so.to x hx)).2
          refine ⟨l, ks, rs.filterMap keyT, rfl, SqL.of q1, fun p hp => ?_, Nat.le_trans (List.length_filterMap_le _ _) so.few, fun p hp => ?_, fun a ps h0 p1 p2 p3 => ?_⟩
          · obtain ⟨x, hx, rx, kx⟩ := k1 p hp
            exact ⟨loc1, x, rx, kx⟩
          · obtain ⟨x, hx, rx, kx⟩ := k1 p hp
            exact List.mem_filterMap.mpr ⟨x, so.to x hx, kx⟩
          · -- the one item of rs at each key
            have ex2 : Ext X.KW H1 (upd H1 a (SetNO X.w a ps)) := .new h0
            have at_ : ∀ p : Addr × NestedKey, ∃ x : W, p ∈ ps → x ∈ rs ∧ Rd X.KW H1 loc1 (.ref p.1) x ∧ keyT x = some p.2 := fun p => by
              by_cases hp : p ∈ ps
              · obtain ⟨x, hx, rx, kx⟩ := k1 p (p1 p hp)
                exact ⟨x, fun _ => ⟨so.to x hx, rx, kx⟩⟩
              · exact ⟨.non, fun z => absurd z hp⟩
            obtain ⟨f, hf⟩ := Classical.axiomOfChoice at_
            have rf : ∀ p ∈ ps, Rd X.KW (upd H1 a (SetNO X.w a ps)) loc1 (.ref p.1) (f p) := fun p hp => (hf p hp).2.1.mono ex2 (List.prefix_refl _)
            have st2 : Store X.KW (upd H1 a (SetNO X.w a ps)) loc1 r.2 := st.newT h0
            have nf : (ps.map f).Nodup := by
              have : ((ps.map f).map keyT).Nodup := by
                have e1 : (ps.map f).map keyT = (ps.map (·.2)).map some := by
                  rw [List.map_map, List.map_map]
                  exact List.map_congr_left fun p hp => (hf p hp).2.2
                rw [e1]
                exact List.pairwise_map.mpr (p3.imp fun hne z => hne (Option.some.inj z))
              exact List.Pairwise.of_map keyT (fun _ _ hne z => hne (congrArg _ z)) this
            have pr : (ps.map f).Perm rs := perm_of_mem nf so.nodup fun x => by
              constructor
              · intro hx
                obtain ⟨p, hp, rfl⟩ := List.mem_map.mp hx
                exact (hf p hp).1
              · intro hx
                obtain ⟨p, hp, kx⟩ := k2 x (so.fro x hx)
                obtain ⟨q, hq, eq⟩ := List.mem_map.mp (p2 p hp)
                refine List.mem_map.mpr ⟨q, hq, ?_⟩
                exact so.inj _ (hf q hq).1 _ hx (by rw [(hf q hq).2.2, kx, eq])
            have tcs : (∀ p ∈ ps, ∃ x r, dP (f p) = .tuple (x :: r)) ∨ ps.map (fun p => dP (f p)) = [.tuple []] := by
              rcases so.tc with h | h
              · exact .inl fun p hp => h _ (hf p hp).1
              · rw [h] at pr
                have e1 := List.perm_singleton.mp pr
                have e2 := congrArg (List.map dP) e1
                rw [List.map_map] at e2
                exact .inr e2
            refine ⟨a, ps, fun p => dP (f p), rfl, upd_same, fun p hp => ⟨⟨loc1, f p, rf p hp, (hf p hp).2.2⟩, (toD_ok st2 40 _ _ _ (rf p hp) (toD_P _ 40 _ (so.ok _ (hf p hp).1).1)).1⟩, fun p hp q hq => so.al _ (hf p hp).1 _ (hf q hq).1, tcs, fun p hp => ?_, fun qs b pm pw hb => ?_⟩
            · have := (toD_ok st2 40 _ _ _ (rf p hp) (toD_P _ 40 _ (so.ok _ (hf p hp).1).1)).2.2
              exact Nat.le_trans this (by decide)
            · have eq : qs.map f = rs := asc_unique ((pm.map f).trans pr) (List.pairwise_map.mpr pw) so.asc
              have rr : ∀ ts : List (Addr × NestedKey), (∀ p ∈ ts, p ∈ ps) → Rds X.KW (upd H1 a (SetNO X.w a ps)) loc1 (ts.map fun q => V.ref q.1) (ts.map f) := by
                intro ts
                induction ts with
                | nil => intro _; exact .nil
                | cons t ts ih => intro h; exact .cons (rf t (h t List.mem_cons_self)) (ih fun p hp => h p (List.mem_cons_of_mem _ hp))
              have r3 := rr qs fun p hp => pm.mem_iff.mp hp
              rw [eq] at r3
              exact aft_lst st2 r3 hb ((aft.after ex1 l1).after ex2 (List.prefix_refl _))
      · cases e
    · cases e
  · cases e
end
end BF

set_option Elab.async false
set_option linter.all false
set_option autoImplicit false
set_option maxRecDepth 100000
/-! list.count of data. -/
namespace BF
open PySem PySem.Spec
open PyProof.Rows L2
def mCount : Fn := fun ws M => match ws with
  | [.ref n, x] => match M[n]? with
    | some (.lst xs) => match mapO (toD M 60) xs, toD M 60 x with
      | some ds, some d => if PyData.plainAll ds = true ∧ d.plain = true then some (.int ((ds.countP fun y => PyData.eqv y d : Nat) : Int), M) else none
      | _, _ => none
    | _ => none
  | _ => none
def rCountD (K : PySem.W.Frag) : V → List V → Hp → VK → Prop := fun x xs H Q => ∃ (a : Addr) (y : V) (d : PyData) (vs : List V) (ds : List PyData), x = .ref a ∧ xs = [y] ∧ L2.SqL K H a vs ∧ L2.DpAll K H vs ds ∧ L2.Dp K H y d ∧ PyData.plainAll ds = true ∧ d.plain = true ∧ d.depth ≤ 60 ∧
  Q (.int ((ds.countP fun z => PyData.eqv z d : Nat) : Int)) H
theorem mt_countW {X : Cx} (hu : X.A.units + 65 < cLine) : MtR X "list.count" (rCountD X.K) := by
  intro pins s σ H x xs v us Q I rx rxs h
  obtain ⟨a, y, d, vs, ds, rfl, rfl, hl, hds, hd, p1, p2, dep, q⟩ := h
  cases rx
  cases rxs with
  | cons ry rt =>
    cases rt
    obtain ⟨bs, r1⟩ := L2.Dp.reads I d y _ hd ry
    obtain ⟨its, rv, ⟨o, n, g1, g2, _, g3⟩, hz⟩ := I.list hl
    obtain ⟨as, r2⟩ := L2.Dp.readsAll I ds _ its hds rv
    have hli : s.heap.IsList a its.toArray := ⟨o, g1, g2, n, g3⟩
    refine PySem.SeqAt.count_list_data hli (by simpa using r2) r1 p1 p2 (by have := Nat.min_le_right (PyData.depthAll ds) d.depth; omega) ?_
    exact ⟨.int _, H, I.kept (t' := s.toks + 1) (fun _ _ z => z), ⟨_, rfl⟩, q⟩
theorem m_count {K : KW} : LiftN K (fun vs H Q => ∃ v us, vs = v :: us ∧ rCountD K v us H Q) mCount := by
  intro H loc M ws vs w M' Q s r e aft
  unfold mCount at e
  split at e
  · split at e
    · rename_i zs hz
      split at e
      · rename_i ds d h1 h2
        split at e
        · rename_i hp
          cases e
          match vs, r with
          | [_, v], .cons (.ref (a := a) hn) (.cons rv .nil) =>
            obtain ⟨xs, q1, q2⟩ := s.ok _ _ _ hn hz
            obtain ⟨g1, g2⟩ := toDs_ok s q2 (mapO_get h1)
            obtain ⟨g3, _, g5⟩ := toD_ok s 60 _ _ _ rv h2
            exact ⟨_, _, rfl, a, v, d, xs, ds, rfl, rfl, SqL.of q1, g1, g3, hp.1, hp.2, g5, aft _ H loc s (.int _) .refl (List.prefix_refl _)⟩
        · cases e
      · cases e
    · cases e
  · cases e
end BF

set_option Elab.async false
set_option linter.all false
set_option autoImplicit false
set_option maxRecDepth 100000
/-! Slices of texts, reversals, lengths of texts among others, in a tuple. -/
namespace BF
open PySem PySem.Spec
open PyProof.Rows L2
section
variable {prog : Program} {w : World} {A : Around} {E : Value → Shared → Prop} {s : Shared}
theorem rev_applied {sl : Addr} {vl vu vs : Value} {n : Nat} {Q : Int × Int × Nat → Shared → Prop} (hs : s.heap.IsSliceOf sl vl vu vs) (pl : IsPart vl none) (pu : IsPart vu none) (ps : IsPart vs (some (-1)))
    (h : Q ((n : Int) - 1, -1, n) s) : wpAny (model prog w) A (Builtin.Slice.sliceApplied (.ref sl) (pure (n : Int))) Q E s := by
  obtain ⟨os, hos, hcs, hds⟩ := id hs
  unfold Builtin.Slice.sliceApplied Builtin.Slice.sliceFields
  refine wpAny_bind (wpAny_bind (wpAny_field hos hds (x := vl) rfl (wpAny_bind (wpAny_field hos hds (x := vu) rfl (wpAny_bind (wpAny_field hos hds (x := vs) rfl (wpAny_pure ?_)))))))
  refine wpAny_bind (HT.slicePart_ ps ?_)
  show wpAny _ _ (if ((-1 : Int) == 0) = true then _ else _) _ _ s
  rw [if_neg (by decide)]
  refine wpAny_bind (HT.slicePart_ pl (wpAny_bind (HT.slicePart_ pu (wpAny_bind (wpAny_pure ?_)))))
  show wpAny _ _ (match Builtin.Slice.sliceAdjust none none (-1) (n : Int) with | (lo, hi) => pure (lo, (-1 : Int), Builtin.Slice.slicePlaces lo hi (-1))) _ _ s
  have e1 : Builtin.Slice.sliceAdjust none none (-1) (n : Int) = ((n : Int) - 1, -1) := by
    unfold Builtin.Slice.sliceAdjust
    simp
  rw [e1]
  have e2 : Builtin.Slice.slicePlaces ((n : Int) - 1) (-1) (-1) = n := by
    unfold Builtin.Slice.slicePlaces
    simp
    omega
  show wpAny _ _ (pure ((n : Int) - 1, (-1 : Int), Builtin.Slice.slicePlaces ((n : Int) - 1) (-1) (-1))) _ _ s
  rw [e2]
  exact wpAny_pure h
theorem rev_pick (xs : Array Value) : ((List.range xs.size).filterMap fun (k : Nat) => xs[(((xs.size : Int) - 1) + (k : Int) * -1).toNat]?).toArray = xs.toList.reverse.toArray := by
  have e : ((List.range xs.size).filterMap fun (k : Nat) => xs[(((xs.size : Int) - 1) + (k : Int) * -1).toNat]?) = ((List.range xs.size).map fun k => xs.size - 1 - k).filterMap (xs[·]?) := by
    rw [List.filterMap_map]
    congr 1
    funext k
    have : (((xs.size : Int) - 1) + (k : Int) * -1).toNat = xs.size - 1 - k := by omega
    simp only [Function.comp, this]
  rw [e, PySem.W.krv_range, List.filterMap_reverse, PySem.W.krv_all]
theorem tuple_rev {t sl : Addr} {items : Array Value} {vl vu vs : Value} {Q : Value → Shared → Prop} (ht : IsTup s.heap t items) (hs : s.heap.IsSliceOf sl vl vu vs) (pl : IsPart vl none) (pu : IsPart vu none) (ps : IsPart vs (some (-1)))
    (h : Q (.ref s.heap.objs.size) { s with heap := s.heap.push { cls := .type "tuple", data := .seq items.toList.reverse.toArray } }) (hsz : items.size ≤ sizeLine) : wpAny (model prog w) A (getItem (.ref t) (.ref sl)) Q E s := by
  have fits : sizeOk (.seq items.toList.reverse.toArray) := by
    show items.toList.reverse.toArray.size ≤ sizeLine
    rw [List.size_toArray, List.length_reverse, Array.length_toList]
    exact hsz
  obtain ⟨os, hos, hcs, hds⟩ := id hs
  have hTs : s.TypeIs (.ref sl) "slice" := ⟨os, hos, hcs⟩
  unfold getItem
  try with_reducible refine wpAny_holding ?_
  first | refine wpAny_bind (wpAny_pure ?_) | skip
  refine wpAny_bind (wpAny_sequenceKey ht.typeIs (by decide) ?_)
  refine wpAny_bind (wpAny_callSpecial?_slot (name := Str.ofString "__getitem__") ht.typeIs PyProof.Rows.slot_tuple_getitem
    (wpAny_call_entry PyProof.Rows.slot_tuple_getitem ht.typeIs PyProof.Rows.entry_tuple_getitem ?_ (PyProof.Rows.args_tuple_getitem _ _)))
  show wpAny _ _ (Builtin.Tuple.tupleItemsOf (.ref t) >>= _) _ _ s
  refine wpAny_bind (PyProof.Rows.tupleItemsOf_ ht ?_)
  refine wpAny_bind (wpAny_typeOf hTs ?_)
  rw [if_pos (by decide)]
  refine wpAny_bind (rev_applied hs pl pu ps ?_)
  have no : ¬ ((((items.size : Int) - 1) == 0 && (-1 : Int) == 1 && items.size == items.size) = true) := by simp
  show wpAny _ _ (if (((items.size : Int) - 1) == 0 && (-1 : Int) == 1 && items.size == items.size) = true then _ else _) _ _ s
  rw [if_neg no, rev_pick]
  first
    | exact wpAny_bind (m := Builtin.Tuple.tupleExact _) (wpAny_newObj_type (wpAny_pure ⟨_, rfl, wpAny_pure h⟩) fits)
    | exact wpAny_bind (m := Builtin.Tuple.tupleExact _) (wpAny_newObj_type (wpAny_bind (wpAny_pure (wpAny_pure ⟨_, rfl, wpAny_pure h⟩))) fits)
    | exact wpAny_bind (wpAny_bind (m := Builtin.Tuple.tupleExact _) (wpAny_newObj_type (wpAny_pure (wpAny_pure ⟨_, rfl, wpAny_pure h⟩)) fits))
    | exact wpAny_bind (wpAny_bind (m := Builtin.Tuple.tupleExact _) (wpAny_newObj_type (wpAny_pure ⟨_, rfl, wpAny_pure h⟩) fits))
end
section
variable {X : Cx}
def tRevA (K : PySem.W.Frag) (te : TE) : TE := fun σ H Q => te σ H fun x H1 => ∃ a xs, x = .ref a ∧ ((SqL K H1 a xs ∧ ∀ p, H1 p = none → Q (.ref p) (upd H1 p (.lst xs.reverse))) ∨ (SqT K H1 a xs ∧ ∀ p, H1 p = none → Q (.ref p) (upd H1 p (.tup xs.reverse))))
theorem vals_back {vs : List V} {us : List Value} (r : Vals vs us) : Vals vs.reverse us.reverse := r.reverse
theorem pe_revA {e : Expr} {te : TE} {k : Nat} {p1 p2 p3 pos : Pos} (he : PE X e te) : PE X (.Subscript e (.Slice none none (some (.UnaryOp .USub (.Constant (.int 1) k p1) p2)) p3) pos) (tRevA X.K te) := by
  refine ⟨fun pins s σ H Q I h => ?_⟩
  refine Subscript_ (thn (he.run pins s σ H _ I h) fun v s1 ⟨x, H1, I1, r1, q1⟩ => ?_)
  obtain ⟨a, xs, ex, q1⟩ := q1
  subst ex
  cases r1
  have hst : PO X (some (.UnaryOp .USub (.Constant (.int 1) k p1) p2)) (tPart (tUn (rU fun i => .int (-i)) (tC (.int 1)))) := po_some (pe_un un_neg pe_int)
  refine wpAny_Slice (thn (po_none.run pins s1 σ H1 (fun o H2 => o = none ∧ H2 = H1) I1 ⟨rfl, rfl⟩) fun vl s2 ⟨l, H2, I2, pl, el, e2⟩ => ?_)
  subst el e2
  refine thn (po_none.run pins s2 σ H2 (fun o H3 => o = none ∧ H3 = H2) I2 ⟨rfl, rfl⟩) fun vu s3 ⟨u, H3, I3, pu, eu, e3⟩ => ?_
  subst eu e3
  refine thn (hst.run pins s3 σ H3 (fun o H4 => o = some (-1) ∧ H4 = H3) I3 ⟨1, rfl, -1, rfl, rfl, rfl⟩) fun vs s4 ⟨o, H4, I4, ps, eo, e4⟩ => ?_
  subst eo e4
  have I5 : Inv X pins σ H4 { s4 with heap := s4.heap.push { cls := .type "slice", data := .fields #[vl, vu, vs] } } := I4.kept (t' := s4.toks) fun b ob q => Heap.get?_push_of_some _ q
  show wpAny (model X.prog X.w) X.A (subscriptTail e (.Slice none none (some (.UnaryOp .USub (.Constant (.int 1) k p1) p2)) p3) (.ref a) (.ref s4.heap.objs.size)) (EP X pins σ Q) X.xe { s4 with heap := s4.heap.push { cls := .type "slice", data := .fields #[vl, vu, vs] } }
  rcases q1 with ⟨hx, q⟩ | ⟨hx, q⟩
  · obtain ⟨its, r, ht, hz⟩ := I5.list hx
    have hlen := r.length
    refine tail_any (ops := [.ref a, .ref s4.heap.objs.size]) ht.isList.typeIs (PySem.slot_list_getitem.lookup) ?_ (by with_unfolding_all rfl)
    refine wpAny_getItem_list_slice ht.isList (Heap.IsSliceOf.new _ vl vu vs) pl pu ps (by decide) ?_ (by rw [List.size_toArray]; omega)
    rw [PySem.W.krv_pick]
    refine ⟨.ref _, _, I5.laid (t' := s4.toks) (o := .lst xs.reverse) (fun b ob q => Heap.get?_push_of_some _ q) (Nat.le_refl _) ?_, rfl, q _ (I5.hok.fresh (Nat.le_refl _))⟩
    exact ⟨by rw [List.length_reverse]; exact hz, _, 0, vals_back r, Heap.get?_push_size _ rfl⟩
  · obtain ⟨its, r, ht, hz⟩ := I5.tuple hx
    have hlen := r.length
    refine tail_any (ops := [.ref a, .ref s4.heap.objs.size]) ht.typeIs (PyProof.Rows.slot_tuple_getitem.lookup) ?_ (by with_unfolding_all rfl)
    refine tuple_rev ht (Heap.IsSliceOf.new _ vl vu vs) pl pu ps ?_ (by rw [List.size_toArray]; omega)
    refine ⟨.ref _, _, I5.laid (t' := s4.toks) (o := .tup xs.reverse) (fun b ob q => Heap.get?_push_of_some _ q) (Nat.le_refl _) ?_, rfl, q _ (I5.hok.fresh (Nat.le_refl _))⟩
    exact ⟨by rw [List.length_reverse]; exact hz, _, vals_back r, IsTup.new _ _⟩
end

/-! ### in the rules' words -/
def gRev (M : Mem) (x : W) : Option (W × Mem) := match x with
  | .tup a => some (.tup a.reverse, M)
  | .ref n => match M[n]? with
    | some (.lst a) => some (.ref M.length, M ++ [.lst a.reverse])
    | _ => none
  | _ => none
@[simp] theorem gRev_tup {M : Mem} (a : List W) : gRev M (.tup a) = some (.tup a.reverse, M) := nr rfl
@[simp] theorem gRev_ref {M : Mem} (n : Nat) : gRev M (.ref n) = match M[n]? with
    | some (.lst a) => some (.ref M.length, M ++ [.lst a.reverse])
    | _ => none := nr rfl
section
variable {K : KW}
theorem Rds.app {H : Hp} {loc : List Addr} : ∀ {vs us : List V} {ws zs : List W}, Rds K H loc vs ws → Rds K H loc us zs → Rds K H loc (vs ++ us) (ws ++ zs)
  | [], _, [], _, _, h => h
  | _ :: _, _, _ :: _, _, .cons a b, h => .cons a (b.app h)
end
section
variable {X : Cx} {a e : Expr} {ca ce : CE} {pos : Pos}
theorem r_rev {k : Nat} {p1 p2 p3 : Pos} (ha : EV X a ca) : EV X (.Subscript a (.Slice none none (some (.UnaryOp .USub (.Constant (.int 1) k p1) p2)) p3) pos) (e1 gRev ca) :=
  (pe_revA ha).mono fun σV H Q ⟨loc, σ, M, w, M', rel, e, aft⟩ => by
    obtain ⟨p, hp, e⟩ := bind_some e
    refine run1 rel hp fun v H1 loc1 rel1 rd1 ex1 l1 => ?_
    unfold gRev at e
    split at e
    · rename_i zs hz
      cases e
      rw [hz] at rd1
      cases rd1 with
      | @tup q xs ws sq rs => exact ⟨q, xs, rfl, .inr ⟨sq, fun c hc => aft_tup rel1.st rs.rev hc (aft.after ex1 l1)⟩⟩
    · rename_i n hz
      rw [hz] at rd1
      cases rd1 with
      | @ref q n hn =>
        split at e
        · rename_i ws hw
          cases e
          obtain ⟨xs, q1, q2⟩ := rel1.st.ok _ _ _ hn hw
          exact ⟨q, xs, rfl, .inl ⟨SqL.of q1, fun c hc => aft_lst rel1.st q2.rev hc (aft.after ex1 l1)⟩⟩
        · cases e
    · cases e
end
/-! ### slices of texts -/
def cutT (z : Str) (lo hi : Option Int) : Str := ⟨(cutW z.cps.toList lo hi).toArray⟩
theorem cutT_eq (z : Str) (lo hi : Option Int) : cutT z lo hi = cutS z lo hi := by
  unfold cutT cutS cutW
  rw [sIx_eq, sIx_eq, Array.length_toList]
  rfl
def gSlS (M : Mem) (x : W) (lo hi : Option Int) : Option (W × Mem) := match x with
  | .str z => some (.str (cutT z lo hi), M)
  | _ => none
@[simp] theorem gSlS_str {M : Mem} (z : Str) (lo hi : Option Int) : gSlS M (.str z) lo hi = some (.str (cutT z lo hi), M) := nr rfl
theorem cutT_mem {z : Str} {lo hi : Option Int} : ∀ c ∈ (cutT z lo hi).cps.toList, c ∈ z.cps.toList := by
  intro c hc
  unfold cutT cutW at hc
  simp only at hc
  exact List.mem_of_mem_drop (List.mem_of_mem_take hc)
theorem strOk_iff (z : Str) : PyData.strOk z = true ↔ ∀ c ∈ z.cps.toList, c < 0x110000 := by
  unfold PyData.strOk
  rw [← Array.all_toList, List.all_eq_true]
  exact ⟨fun h c hc => of_decide_eq_true (h c hc), fun h c hc => decide_eq_true (h c hc)⟩
def eSlS (e : CE) (lo hi : Option CE) : CE := fun σ M => (e σ M).bind fun p => (ePart lo σ p.2).bind fun q => (ePart hi σ q.2).bind fun r => gSlS r.2 p.1 q.1 r.1
@[simp] theorem eSlS_eq {σ : Sl} {M : Mem} (e : CE) (lo hi : Option CE) : eSlS e lo hi σ M = (e σ M).bind fun p => (ePart lo σ p.2).bind fun q => (ePart hi σ q.2).bind fun r => gSlS r.2 p.1 q.1 r.1 := nr rfl
section
variable {K : KW}
theorem l_slS : LiftS K rSlS gSlS := by
  intro H loc M x v lo hi w M' Q s rx e aft
  unfold gSlS at e
  split at e
  · rename_i z
    cases e
    cases rx with
    | str _ h1 h2 =>
      refine ⟨z, rfl, by rw [sizeLine_eq]; exact h2, ?_⟩
      rw [← cutT_eq]
      refine aft _ H loc s (.str _ ?_ ?_) .refl (List.prefix_refl _)
      · rw [strOk_iff] at h1 ⊢
        exact fun c hc => h1 c (cutT_mem c hc)
      · rw [cutT_eq]
        exact Nat.le_trans (cutS_length z lo hi) h2
  · cases e
end
section
variable {X : Cx} {a : Expr} {ca : CE} {pos : Pos}
theorem r_slS {lo hi : Option Expr} {cl ch : Option CE} {p2 : Pos} (ha : EV X a ca) (h1 : EO X lo cl) (h2 : EO X hi ch) : EV X (.Subscript a (.Slice lo hi none p2) pos) (eSlS ca cl ch) :=
  (pe_slice sl_str ha h1 h2).mono fun σV H Q ⟨loc, σ, M, w, M', rel, e, aft⟩ => by
    obtain ⟨p, hp, e⟩ := bind_some e
    obtain ⟨q, hq, e⟩ := bind_some e
    obtain ⟨t, ht, e⟩ := bind_some e
    refine run1 rel hp fun v H1 loc1 rel1 rd1 ex1 l1 => ?_
    refine ⟨loc1, σ, p.2, q.1, q.2, rel1, hq, fun H2 loc2 s2 ex2 l2 => ?_⟩
    have rel2 := rel1.move s2 ex2 l2
    refine ⟨loc2, σ, q.2, t.1, t.2, rel2, ht, fun H3 loc3 s3 ex3 l3 => ?_⟩
    exact l_slS H3 loc3 t.2 p.1 v q.1 t.1 w M' Q s3 (rd1.mono (ex2.trans ex3) (l2.trans l3)) e (aft.after ((ex1.trans ex2).trans ex3) ((l1.trans l2).trans l3))
end
/-! ### in a tuple -/
def rInU (K : PySem.W.Frag) : R2 := fun x y H Q => ∃ d ds, Dp K H x d ∧ Dp K H y (.tuple ds) ∧ SeqAt.shaped d = true ∧ SeqAt.shaped (.tuple ds) = true ∧ Q (.bl (ds.any fun z => PyData.eqv z d)) H
theorem op_inU {X : Cx} (hu : X.A.units + 65 < cLine) : OpR X (compareOp .In) (rInU X.K) := by
  intro pins s σ H x y v u Q I rx ry h
  obtain ⟨d, ds, hd, he, sd, se, q⟩ := h
  obtain ⟨as, r1⟩ := Dp.reads I d x v hd rx
  obtain ⟨bs, r2⟩ := Dp.reads I (.tuple ds) y u he ry
  exact SeqAt.in_tuple_reads r2 r1 (SeqAt.canLay_of_shaped se) (SeqAt.canLay_of_shaped sd) (room_in_shaped sd hu) ⟨.bl _, H, I, rfl, q⟩
def gInU (M : Mem) (x y : W) : Option (W × Mem) := match toD M 64 x, toD M 64 y with
  | some d, some (.tuple ds) => some (.bl (ds.any fun z => PyData.eqv z d), M)
  | _, _ => none
theorem gInU_eq {M : Mem} (x y : W) : gInU M x y = match toD M 64 x, toD M 64 y with
  | some d, some (.tuple ds) => some (.bl (ds.any fun z => PyData.eqv z d), M)
  | _, _ => none := nr rfl
section
variable {K : KW}
theorem l_inU : Lift2 K (rInU K) gInU := by
  intro H loc M x y v u w M' Q s rx ry e aft
  unfold gInU at e
  split at e
  · rename_i d ds h1 h2
    cases e
    obtain ⟨g1, g2, g3⟩ := toD_ok s 64 v x d rx h1
    obtain ⟨g4, g5, g6⟩ := toD_ok s 64 u y _ ry h2
    exact ⟨d, ds, g1, g4, by rw [SeqAt.shaped, g2, decide_eq_true g3]; rfl, by rw [SeqAt.shaped, g5, decide_eq_true g6]; rfl, aft _ H loc s (.bl _) .refl (List.prefix_refl _)⟩
  · cases e
end
/-! ### insert -/
def mInsert : Fn := fun ws M => match ws with
  | [.ref n, .int i, w] => match M[n]? with
    | some (.lst a) => if a.length < 16777216 ∧ 0 ≤ i ∧ small62 i = true then some (.non, M.set n (.lst (a.take i.toNat ++ [w] ++ a.drop i.toNat))) else none
    | _ => none
  | _ => none
@[simp] theorem mInsert_ref {M : Mem} (n : Nat) (i : Int) (w : W) : mInsert [.ref n, .int i, w] M = match M[n]? with
    | some (.lst a) => if a.length < 16777216 ∧ 0 ≤ i ∧ small62 i = true then some (.non, M.set n (.lst (a.take i.toNat ++ [w] ++ a.drop i.toNat))) else none
    | _ => none := nr rfl
def rInsert : V → List V → Hp → VK → Prop := fun x vs H Q => ∃ (l : Addr) (xs : List V) (i : Int) (y : V), x = .ref l ∧ vs = [.int i, y] ∧ H l = some (.lst xs) ∧ xs.length < sizeLine ∧ 0 ≤ i ∧ i < 2 ^ 63 ∧
    Q .non (upd H l (.lst (xs.take i.toNat ++ [y] ++ xs.drop i.toNat)))
theorem mt_insertW {X : Cx} : MtR X "list.insert" rInsert := mt_insert
section
variable {K : KW}
theorem m_insert : LiftN K (fun vs H Q => ∃ v us, vs = v :: us ∧ rInsert v us H Q) mInsert := by
  intro H loc M ws vs w M' Q s r e aft
  unfold mInsert at e
  split at e
  · match vs, r with
    | [_, _, v], .cons (.ref (a := a) hn) (.cons (.int i) (.cons rv .nil)) =>
      split at e
      · rename_i zs hz
        split at e
        · rename_i hl
          cases e
          obtain ⟨xs, q1, q2⟩ := s.ok _ _ _ hn hz
          obtain ⟨b1, b2⟩ := small62_iff hl.2.2
          exact ⟨_, _, rfl, a, xs, i, v, rfl, rfl, q1, by rw [q2.length, sizeLine_eq]; exact hl.1, hl.2.1, by omega, aft_put s hn hz q1 (((q2.take _).append (.cons rv .nil)).append (q2.drop _)) .non aft⟩
        · cases e
      · cases e
  · cases e
end
end BF

set_option Elab.async false
set_option linter.all false
set_option autoImplicit false
set_option maxRecDepth 10000
namespace BF
open PySem Enc
/-! _law_draw -/
def F__law_draw : Fn := fnT1 fun (m : Nat) ns s => if 0 < m ∧ m < 2 ^ 62 then some (drawD ns m s) else none
abbrev N__law_draw : List Str := ["tape", "many", "prime", "cell", "found"]
def c__law_draw : CS :=
  (sSeq (sSet (gV 2) (eL (.int 2305843009213693951)))
  (sSeq (sIf (tB (e2 gLt (e2 gIx (eV 0) (eL (.int 2))) (eV 1))) (sSeq (sSet (gV 3) (eL (.int 0)))
  (sSeq (sIf (tB (e2 gGt (eN pLen [(e2 gIx (eV 0) (eL (.int 0)))]) (eL (.int 0)))) (sSet (gV 3) (e2 gIx (e2 gIx (eV 0) (eL (.int 0))) (e2 gMod (e2 gIx (eV 0) (eL (.int 1))) (eN pLen [(e2 gIx (eV 0) (eL (.int 0)))])))) sNil)
  (sSeq (sIf (tOr (tB (e2 gGe (e2 gIx (eV 0) (eL (.int 1))) (eN pLen [(e2 gIx (eV 0) (eL (.int 0)))]))) (tB (e2 gLt (eV 3) (e2 gPow (eL (.int 10)) (eL (.int 18)))))) (sSeq (sSet (gV 3) (e2 gMod (e2 gAdd (eV 3) (e2 gMul (eL (.int 1000003)) (e2 gIx (eV 0) (eL (.int 1))))) (eV 2)))
  (sSeq (sSet (gV 3) (e2 gMod (e2 gAdd (e2 gAdd (e2 gMul (eV 3) (eV 3)) (e2 gMul (eL (.int 1181783497276652981)) (eV 3))) (eL (.int 2049848353892358983))) (eV 2)))
  (sSet (gV 3) (e2 gMod (e2 gAdd (e2 gMul (eV 3) (eV 3)) (eL (.int 1442695040888963407))) (eV 2))))) sNil)
  (sSeq (sPut putL (eV 0) (eL (.int 1)) (e2 gAdd (e2 gIx (eV 0) (eL (.int 1))) (eL (.int 1))))
  (sPut putL (eV 0) (eL (.int 2)) (eV 3)))))) sNil)
  (sSeq (sSet (gV 4) (e2 gMod (e2 gIx (eV 0) (eL (.int 2))) (eV 1)))
  (sSeq (sPut putL (eV 0) (eL (.int 2)) (e2 gDiv (e2 gIx (eV 0) (eL (.int 2))) (eV 1)))
  (sRet (eV 4))))))
theorem draw_ok (m : Nat) (ns : List Int) (s : Dr) (g : Mem) (h1 : 0 < m) (h2 : m < 2 ^ 62) : F__law_draw [.ref 2, .int m] (TM ns s g) = some (.int ((drawD ns m s).1 : Nat), TM ns (drawD ns m s).2 g) := by
  have := fnT1_eq (fun (m : Nat) ns s => if 0 < m ∧ m < 2 ^ 62 then some (drawD ns m s) else none) m ns s g
  rw [if_pos ⟨h1, h2⟩] at this
  exact this
theorem keeps__law_draw : Keeps 5 c__law_draw F__law_draw := by
  refine keepsT1 fun m ns s g b s' e => ?_
  split at e
  · rename_i hm
    cases e
    obtain ⟨h1, h2⟩ := hm
    obtain ⟨i, c⟩ := s
    refine ⟨[], ?_⟩
    have b1 : small64 1000003 = true := by decide
    have b2 : small64 1181783497276652981 = true := by decide
    have b3 : small62 10 = true := by decide
    have b4 : (0 : Int) < m := by omega
    have b5 : small64 (m : Int) = true := small64_of (by omega)
    have b6 : ∀ x : Int, small64 (x % 2305843009213693951) = true := fun x => by
      have q1 := Int.emod_nonneg x (show (2305843009213693951 : Int) ≠ 0 by decide)
      have q2 := Int.emod_lt_of_pos x (show (0 : Int) < 2305843009213693951 by decide)
      exact small64_of (by omega)
    have b7 : ∀ x : Int, max (x % (m : Int)) 0 = x % m := fun x => by
      have q1 := Int.emod_nonneg x (show (m : Int) ≠ 0 by omega)
      omega
    by_cases hc : c < m
    · by_cases hl : 0 < ns.length
      · have hl' : (0 : Int) < ns.length := by omega
        have j1 := Int.emod_nonneg i (show (ns.length : Int) ≠ 0 by omega)
        have j2 := Int.emod_lt_of_pos i hl'
        have j3 : (ixW ns.length (i % (ns.length : Int))) = some (i % (ns.length : Int)).toNat := by
          have := ixW_nat (n := ns.length) (j := (i % (ns.length : Int)).toNat) (by omega)
          rw [Int.toNat_of_nonneg j1] at this
          exact this
        obtain ⟨cell, j4⟩ : ∃ cell, ns[(i % (ns.length : Int)).toNat]? = some cell := ⟨_, List.getElem?_eq_getElem (by omega)⟩
        by_cases hi : (ns.length : Int) ≤ i
        · simp [c__law_draw, TM, hc, hl, j3, j4, hi, h1, b1, b2, b3, b4, b5, b6, b7, drawD, nextT, mixT]
        · by_cases hs : cell < 1000000000000000000
          · simp [c__law_draw, TM, hc, hl, j3, j4, hi, hs, h1, b1, b2, b3, b4, b5, b6, b7, drawD, nextT, mixT]
          · simp [c__law_draw, TM, hc, hl, j3, j4, hi, hs, h1, b1, b2, b3, b4, b5, b6, b7, drawD, nextT, mixT]
      · by_cases hi : (ns.length : Int) ≤ i
        · simp [c__law_draw, TM, hc, hl, hi, h1, b1, b2, b3, b4, b5, b6, b7, drawD, nextT, mixT]
        · simp [c__law_draw, TM, hc, hl, hi, h1, b1, b2, b3, b4, b5, b6, b7, drawD, nextT, mixT]
    · simp [c__law_draw, TM, hc, h1, b1, b2, b3, b4, b5, b6, b7, drawD, nextT, mixT]
  · cases e
end BF

set_option Elab.async false
set_option linter.all false
set_option autoImplicit false
set_option maxRecDepth 10000
namespace BF
open PySem Enc
/-! _law_like, to a depth -/
def likeW (M : Mem) : Nat → W → W → Option Bool
  | 0, _, _ => none
  | k + 1, x, y => match seqW M x with
    | some (b, xs) => match seqW M y with
      | some (c, ys) => if b ≠ c then some false else if xs.length ≠ ys.length then some false else if xs.length ≤ 100000 then (mapO (fun p => likeW M k p.1 p.2) (xs.zip ys)).map fun bs => bs.all id else none
      | none => if isScal y = true then some false else none
    | none => if isScal x = true then match seqW M y with
        | some _ => some false
        | none => if isScal y = true then (if isBl x = isBl y then eqW M x y else some false) else none
      else none
def F__law_like (d : Nat) : Fn := fun ws M => match ws with
  | [x, y] => (likeW M d x y).map fun b => (.bl b, M)
  | _ => none
abbrev N__law_like : List Str := ["one", "two", "k"]
def c__law_like (R : Fn) : CS :=
  (sSeq (sIf (tB (e1 (gIsi2 "list" "tuple") (eV 0))) (sSeq (sIf (tOr (tB (e2 gNe (e1 (gIsi "list") (eV 0)) (e1 (gIsi "list") (eV 1)))) (tB (e2 gNe (e1 (gIsi "tuple") (eV 0)) (e1 (gIsi "tuple") (eV 1))))) (sRet (eL (.bl false))) sNil)
  (sSeq (sIf (tB (e2 gNe (eN pLen [(eV 0)]) (eN pLen [(eV 1)]))) (sRet (eL (.bl false))) sNil)
  (sRet (e2 gEq (eLc (iRange1 (eN pLen [(eV 0)])) (gV 2) (tNot (tB (eN R [(e2 gIx (eV 0) (eV 2)), (e2 gIx (eV 1) (eV 2))]))) (eV 2) [2]) (eLst []))))) sNil)
  (sSeq (sIf (tB (e1 (gIsi2 "list" "tuple") (eV 1))) (sRet (eL (.bl false))) sNil)
  (sRet (eAnd (e2 gEq (e1 (gIsi "bool") (eV 0)) (e1 (gIsi "bool") (eV 1))) (e2 gEq (eV 0) (eV 1))))))
theorem like_seq {M : Mem} {x y : W} {b c : Bool} {xs ys : List W} (R : Fn) (hx : seqW M x = some (b, xs)) (hy : seqW M y = some (c, ys)) {r : Bool}
    (h : b = c → xs.length = ys.length → xs.length ≤ 100000 ∧ ∃ bs : List Bool, bs.length = xs.length ∧ bs.all id = r ∧ ∀ (i : Nat) (p q : W), xs[i]? = some p → ys[i]? = some q → ∀ g, ∃ z, bs[i]? = some z ∧ R [p, q] (M ++ g) = some (.bl z, M ++ g))
    (h2 : b ≠ c → r = false) (h3 : xs.length ≠ ys.length → r = false) :
    ∃ g, c__law_like R [some x, some y, none] M = some (.rt (.bl r) (M ++ g)) := by
  unfold c__law_like
  simp only [sSeq_eq, sIf_eq, tB_eq, e1_eq, eV_eq, List.getD_cons_zero, List.getD_cons_succ, Option.bind_some, isi2_seq hx, if_true, tOr_eq, e2_eq, gNe_eq, isiL_seq hx, isiL_seq hy, eqW_bl, Option.map_some]
  by_cases hb : b = c
  · subst hb
    simp only [decide_true, Bool.not_true, Bool.false_eq_true, if_false, isiT_seq hx, isiT_seq hy, Option.bind_some, eqW_bl, Option.map_some, sNil_eq, eN_eq, eArgs_cons, eArgs_nil, eV_eq, List.getD_cons_zero, List.getD_cons_succ, len_seq hx, len_seq hy, eqW_int, sRet_eq, eL_eq]
    by_cases hl : xs.length = ys.length
    · obtain ⟨hL, bs, hbl, hr, hR⟩ := h rfl hl
      have hx' := hx
      simp only [← hl, decide_true, Bool.not_true, Bool.false_eq_true, if_false, e2_eq, eLc_eq, iRange1_eq, eN_eq, eArgs_cons, eArgs_nil, eV_eq, List.getD_cons_zero, Option.bind_some, len_seq hx]
      have k2 : small62 (xs.length : Int) = true := small62_of (by omega)
      simp only [k2, if_true, Option.bind_some, Int.toNat_natCast]
      have key := lcL_filter (gd := gdT) (g := gV 2) (t := tNot (tB (eN R [(e2 gIx (eV 0) (eV 2)), (e2 gIx (eV 1) (eV 2))]))) (e := eV 2) (vs := [2]) (σ := [some x, some y, none]) (rangeW 0 xs.length) id
        (fun w => match w with | .int i => !(bs.getD i.toNat true) | _ => false) M [] (by rw [rangeW_length]; simp; omega) (fun _ => rfl) (fun w hw l => by
          obtain ⟨i, hi, rfl⟩ := rangeW_mem hw
          refine ⟨[some x, some y, some (.int (0 + (i : Nat)))], rfl, ?_, fun _ => rfl⟩
          obtain ⟨p, hp⟩ : ∃ p, xs[i]? = some p := ⟨_, List.getElem?_eq_getElem hi⟩
          obtain ⟨q, hq⟩ : ∃ q, ys[i]? = some q := ⟨_, List.getElem?_eq_getElem (by omega)⟩
          obtain ⟨z, hz, hRz⟩ := hR i p q hp hq [.lst l]
          have f1 := ix_seq' (seqW_app (g := [.lst l]) hx) hp
          have f2 := ix_seq' (seqW_app (g := [.lst l]) hy) hq
          simp [f1, f2, hRz, hz])
      rw [key]
      simp only [Option.bind_some, eLst_eq, eArgs_nil, List.length_nil, Nat.zero_le, if_true, List.nil_append, List.map_id, gEq_eq]
      have hf : ∃ is : List Int, (rangeW 0 xs.length).filter (fun w => match w with | .int i => !(bs.getD i.toNat true) | _ => false) = is.map enc ∧ (is = [] ↔ bs.all id = true) := by
        refine ⟨((List.range xs.length).filter fun i => !(bs.getD i true)).map fun i => (0 + (i : Nat) : Int), ?_, ?_⟩
        · unfold rangeW
          rw [List.filter_map, List.map_map]
          have hp : ((fun w => match w with | .int i => !(bs.getD i.toNat true) | _ => false) ∘ fun (i : Nat) => W.int (0 + (i : Int))) = fun i => !(bs.getD i true) := by
            funext i
            show (!(bs.getD (0 + (i : Int)).toNat true)) = _
            rw [Int.zero_add, Int.toNat_natCast]
          rw [hp]
          exact List.map_congr_left fun _ _ => rfl
        · rw [List.map_eq_nil_iff, List.filter_eq_nil_iff, List.all_eq_true]
          constructor
          · intro h0 z hz
            obtain ⟨i, hi⟩ := List.getElem?_of_mem hz
            have hil : i < xs.length := by rw [← hbl]; exact (List.getElem?_eq_some_iff.mp hi).1
            have := h0 i (List.mem_range.mpr hil)
            rw [List.getD_eq_getElem?_getD, hi] at this
            simpa using this
          · intro h0 i hi
            have hil : i < bs.length := by rw [hbl]; exact List.mem_range.mp hi
            have := h0 bs[i] (List.getElem_mem hil)
            simp [hil] at this ⊢
            exact this
      obtain ⟨is, hf1, hf2⟩ := hf
      rw [hf1]
      have := eqW_lst (α := Int) (M ++ [.lst (is.map enc)] ++ [.lst []]) M.length (M ++ [MO.lst (is.map enc)]).length is [] (by simp) (by simp)
      refine ⟨[.lst (is.map enc)] ++ [.lst []], ?_⟩
      have hd : decide (is = []) = r := by
        rw [← hr, Bool.eq_iff_iff, decide_eq_true_eq]
        exact hf2
      rw [hd, List.append_assoc] at this
      simp only [this, Option.map_some, Option.bind_some, List.append_assoc]
    · refine ⟨[], ?_⟩
      have k1 : (!decide ((xs.length : Int) = (ys.length : Int))) = true := by simp; omega
      simp only [if_pos k1, Option.bind_some, h3 hl, List.append_nil]
  · refine ⟨[], ?_⟩
    have k1 : (!decide (b = c)) = true := by simp [hb]
    simp only [k1, if_true, Option.bind_some, h2 hb, sRet_eq, eL_eq, List.append_nil]

theorem isScal_closed {w : W} (h : isScal w = true) (n : Nat) : w.closed n = true := by cases w <;> first | rfl | cases h
theorem like_scal1 {M : Mem} {x y : W} {b : Bool} {xs : List W} (R : Fn) (hx : seqW M x = some (b, xs)) (hy : isScal y = true) : ∃ g, c__law_like R [some x, some y, none] M = some (.rt (.bl false) (M ++ g)) := by
  refine ⟨[], ?_⟩
  unfold c__law_like
  cases b <;> simp [isi2_seq hx, isiL_seq hx, isiT_seq hx, isiL_scal hy, isiT_scal hy]
theorem like_scal2 {M : Mem} {x y : W} {b : Bool} {ys : List W} (R : Fn) (hx : isScal x = true) (hy : seqW M y = some (b, ys)) : ∃ g, c__law_like R [some x, some y, none] M = some (.rt (.bl false) (M ++ g)) := by
  refine ⟨[], ?_⟩
  unfold c__law_like
  simp [isi2_scal hx, isi2_seq hy]
theorem like_scal3 {M : Mem} {x y : W} (R : Fn) {r : Bool} (hx : isScal x = true) (hy : isScal y = true) (h : isBl x = isBl y → eqW M x y = some r) (h2 : isBl x ≠ isBl y → r = false) : ∃ g, c__law_like R [some x, some y, none] M = some (.rt (.bl r) (M ++ g)) := by
  refine ⟨[], ?_⟩
  unfold c__law_like
  by_cases hb : isBl x = isBl y
  · simp [isi2_scal hx, isi2_scal hy, isiB_scal hx, isiB_scal hy, hb, h hb]
  · simp [isi2_scal hx, isi2_scal hy, isiB_scal hx, isiB_scal hy, hb, h2 hb]
theorem toD_app {M g : Mem} : ∀ (k : Nat) (x : W) (d : PyData), toD M k x = some d → toD (M ++ g) k x = some d
  | 0, _, _, h => by cases h
  | k + 1, x, d, h => by
    have all : ∀ (ws : List W) (ds : List PyData), mapO (toD M k) ws = some ds → mapO (toD (M ++ g) k) ws = some ds := by
      intro ws
      induction ws with
      | nil => intro ds h; exact h
      | cons w ws ih =>
        intro ds h
        rw [mapO] at h
        split at h
        · rename_i b bs h1 h2
          cases h
          rw [mapO, toD_app k w b h1, ih bs h2]
        · cases h
    cases x with
    | tup ws =>
      rw [toD] at h ⊢
      obtain ⟨ds, h1, rfl⟩ := Option.map_eq_some_iff.mp h
      rw [all ws ds h1]; rfl
    | ref n =>
      rw [toD] at h ⊢
      split at h
      · rename_i ws hw
        obtain ⟨ds, h1, rfl⟩ := Option.map_eq_some_iff.mp h
        rw [get_app hw]
        simp only [all ws ds h1]; rfl
      · rename_i ws hw
        obtain ⟨ds, h1, rfl⟩ := Option.map_eq_some_iff.mp h
        rw [get_app hw]
        simp only [all ws ds h1]; rfl
      · cases h
    | _ => exact h
theorem eqW_app {M g : Mem} {x y : W} {b : Bool} (h : eqW M x y = some b) : eqW (M ++ g) x y = some b := by
  unfold eqW at h
  split at h
  · rename_i d e h1 h2
    cases h
    unfold eqW
    rw [toD_app 64 x d h1, toD_app 64 y e h2]
  · cases h
theorem seqW_none_app {M g : Mem} {x : W} (h : isScal x = true) : seqW M x = none ∧ seqW (M ++ g) x = none := by cases x <;> first | exact ⟨rfl, rfl⟩ | cases h
theorem likeW_grow {M g : Mem} : ∀ (k : Nat) (x y : W) (b : Bool), likeW M k x y = some b → likeW (M ++ g) k x y = some b
  | 0, _, _, _, h => by cases h
  | k + 1, x, y, b, h => by
    rw [likeW] at h ⊢
    split at h
    · rename_i b1 xs hx
      rw [seqW_app hx]
      split at h
      · rename_i c ys hy
        rw [seqW_app hy]
        simp only at h ⊢
        split at h
        · rename_i hb; rw [if_pos hb]; exact h
        · rename_i hb
          rw [if_neg hb]
          split at h
          · rename_i hl; rw [if_pos hl]; exact h
          · rename_i hl
            rw [if_neg hl]
            split at h
            · rename_i h5
              rw [if_pos h5]
              obtain ⟨bs, h1, h2⟩ := Option.map_eq_some_iff.mp h
              have all : ∀ (ps : List (W × W)) (bs : List Bool), mapO (fun p => likeW M k p.1 p.2) ps = some bs → mapO (fun p => likeW (M ++ g) k p.1 p.2) ps = some bs := by
                intro ps
                induction ps with
                | nil => intro ds h; exact h
                | cons w ws ih =>
                  intro ds h
                  rw [mapO] at h
                  split at h
                  · rename_i b bs h1 h2
                    cases h
                    rw [mapO, likeW_grow k w.1 w.2 b h1, ih bs h2]
                  · cases h
              rw [all _ bs h1, ← h2]; rfl
            · cases h
      · rename_i hy
        split at h
        · rename_i hs
          rw [(seqW_none_app (M := M) (g := g) hs).2]
          simp only [if_pos hs]; exact h
        · cases h
    · rename_i hx
      split at h
      · rename_i hs
        rw [(seqW_none_app (M := M) (g := g) hs).2]
        simp only [if_pos hs]
        split at h
        · rename_i hy
          rw [seqW_app hy]; exact h
        · split at h
          · rename_i hy
            rw [(seqW_none_app (M := M) (g := g) hy).2]
            simp only [if_pos hy]
            split at h
            · rename_i hb; rw [if_pos hb]; exact eqW_app h
            · rename_i hb; rw [if_neg hb]; exact h
          · cases h
      · cases h
theorem keeps__law_like (d : Nat) : Keeps 3 (c__law_like (F__law_like d)) (F__law_like (d + 1)) := by
  refine KeepsP.keeps ?_
  intro ws M w M' hc hw e
  unfold F__law_like at e
  split at e
  · rename_i x y
    obtain ⟨r, hr, e2⟩ := Option.map_eq_some_iff.mp e
    cases e2
    have fin : (∃ g, c__law_like (F__law_like d) [some x, some y, none] M = some (.rt (.bl r) (M ++ g))) → ∃ g, (c__law_like (F__law_like d) (([x, y] : List W).map some ++ List.replicate (3 - ([x, y] : List W).length) none) M = some (.rt (.bl r) (M ++ g)) ∨
      W.bl r = .non ∧ ∃ σ', c__law_like (F__law_like d) (([x, y] : List W).map some ++ List.replicate (3 - ([x, y] : List W).length) none) M = some (.nx σ' (M ++ g))) ∧ M.length ≤ M.length ∧ Closed M ∧ (W.bl r).closed M.length = true :=
      fun ⟨g, hg⟩ => ⟨g, .inl hg, Nat.le_refl _, hc, rfl⟩
    refine fin ?_
    rw [likeW] at hr
    split at hr
    · rename_i b xs hx
      split at hr
      · rename_i c ys hy
        refine like_seq _ hx hy (fun h1 h2 => ?_) (fun h1 => ?_) (fun h2 => ?_)
        · subst h1
          rw [if_neg (by simp), if_neg (by simpa using h2)] at hr
          split at hr
          · rename_i h5
            obtain ⟨bs, h3, h4⟩ := Option.map_eq_some_iff.mp hr
            obtain ⟨l1, l2⟩ := mapO_at h3
            refine ⟨h5, bs, by rw [l1, List.length_zip]; omega, h4, fun i p q hp hq g => ?_⟩
            obtain ⟨z, hz, hlk⟩ := l2 i (p, q) (by rw [List.getElem?_zip_eq_some]; exact ⟨hp, hq⟩)
            refine ⟨z, hz, ?_⟩
            show (likeW (M ++ g) d p q).map _ = _
            rw [likeW_grow d p q z hlk]; rfl
          · cases hr
        · rw [if_pos h1] at hr
          cases hr; rfl
        · by_cases h1 : b ≠ c
          · rw [if_pos h1] at hr; cases hr; rfl
          · rw [if_neg h1, if_pos h2] at hr; cases hr; rfl
      · split at hr
        · rename_i hs
          cases hr
          exact like_scal1 _ hx hs
        · cases hr
    · split at hr
      · rename_i hs
        split at hr
        · rename_i hy
          cases hr
          exact like_scal2 _ hs hy
        · split at hr
          · rename_i hs2
            refine like_scal3 _ hs hs2 (fun hb => ?_) (fun hb => ?_)
            · rw [if_pos hb] at hr; exact hr
            · rw [if_neg hb] at hr; cases hr; rfl
          · cases hr
      · cases hr
  · cases e
/-- no tuple in it is long -/
def smallW : Nat → W → Bool
  | 0, _ => false
  | k + 1, .tup ws => decide (ws.length ≤ 100000) && ws.all (smallW k)
  | _ + 1, .non | _ + 1, .bl _ | _ + 1, .int _ | _ + 1, .str _ | _ + 1, .ref _ => true
/-- of list-free values it is equality itself -/
theorem eqP_scal {x y : W} (hx : isScal x = true) (hy : isScal y = true) (hb : isBl x = isBl y) : eqP x y = decide (x = y) := by
  rw [Bool.eq_iff_iff, decide_eq_true_eq]
  cases x <;> cases y <;> simp [isScal, isBl, eqP] at *
theorem likeW_S (M : Mem) (k : Nat) (x y : W) (sx : isScal x = true) (sy : isScal y = true) (hx : okW (k + 1) x = true) (hy : okW (k + 1) y = true) (hk : k + 1 ≤ 64) : likeW M (k + 1) x y = some (decide (x = y)) := by
  rw [likeW, (seqW_none_app (M := M) (g := []) sx).1]
  simp only [sx, if_true]
  rw [(seqW_none_app (M := M) (g := []) sy).1]
  simp only [sy, if_true]
  split
  · rename_i hb
    rw [eqW_P M (okW_mono _ _ hx 64 hk) (okW_mono _ _ hy 64 hk), eqP_scal sx sy hb]
  · rename_i hb
    congr 1
    symm
    rw [decide_eq_false_iff_not]
    intro e
    exact hb (by rw [e])
theorem likeW_P (M : Mem) : ∀ (k : Nat) (x y : W), okW k x = true → okW k y = true → (∀ z, z = x ∨ z = y → smallW k z = true) → k ≤ 64 → likeW M k x y = some (decide (x = y))
  | 0, _, _, h, _, _, _ => by cases h
  | k + 1, x, y, hx, hy, hz, hk => by
    cases x with
    | ref _ => rw [okW] at hx; cases hx
    | tup xs =>
      cases y with
      | ref _ => rw [okW] at hy; cases hy
      | tup ys =>
        rw [okW, List.all_eq_true] at hx hy
        have s1 := hz _ (.inl rfl)
        have s2 := hz _ (.inr rfl)
        rw [smallW, Bool.and_eq_true, List.all_eq_true] at s1 s2
        rw [likeW]
        show (if false ≠ false then some false else if xs.length ≠ ys.length then some false else if xs.length ≤ 100000 then _ else none) = _
        rw [if_neg (by simp)]
        by_cases hl : xs.length = ys.length
        · rw [if_neg (by simpa using hl), if_pos (of_decide_eq_true s1.1)]
          have : ∀ (xs ys : List W), xs.length = ys.length → (∀ x ∈ xs, okW k x = true) → (∀ x ∈ ys, okW k x = true) → (∀ x ∈ xs, smallW k x = true) → (∀ x ∈ ys, smallW k x = true) →
              (mapO (fun p : W × W => likeW M k p.1 p.2) (xs.zip ys)).map (fun bs => bs.all id) = some (decide (xs = ys)) := by
            intro xs
            induction xs with
            | nil => intro ys h _ _ _ _; cases ys with
              | nil => rfl
              | cons _ _ => cases h
            | cons x xs ih =>
              intro ys h a1 a2 a3 a4
              cases ys with
              | nil => cases h
              | cons y ys =>
                have e1 := likeW_P M k x y (a1 x List.mem_cons_self) (a2 y List.mem_cons_self) (fun z hz => hz.elim (fun e => e ▸ a3 x List.mem_cons_self) (fun e => e ▸ a4 y List.mem_cons_self)) (by omega)
                have e2 := ih ys (by simpa using h) (fun z hz => a1 z (List.mem_cons_of_mem _ hz)) (fun z hz => a2 z (List.mem_cons_of_mem _ hz)) (fun z hz => a3 z (List.mem_cons_of_mem _ hz)) (fun z hz => a4 z (List.mem_cons_of_mem _ hz))
                obtain ⟨bs, h1, h2⟩ := Option.map_eq_some_iff.mp e2
                rw [List.zip_cons_cons, mapO, e1, h1]
                simp only [Option.map_some, List.all_cons, id, h2]
                congr 1
                by_cases hxy : x = y <;> by_cases hxs : xs = ys <;> simp [hxy, hxs]
          rw [this xs ys hl hx hy s1.2 s2.2]
          simp
        · rw [if_pos (by simpa using hl)]
          congr 1
          symm
          rw [decide_eq_false_iff_not]
          intro e
          cases e
          exact hl rfl
      | _ => rfl
    | _ => cases y with
      | ref _ => rw [okW] at hy; cases hy
      | tup _ => rfl
      | _ => exact likeW_S M k _ _ rfl rfl hx hy hk
theorem like_enc {α : Type} [Enc α] [DecidableEq α] (d : Nat) (a b : α) (M : Mem) (h1 : dep α ≤ d) (h2 : d ≤ 64) (sa : smallW d (enc a) = true) (sb : smallW d (enc b) = true) : F__law_like d [enc a, enc b] M = some (.bl (decide (a = b)), M) := by
  unfold F__law_like
  simp only
  rw [likeW_P M d _ _ (okW_mono _ _ (ok a) d h1) (okW_mono _ _ (ok b) d h1) (fun z hz => hz.elim (fun e => e ▸ sa) (fun e => e ▸ sb)) h2]
  have : decide ((enc a : W) = enc b) = decide (a = b) := by
    rw [Bool.eq_iff_iff, decide_eq_true_eq, decide_eq_true_eq]
    exact ⟨fun h => Enc.inj h, fun h => by rw [h]⟩
  rw [this]; rfl
theorem F0__law_like (ws : List W) (M : Mem) : F__law_like 0 ws M = none := by
  unfold F__law_like
  split <;> rfl
end BF

set_option Elab.async false
set_option linter.all false
set_option autoImplicit false
set_option maxRecDepth 10000
namespace BF
open PySem Enc
/-! what all laws begin with -/
abbrev pool3 : List Str := ["a", "b", "c"]
theorem keeps_lawT {n : Nat} {body : CS} (h : ∀ ns : List Int, ns.length ≤ 63 → ∃ s g, body (some (.ref 0) :: List.replicate (n - 1) none) [.ro (ns.map W.int)] = some (.rt (.bl true) (TM ns s g))) : Keeps n body lawF := keeps_law fun ns hn => by
  obtain ⟨s, g, e⟩ := h ns hn
  exact ⟨_, e⟩
theorem small_sight (d : Nat) (x : Sight) : smallW (d + 2) (enc x) = true := by simp [enc_sight, smallW]
theorem small_hist (d : Nat) (x : Hist) (h : x.ps.length ≤ 100000) : smallW (d + 3) (enc x) = true := by simp [enc_hist, smallW]; exact h
theorem small_oi (d : Nat) (x : Option Int) : smallW (d + 1) (enc x) = true := by cases x <;> rfl
/-- a law's frame: the tape, the pages, so many turns -/
theorem law_shape {n K : Nat} {B : CS} {pe : CE} {pl : List Str} (hk : small62 (K : Int) = true) (hp : ∀ σ M, pe σ M = some (enc pl, M)) (hn : 4 ≤ n)
    (turn : ∀ ns s g σ, σ.length = n → σ[1]? = some (some (.ref 2)) → σ[2]? = some (some (enc pl)) → ∃ σ2 s' g', B σ (TM ns s g) = some (.nx σ2 (TM ns s' g')) ∧ σ2.length = n ∧ σ2[1]? = some (some (.ref 2)) ∧ σ2[2]? = some (some (enc pl))) :
    Keeps n (sSeq (sSet (gV 1) (eLst [(eN pList [(eV 0)]), (eL (.int 0)), (eL (.int 0))])) (sSeq (sSet (gV 2) pe) (sSeq (sFor (iRange1 (eL (.int K))) (gV 3) B) (sRet (eL (.bl true)))))) lawF := by
  refine keeps_lawT fun ns hl => ?_
  obtain ⟨m, rfl⟩ : ∃ m, n = m + 4 := ⟨n - 4, by omega⟩
  have key := forL_ind (gd := gdT) (g := gV 3) (body := B) (rangeW 0 K) (fun _ σ M => ∃ s g, M = TM ns s g ∧ σ.length = m + 4 ∧ σ[1]? = some (some (.ref 2)) ∧ σ[2]? = some (some (enc pl)))
    (σ := some (.ref 0) :: some (.ref 2) :: some (enc pl) :: none :: List.replicate m none) (M := TM ns (0, 0) []) ⟨_, _, rfl, by simp, rfl, rfl⟩ (fun _ _ _ _ => rfl) (by
    intro i w σ M _ ⟨s, g, hM, hl, h1, h2⟩
    subst hM
    obtain ⟨σ2, s', g', e, l1, l2, l3⟩ := turn ns s g (σ.set 3 (some w)) (by simpa using hl) (by simpa using h1) (by simpa using h2)
    exact ⟨σ.set 3 (some w), rfl, σ2, _, .inl e, _, _, rfl, l1, l2, l3⟩)
  obtain ⟨σ', M', e, s, g, hM, _⟩ := key
  subst hM
  refine ⟨s, g, ?_⟩
  have kl : ns.length ≤ 16777216 := by omega
  have e0 : List.replicate (m + 4 - 1) (none : Option W) = none :: none :: none :: List.replicate m none := rfl
  rw [e0]
  simp only [TM] at e
  simp [hp, e, kl, hk, TM]
theorem law_tape {R : CS} {n : Nat} {ns : List Int} (hl : ns.length ≤ 63) : (sSeq (sSet (gV 1) (eLst [(eN pList [(eV 0)]), (eL (.int 0)), (eL (.int 0))])) R) (some (.ref 0) :: none :: List.replicate n none) [.ro (ns.map W.int)] = R (some (.ref 0) :: some (.ref 2) :: List.replicate n none) (TM ns (0, 0) []) := by
  have kl : ns.length ≤ 16777216 := by omega
  simp [kl, TM]
end BF

set_option Elab.async false
set_option linter.all false
set_option autoImplicit false
set_option maxRecDepth 10000
namespace BF
open PySem Enc
/-! histories: what an action does -/
def valid (h : Hist) : Prop := h.at_ < h.ps.length ∧ h.ps.length ≤ 1000
instance (h : Hist) : Decidable (valid h) := by unfold valid; infer_instance
def stepH (h : Hist) : Act → Hist
  | .visit p => ⟨h.ps.take (h.at_ + 1) ++ [p], h.at_ + 1⟩
  | .back => ⟨h.ps, h.at_ - 1⟩
  | .forward => ⟨h.ps, min (h.ps.length - 1) (h.at_ + 1)⟩
  | .go i => if i < h.ps.length then ⟨h.ps, i⟩ else h
def plain : Act → Bool
  | .go _ => false
  | _ => true
/-- valid, with room for so many more pages -/
def roomy (h : Hist) (n : Nat) : Prop := h.at_ < h.ps.length ∧ h.ps.length + n ≤ 1000
instance (h : Hist) (n : Nat) : Decidable (roomy h n) := by unfold roomy; infer_instance
theorem roomy_step {h : Hist} {n : Nat} (a : Act) (hr : roomy h (n + 1)) : roomy (stepH h a) n := by
  obtain ⟨h1, h2⟩ := hr
  cases a with
  | visit p => constructor <;> simp [stepH] <;> omega
  | back => constructor <;> simp [stepH] <;> omega
  | forward => constructor <;> simp [stepH] <;> omega
  | go i =>
    show roomy (if i < h.ps.length then ⟨h.ps, i⟩ else h) n
    by_cases hi : i < h.ps.length
    · rw [if_pos hi]; exact ⟨hi, by show h.ps.length + n ≤ 1000; omega⟩
    · rw [if_neg hi]; exact ⟨h1, by omega⟩
def runH (h : Hist) (l : List Act) : Hist := l.foldl stepH h
theorem roomy_run : ∀ (l : List Act) {h : Hist} {n : Nat}, roomy h (n + l.length) → roomy (runH h l) n
  | [], _, _, hr => hr
  | a :: l, h, n, hr => roomy_run l (roomy_step a (by rw [List.length_cons, ← Nat.add_assoc] at hr; exact hr))
theorem roomy_mono {h : Hist} {n m : Nat} (hr : roomy h n) (hm : m ≤ n) : roomy h m := ⟨hr.1, by have := hr.2; omega⟩
theorem enc_hist' (h : Hist) : (enc h : W) = .tup [.tup (h.ps.map W.str), .int h.at_] := rfl
theorem enc_mk (ps : List Str) (i : Nat) : (.tup [.tup (ps.map W.str), .int i] : W) = enc (⟨ps, i⟩ : Hist) := rfl
end BF

set_option Elab.async false
set_option linter.all false
set_option autoImplicit false
set_option maxRecDepth 10000
namespace BF
open PySem Enc
/-! _law_history -/
/-- so many draws, one after another -/
def repD {α : Type} (f : Dr → α × Dr) : Nat → Dr → List α × Dr
  | 0, s => ([], s)
  | n + 1, s => ((f s).1 :: (repD f n (f s).2).1, (repD f n (f s).2).2)
theorem repD_length {α : Type} (f : Dr → α × Dr) : ∀ (n : Nat) (s : Dr), (repD f n s).1.length = n
  | 0, _ => rfl
  | n + 1, s => by rw [repD, List.length_cons, repD_length f n]
theorem repD_all {α : Type} (f : Dr → α × Dr) (P : α → Prop) (h : ∀ s, P (f s).1) : ∀ (n : Nat) (s : Dr), ∀ a ∈ (repD f n s).1, P a
  | 0, _, a, ha => by cases ha
  | n + 1, s, a, ha => by
    rw [repD] at ha
    rcases List.mem_cons.mp ha with rfl | ha
    · exact h s
    · exact repD_all f P h n _ a ha
/-- a comprehension over a range whose items draw -/
theorem lcL_rep {α : Type} [Enc α] {e : CE} {vs : List Nat} {σ : Sl} {i : Nat} {ns : List Int} (f : Dr → α × Dr) (g : Mem) (h : ∀ (w : W) (s : Dr) (l : List W), e ((wipe σ vs).set i (some w)) (TM ns s (g ++ [.lst l])) = some (enc (f s).1, TM ns (f s).2 (g ++ [.lst l]))) :
    ∀ (ws : List W) (s : Dr) (acc : List W), acc.length + ws.length ≤ 16777216 →
      lcL gdT (gV i) tTrue e vs σ (g.length + 3) ws (TM ns s (g ++ [.lst acc])) = some (TM ns (repD f ws.length s).2 (g ++ [.lst (acc ++ (repD f ws.length s).1.map enc)]))
  | [], s, acc, _ => by rw [lcL, if_pos gdT_eq]; simp [repD]
  | w :: ws, s, acc, hl => by
    rw [List.length_cons] at hl
    rw [lcL, if_pos gdT_eq, gV_eq]
    simp only [Option.bind_some, tTrue_eq, if_true, h w s acc]
    rw [show (TM ns (f s).2 (g ++ [MO.lst acc]))[g.length + 3]? = some (.lst acc) by simp [TM]]
    simp only [if_pos (show acc.length < 16777216 by omega)]
    rw [show (TM ns (f s).2 (g ++ [MO.lst acc])).set (g.length + 3) (.lst (acc ++ [enc (f s).1])) = TM ns (f s).2 (g ++ [.lst (acc ++ [enc (f s).1])]) by simp [TM]]
    rw [lcL_rep f g h ws (f s).2 _ (by simp; omega)]
    simp [repD]
def pickD (ns : List Int) (pool : List Str) (s : Dr) : Str × Dr := (pool.getD (drawD ns pool.length s).1 default, (drawD ns pool.length s).2)
def histD (ns : List Int) (most : Nat) (pool : List Str) (s : Dr) : Hist × Dr :=
  let r := drawD ns most s
  let q := repD (pickD ns pool) (1 + r.1) r.2
  let z := drawD ns (1 + r.1) q.2
  (⟨q.1, z.1⟩, z.2)
def histF (most : Nat) (pool : List Str) (ns : List Int) (s : Dr) : Option (Hist × Dr) := if 0 < most ∧ most ≤ 100 ∧ 0 < pool.length ∧ pool.length ≤ 100 then some (histD ns most pool s) else none
def F__law_history : Fn := fnT2 histF
abbrev N__law_history : List Str := ["tape", "most", "pool", "count", "pages", "k"]
def c__law_history : CS :=
  (sSeq (sSet (gV 3) (e2 gAdd (eL (.int 1)) (eN F__law_draw [(eV 0), (eV 1)])))
  (sSeq (sSet (gV 4) (eN pTuple [(eLc (iRange1 (eV 3)) (gV 5) tTrue (e2 gIx (eV 2) (eN F__law_draw [(eV 0), (eN pLen [(eV 2)])])) [5])]))
  (sRet (eTup [(eV 4), (eN F__law_draw [(eV 0), (eV 3)])]))))
theorem lhist_ok (ns : List Int) (most : Nat) (pool : List Str) (s : Dr) (g : Mem) (h1 : 0 < most) (h2 : most ≤ 100) (h3 : 0 < pool.length) (h4 : pool.length ≤ 100) :
    F__law_history [.ref 2, .int most, enc pool] (TM ns s g) = some (enc (histD ns most pool s).1, TM ns (histD ns most pool s).2 g) := by
  have := fnT2_eq histF most pool ns s g
  unfold histF at this
  rw [if_pos ⟨h1, h2, h3, h4⟩] at this
  exact this
theorem keeps__law_history : Keeps 6 c__law_history F__law_history := by
  refine keepsT2p fun most pool ns s g h s' e => ?_
  unfold histF at e
  split at e
  · rename_i hv
    cases e
    obtain ⟨h1, h2, h3, h4⟩ := hv
    have k1 := draw_ok most ns s g h1 (by omega)
    generalize hr : drawD ns most s = r at k1
    have hlt : r.1 < most := by rw [← hr]; exact drawD_lt ns s h1
    have k2 : small62 (1 + (r.1 : Int)) = true := small62_of (by omega)
    have k3 : (1 + (r.1 : Int)).toNat = 1 + r.1 := by omega
    have pick : ∀ (w : W) (s : Dr) (g : Mem), (e2 gIx (eV 2) (eN F__law_draw [(eV 0), (eN pLen [(eV 2)])])) [some (.ref 2), some (.int most), some (enc pool), some (.int (1 + (r.1 : Int))), none, some w] (TM ns s g) = some (enc (pickD ns pool s).1, TM ns (pickD ns pool s).2 g) := fun w s g => by
      have d1 := draw_ok pool.length ns s g h3 (by omega)
      have d2 := drawD_lt ns s h3
      obtain ⟨p, hp⟩ : ∃ p, pool[(drawD ns pool.length s).1]? = some p := ⟨_, List.getElem?_eq_getElem d2⟩
      simp [enc_list, d1, ixW_nat d2, hp, pickD]
    have key := lcL_rep (e := (e2 gIx (eV 2) (eN F__law_draw [(eV 0), (eN pLen [(eV 2)])]))) (vs := [5]) (σ := [some (.ref 2), some (.int most), some (enc pool), some (.int (1 + (r.1 : Int))), none, none]) (i := 5) (ns := ns) (pickD ns pool) g (fun w s l => pick w s (g ++ [MO.lst l])) (rangeW 0 (1 + r.1)) r.2 [] (by rw [rangeW_length]; simp; omega)
    rw [rangeW_length] at key
    generalize hq : repD (pickD ns pool) (1 + r.1) r.2 = q at key
    have d1 := draw_ok (1 + r.1) ns q.2 (g ++ [.lst (q.1.map enc)]) (by omega) (by omega)
    simp only [List.nil_append] at key
    have d3 : ((1 + r.1 : Nat) : Int) = (1 + (r.1 : Int)) := by omega
    rw [d3] at d1
    simp only [enc_list] at key
    simp [c__law_history, k1, k2, k3, key, enc_list, d1, enc_hist]
  · cases e
theorem histD_roomy (ns : List Int) (most : Nat) (pool : List Str) (s : Dr) (h : most ≤ 100) (hp : 0 < most) : roomy (histD ns most pool s).1 900 := by
  unfold histD
  simp only
  have h1 := drawD_lt ns s hp
  have h2 := drawD_lt ns (repD (pickD ns pool) (1 + (drawD ns most s).1) (drawD ns most s).2).2 (show 0 < 1 + (drawD ns most s).1 by omega)
  constructor
  · show _ < (repD _ _ _).1.length
    rw [repD_length]; exact h2
  · show (repD _ _ _).1.length + 900 ≤ 1000
    rw [repD_length]; omega
theorem histD_len (ns : List Int) (most : Nat) (pool : List Str) (s : Dr) (hp : 0 < most) : (histD ns most pool s).1.ps.length ≤ most := by
  show (repD _ _ _).1.length ≤ most
  rw [repD_length]
  have h1 := drawD_lt ns s hp
  omega
end BF

set_option Elab.async false
set_option linter.all false
set_option autoImplicit false
set_option maxRecDepth 10000
namespace BF
open PySem Enc
/-! _law_action -/
def actD (ns : List Int) (pool : List Str) (s : Dr) : Act × Dr :=
  let w := drawD ns 4 s
  let p := pickD ns pool w.2
  (if w.1 = 0 then .back else if w.1 = 1 then .forward else if w.1 = 2 then .back else .visit p.1, p.2)
def actF (pool : List Str) (ns : List Int) (s : Dr) : Option (Act × Dr) := if 0 < pool.length ∧ pool.length ≤ 100 then some (actD ns pool s) else none
def F__law_action : Fn := fnT1 actF
abbrev N__law_action : List Str := ["tape", "pool", "way"]
def c__law_action : CS :=
  (sSeq (sSet (gV 2) (eN F__law_draw [(eV 0), (eL (.int 4))]))
  (sRet (e2 gIx (eLst [(eTup [(eL (.str "back"))]), (eTup [(eL (.str "forward"))]), (eTup [(eL (.str "back"))]), (eTup [(eL (.str "visit")), (e2 gIx (eV 1) (eN F__law_draw [(eV 0), (eN pLen [(eV 1)])]))])]) (eV 2))))
theorem action_ok (ns : List Int) (pool : List Str) (s : Dr) (g : Mem) (h3 : 0 < pool.length) (h4 : pool.length ≤ 100) :
    F__law_action [.ref 2, enc pool] (TM ns s g) = some (enc (actD ns pool s).1, TM ns (actD ns pool s).2 g) := by
  have := fnT1_eq actF pool ns s g
  unfold actF at this
  rw [if_pos ⟨h3, h4⟩] at this
  exact this
theorem keeps__law_action : Keeps 3 c__law_action F__law_action := by
  refine keepsT1p fun pool ns s g h s' e => ?_
  unfold actF at e
  split at e
  · rename_i hv
    obtain ⟨h3, h4⟩ := hv
    simp only [actD, Option.some.injEq, Prod.mk.injEq] at e
    obtain ⟨z1, z2⟩ := e
    subst z1 z2
    have k1 := draw_ok 4 ns s g (by omega) (by omega)
    have hlt := drawD_lt ns s (show 0 < 4 by omega)
    generalize drawD ns 4 s = r at k1 hlt ⊢
    have k1' : F__law_draw [W.ref 2, W.int 4] (TM ns s g) = some (W.int ↑r.fst, TM ns r.snd g) := k1
    have d1 := draw_ok pool.length ns r.2 g h3 (by omega)
    have d2 := drawD_lt ns r.2 h3
    obtain ⟨p, hp⟩ : ∃ p, pool[(drawD ns pool.length r.2).1]? = some p := ⟨_, List.getElem?_eq_getElem d2⟩
    obtain ⟨r, t⟩ := r
    match r, hlt with
    | 0, _ | 1, _ | 2, _ | 3, _ => simp [c__law_action, k1', enc_list, d1, ixW_nat d2, hp, pickD, show ixW 4 2 = some 2 from rfl, show ixW 4 3 = some 3 from rfl]
  · cases e
theorem actD_plain (ns : List Int) (pool : List Str) (s : Dr) : plain (actD ns pool s).1 = true := by
  simp only [actD]
  split
  · rfl
  split
  · rfl
  split
  · rfl
  · rfl
end BF

set_option Elab.async false
set_option linter.all false
set_option autoImplicit false
set_option maxRecDepth 10000
namespace BF
open PySem Enc
/-! _law_script -/
def scrD (ns : List Int) (most : Nat) (pool : List Str) (s : Dr) : List Act × Dr :=
  let r := drawD ns (most + 1) s
  repD (actD ns pool) r.1 r.2
def scrF (most : Nat) (pool : List Str) (ns : List Int) (s : Dr) : Option (List Act × Dr) := if most ≤ 1000 ∧ 0 < pool.length ∧ pool.length ≤ 100 then some (scrD ns most pool s) else none
def F__law_script : Fn := fnT2 scrF
abbrev N__law_script : List Str := ["tape", "most", "pool", "k"]
def c__law_script : CS :=
  (sRet (eN pTuple [(eLc (iRange1 (eN F__law_draw [(eV 0), (e2 gAdd (eV 1) (eL (.int 1)))])) (gV 3) tTrue (eN F__law_action [(eV 0), (eV 2)]) [3])]))
theorem script_ok (ns : List Int) (most : Nat) (pool : List Str) (s : Dr) (g : Mem) (h2 : most ≤ 1000) (h3 : 0 < pool.length) (h4 : pool.length ≤ 100) :
    F__law_script [.ref 2, .int most, enc pool] (TM ns s g) = some (enc (scrD ns most pool s).1, TM ns (scrD ns most pool s).2 g) := by
  have := fnT2_eq scrF most pool ns s g
  unfold scrF at this
  rw [if_pos ⟨h2, h3, h4⟩] at this
  exact this
theorem keeps__law_script : Keeps 4 c__law_script F__law_script := by
  refine keepsT2p fun most pool ns s g h s' e => ?_
  unfold scrF at e
  split at e
  · rename_i hv
    obtain ⟨h2, h3, h4⟩ := hv
    simp only [scrD, Option.some.injEq] at e
    have d1 := draw_ok (most + 1) ns s (g ) (by omega) (by omega)
    have d2 := drawD_lt ns s (show 0 < most + 1 by omega)
    generalize drawD ns (most + 1) s = r at d1 d2 e
    have key := lcL_rep (e := eN F__law_action [(eV 0), (eV 2)]) (vs := [3]) (σ := [some (.ref 2), some (.int most), some (enc pool), none]) (i := 3) (ns := ns) (actD ns pool) g (fun w s l => by simp [wipe, action_ok ns pool s _ h3 h4]) (rangeW 0 r.1) r.2 [] (by rw [rangeW_length]; simp; omega)
    rw [rangeW_length, e] at key
    have k2 : small62 ((most : Int) + 1) = true := small62_of (by omega)
    have d1' : F__law_draw [W.ref 2, W.int ((most : Int) + 1)] (TM ns s g) = some (W.int ↑r.fst, TM ns r.snd g) := by exact d1
    simp only [List.nil_append, enc_list] at key
    have k3 : small62 (r.1 : Int) = true := small62_of (by omega)
    simp [c__law_script, k2, k3, d1', key, enc_list]
  · cases e
theorem scrD_plain (ns : List Int) (most : Nat) (pool : List Str) (s : Dr) : (scrD ns most pool s).1.all plain = true := List.all_eq_true.mpr fun _ h => repD_all _ (plain · = true) (actD_plain ns pool) _ _ _ h
theorem scrD_length (ns : List Int) (most : Nat) (pool : List Str) (s : Dr) : (scrD ns most pool s).1.length ≤ most := by
  unfold scrD
  simp only
  rw [repD_length]
  have := drawD_lt ns s (show 0 < most + 1 by omega)
  omega
end BF

set_option Elab.async false
set_option linter.all false
set_option autoImplicit false
set_option maxRecDepth 10000
namespace BF
open PySem Enc
/-! arbitrary values: readable ones, and promises that tell a truth value of them -/
theorem mapO_some {α β : Type} {f g : α → Option β} : ∀ {ws : List α} {ds : List β}, mapO f ws = some ds → (∀ w ∈ ws, ∀ d, f w = some d → g w = some d) → mapO g ws = some ds
  | [], _, h, _ => h
  | w :: ws, ds, h, hfg => by
    rw [mapO] at h
    split at h
    · rename_i b bs h1 h2
      cases h
      rw [mapO, hfg w List.mem_cons_self b h1, mapO_some h2 fun w' hw => hfg w' (List.mem_cons_of_mem _ hw)]
    · cases h
theorem toD_up {M : Mem} : ∀ (k : Nat) (w : W) (d : PyData), toD M k w = some d → toD M (k + 1) w = some d
  | 0, _, _, h => by cases h
  | k + 1, w, d, h => by
    cases w with
    | tup ws =>
      rw [toD] at h
      obtain ⟨ds, h1, rfl⟩ := Option.map_eq_some_iff.mp h
      rw [toD, mapO_some h1 fun w _ d => toD_up k w d]; rfl
    | ref n =>
      rw [toD] at h ⊢
      split at h
      · rename_i ws hw
        obtain ⟨ds, h1, rfl⟩ := Option.map_eq_some_iff.mp h
        simp only [mapO_some h1 fun w _ d => toD_up k w d]; rfl
      · rename_i ws hw
        obtain ⟨ds, h1, rfl⟩ := Option.map_eq_some_iff.mp h
        simp only [mapO_some h1 fun w _ d => toD_up k w d]; rfl
      · cases h
    | _ => exact h
theorem toD_le {M : Mem} {j k : Nat} (h : j ≤ k) {w : W} {d : PyData} (e : toD M j w = some d) : toD M k w = some d := by
  obtain ⟨n, rfl⟩ := Nat.exists_eq_add_of_le h
  clear h
  induction n with
  | zero => exact e
  | succ n ih => exact toD_up (j + n) w d ih
/-- a tuple's items can be read -/
theorem toD_tup {M : Mem} {k : Nat} {ws : List W} {d : PyData} (h : toD M k (.tup ws) = some d) : ∃ ds, d = .tuple ds ∧ ds.length = ws.length ∧ ∀ (i : Nat) (w : W), ws[i]? = some w → ∃ e, ds[i]? = some e ∧ toD M k w = some e := by
  cases k with
  | zero => cases h
  | succ k =>
    rw [toD] at h
    obtain ⟨ds, h1, rfl⟩ := Option.map_eq_some_iff.mp h
    obtain ⟨h2, h3⟩ := mapO_at h1
    refine ⟨ds, rfl, h2, fun i w hw => ?_⟩
    obtain ⟨e, h4, h5⟩ := h3 i w hw
    exact ⟨e, h4, toD_up k w e h5⟩
theorem toD_mem {M : Mem} {k : Nat} {ws : List W} {d : PyData} (h : toD M k (.tup ws) = some d) {w : W} (hw : w ∈ ws) : ∃ e, toD M k w = some e := by
  obtain ⟨ds, _, _, h3⟩ := toD_tup h
  obtain ⟨i, hi⟩ := List.getElem?_of_mem hw
  obtain ⟨e, _, h5⟩ := h3 i w hi
  exact ⟨e, h5⟩
theorem toD_closed {M : Mem} : ∀ (k : Nat) (w : W) (d : PyData), toD M k w = some d → w.closed M.length = true
  | 0, _, _, h => by cases h
  | k + 1, w, d, h => by
    cases w with
    | tup ws =>
      rw [toD] at h
      obtain ⟨ds, h1, rfl⟩ := Option.map_eq_some_iff.mp h
      have all : ∀ (ws : List W) (ds : List PyData), mapO (toD M k) ws = some ds → W.closeds M.length ws = true := by
        intro ws
        induction ws with
        | nil => intro ds h; rfl
        | cons w ws ih =>
          intro ds h
          rw [mapO] at h
          split at h
          · rename_i b bs h1 h2
            cases h
            rw [W.closeds, toD_closed k w b h1, ih bs h2]; rfl
          · cases h
      rw [W.closed]
      exact all ws ds h1
    | ref n =>
      rw [toD] at h
      rw [W.closed, decide_eq_true_eq]
      split at h
      · rename_i ws hw; exact (List.getElem?_eq_some_iff.mp hw).1
      · rename_i ws hw; exact (List.getElem?_eq_some_iff.mp hw).1
      · cases h
    | _ => rfl
def kindW : W → String
  | .non => "NoneType"
  | .bl _ => "bool"
  | .int _ => "int"
  | .str _ => "str"
  | .tup _ => "tuple"
  | .ref _ => "list"
theorem tyW_of {M : Mem} {k : Nat} {w : W} {d : PyData} (h : toD M k w = some d) : tyW M w = some (kindW w) := by
  cases k with
  | zero => cases h
  | succ k =>
    cases w with
    | ref n =>
      rw [toD] at h
      unfold tyW kindW
      simp only
      split at h
      · rfl
      · rfl
      · cases h
    | _ => rfl
theorem isi_of {M : Mem} {k : Nat} {w : W} {d : PyData} (C : String) (h : toD M k w = some d) : gIsi C M w = some (.bl (isTy C (kindW w)), M) := by
  unfold gIsi
  rw [tyW_of h]; rfl
theorem isi2_of {M : Mem} {k : Nat} {w : W} {d : PyData} (C D : String) (h : toD M k w = some d) : gIsi2 C D M w = some (.bl (isTy C (kindW w) || isTy D (kindW w)), M) := by
  unfold gIsi2
  rw [tyW_of h]; rfl
def isT : W → Bool
  | .tup _ => true
  | _ => false
def isS : W → Bool
  | .str _ => true
  | _ => false
def isI : W → Bool
  | .int _ => true
  | _ => false
theorem isTy_tup (w : W) : isTy "tuple" (kindW w) = isT w := by cases w <;> (simp only [kindW, isT]; decide)
theorem isTy_str (w : W) : isTy "str" (kindW w) = isS w := by cases w <;> (simp only [kindW, isS]; decide)
theorem isi_tup {M : Mem} {k : Nat} {w : W} {d : PyData} (h : toD M k w = some d) : gIsi "tuple" M w = some (.bl (isT w), M) := by rw [isi_of _ h, isTy_tup]
theorem isi_str {M : Mem} {k : Nat} {w : W} {d : PyData} (h : toD M k w = some d) : gIsi "str" M w = some (.bl (isS w), M) := by rw [isi_of _ h, isTy_str]
/-- a truth value told of a readable value -/
def pB (p : W → Bool) : Fn := fun ws M => match ws with
  | [w] => match toD M 40 w with
    | some _ => some (.bl (p w), M)
    | none => none
  | _ => none
theorem pB_eq {p : W → Bool} {M : Mem} {w : W} {d : PyData} (h : toD M 40 w = some d) : pB p [w] M = some (.bl (p w), M) := by
  unfold pB
  simp only [h]
theorem keepsB {p : W → Bool} {n : Nat} {body : CS} (h : ∀ w M d, toD M 40 w = some d → ∃ g, body (some w :: List.replicate (n - 1) none) M = some (.rt (.bl (p w)) (M ++ g))) : Keeps n body (pB p) := by
  refine KeepsP.keeps ?_
  intro ws M w M' hc hw e
  unfold pB at e
  split at e
  · rename_i x
    split at e
    · rename_i d hd
      cases e
      obtain ⟨g, hg⟩ := h x M d hd
      exact ⟨g, .inl hg, Nat.le_refl _, hc, rfl⟩
    · cases e
  · cases e
/-- compared with the empty tuple, the empty list -/
theorem eqW_nil {M : Mem} {ws : List W} {d : PyData} (h : toD M 40 (.tup ws) = some d) : eqW M (.tup ws) (.tup []) = some ws.isEmpty := by
  unfold eqW
  obtain ⟨ds, rfl, h2, _⟩ := toD_tup h
  rw [toD_le (k := 64) (by omega) h, toD_P M 64 (.tup []) (by decide)]
  show some (PyData.eqv (.tuple ds) (.tuple [])) = _
  rw [PyData.eqv]
  cases ds with
  | nil =>
    cases ws with
    | nil => rfl
    | cons _ _ => simp at h2
  | cons _ _ =>
    cases ws with
    | nil => simp at h2
    | cons _ _ => rfl
theorem mapO_of {α β : Type} {f : α → Option β} : ∀ {ws : List α}, (∀ w ∈ ws, ∃ d, f w = some d) → ∃ ds, mapO f ws = some ds ∧ ds.length = ws.length
  | [], _ => ⟨[], rfl, rfl⟩
  | w :: ws, h => by
    obtain ⟨d, hd⟩ := h w List.mem_cons_self
    obtain ⟨ds, h1, h2⟩ := mapO_of fun w' hw => h w' (List.mem_cons_of_mem _ hw)
    exact ⟨d :: ds, by rw [mapO, hd, h1], by simp [h2]⟩
theorem eqL_nil {M : Mem} {n m : Nat} {ws : List W} (h1 : M[n]? = some (.lst ws)) (h2 : M[m]? = some (.lst [])) (h : ∀ w ∈ ws, ∃ d, toD M 40 w = some d) : eqW M (.ref n) (.ref m) = some ws.isEmpty := by
  unfold eqW
  obtain ⟨ds, e1, e2⟩ := mapO_of (f := toD M 63) (ws := ws) fun w hw => by
    obtain ⟨d, hd⟩ := h w hw
    exact ⟨d, toD_le (by omega) hd⟩
  have q1 : toD M 64 (.ref n) = some (.list ds) := by
    rw [toD, h1]
    simp only [e1]; rfl
  have q2 : toD M 64 (.ref m) = some (.list []) := by
    rw [toD, h2]; rfl
  rw [q1, q2]
  show some (PyData.eqv (.list ds) (.list [])) = _
  rw [PyData.eqv]
  cases ds with
  | nil =>
    cases ws with
    | nil => rfl
    | cons _ _ => simp at e2
  | cons _ _ =>
    cases ws with
    | nil => simp at e2
    | cons _ _ => rfl
theorem filter_none {ws : List W} (p : W → Bool) : (ws.filter fun w => !p w).isEmpty = ws.all p := by
  rw [Bool.eq_iff_iff, List.isEmpty_iff, List.filter_eq_nil_iff, List.all_eq_true]
  simp
end BF

set_option Elab.async false
set_option linter.all false
set_option autoImplicit false
set_option maxRecDepth 10000
namespace BF
open PySem Enc
/-! values over the tape's memory: how deep, how long; no part of them is a thing that still changes -/
def okV (B : Nat) (g : Mem) : Nat → W → Bool
  | 0, _ => false
  | _ + 1, .non | _ + 1, .bl _ | _ + 1, .int _ => true
  | _ + 1, .str x => decide (x.length ≤ B)
  | k + 1, .tup ws => decide (ws.length ≤ B) && ws.all (okV B g k)
  | k + 1, .ref n => match g[n - 3]? with
    | some (.lst ws) => decide (3 ≤ n) && decide (ws.length ≤ B) && ws.all (okV B g k)
    | _ => false
def Sbm (g0 g1 : Mem) : Prop := ∀ (i : Nat) (ws : List W), g0[i]? = some (MO.lst ws) → g1[i]? = some (MO.lst ws)
theorem Sbm.refl (g : Mem) : Sbm g g := fun _ _ h => h
theorem Sbm.app {g0 g1 h0 h1 : Mem} (h : Sbm g0 g1) (l : g0.length = g1.length) (k : Sbm h0 h1) : Sbm (g0 ++ h0) (g1 ++ h1) := by
  intro i ws hi
  by_cases hl : i < g0.length
  · rw [List.getElem?_append_left hl] at hi
    rw [List.getElem?_append_left (by omega)]
    exact h i ws hi
  · rw [List.getElem?_append_right (by omega)] at hi ⊢
    · rw [l] at hi; exact k _ ws hi
theorem Sbm.more {g0 g1 : Mem} (h : Sbm g0 g1) (g' : Mem) : Sbm g0 (g1 ++ g') := fun i ws hi => by
  have := h i ws hi
  rw [List.getElem?_append_left (List.getElem?_eq_some_iff.mp this).1]
  exact this
theorem okV_sub {B B' : Nat} {g0 g1 : Mem} (hB : B ≤ B') (s : Sbm g0 g1) : ∀ (k k' : Nat) (w : W), k ≤ k' → okV B g0 k w = true → okV B' g1 k' w = true
  | 0, _, _, _, h => by cases h
  | k + 1, 0, _, hk, _ => by omega
  | k + 1, k' + 1, w, hk, h => by
    cases w with
    | str x =>
      rw [okV, decide_eq_true_eq] at h ⊢
      omega
    | tup ws =>
      rw [okV, Bool.and_eq_true, decide_eq_true_eq, List.all_eq_true] at h ⊢
      exact ⟨by omega, fun w hw => okV_sub hB s k k' w (by omega) (h.2 w hw)⟩
    | ref n =>
      rw [okV] at h ⊢
      split at h
      · rename_i ws hw
        rw [s _ _ hw]
        simp only
        rw [Bool.and_eq_true, Bool.and_eq_true, decide_eq_true_eq, decide_eq_true_eq, List.all_eq_true] at h ⊢
        exact ⟨⟨h.1.1, by omega⟩, fun w hw => okV_sub hB s k k' w (by omega) (h.2 w hw)⟩
      · cases h
    | _ => rfl
theorem okV_toD {B : Nat} {g : Mem} {ns : List Int} {s : Dr} : ∀ (k : Nat) (w : W), okV B g k w = true → ∃ d, toD (TM ns s g) k w = some d
  | 0, _, h => by cases h
  | k + 1, w, h => by
    cases w with
    | tup ws =>
      rw [okV, Bool.and_eq_true, List.all_eq_true] at h
      obtain ⟨ds, e1, _⟩ := mapO_of (f := toD (TM ns s g) k) (ws := ws) fun w hw => okV_toD k w (h.2 w hw)
      exact ⟨.tuple ds, by rw [toD, e1]; rfl⟩
    | ref n =>
      rw [okV] at h
      split at h
      · rename_i ws hw
        rw [Bool.and_eq_true, Bool.and_eq_true, decide_eq_true_eq, List.all_eq_true] at h
        obtain ⟨ds, e1, _⟩ := mapO_of (f := toD (TM ns s g) k) (ws := ws) fun w hw => okV_toD k w (h.2 w hw)
        refine ⟨.list ds, ?_⟩
        have : (TM ns s g)[n]? = some (.lst ws) := by
          obtain ⟨m, rfl⟩ : ∃ m, n = m + 3 := ⟨n - 3, by omega⟩
          rw [TM_get3]; exact hw
        rw [toD, this]
        simp only [e1]; rfl
      · cases h
    | _ => exact ⟨_, rfl⟩
theorem okV_closed {B : Nat} {g : Mem} {k : Nat} {w : W} (h : okV B g k w = true) : w.closed (g.length + 3) = true := by
  obtain ⟨d, hd⟩ := okV_toD (ns := []) (s := (0, 0)) k w h
  exact toD_closed k w d hd
theorem okV_closeds {B : Nat} {g : Mem} {k : Nat} : ∀ {ws : List W}, (∀ w ∈ ws, okV B g k w = true) → W.closeds (g.length + 3) ws = true
  | [], _ => rfl
  | w :: ws, h => by
    rw [W.closeds, okV_closed (h w List.mem_cons_self), okV_closeds fun w' hw => h w' (List.mem_cons_of_mem _ hw)]; rfl
theorem cls_of {k : Nat} : ∀ {ws : List W}, (∀ w ∈ ws, w.closed k = true) → W.closeds k ws = true
  | [], _ => rfl
  | w :: ws, h => by
    rw [W.closeds, h w List.mem_cons_self, cls_of fun w' hw => h w' (List.mem_cons_of_mem _ hw)]; rfl
theorem of_closeds {k : Nat} : ∀ {ws : List W}, W.closeds k ws = true → ∀ w ∈ ws, w.closed k = true
  | w :: ws, h, w', hw => by
    rw [W.closeds, Bool.and_eq_true] at h
    rcases List.mem_cons.mp hw with rfl | hw
    · exact h.1
    · exact of_closeds h.2 w' hw
/-- closed memories -/
theorem cl_new {ns : List Int} {s s' : Dr} {g : Mem} {ws : List W} (h : Closed (TM ns s g)) (hw : W.closeds (g.length + 3) ws = true) : Closed (TM ns s' (g ++ [.lst ws])) := by
  have : Closed (TM ns s' g ++ [.lst ws]) := closed_app (closed_TM h) fun mo hm => by
    rw [List.mem_singleton.mp hm]
    exact W.closeds_mono (by simp) ws hw
  exact this
theorem cl_set {M : Mem} {n : Nat} {ws : List W} (h : Closed M) (hw : W.closeds M.length ws = true) : Closed (M.set n (.lst ws)) := by
  intro mo hm
  rw [List.length_set]
  rcases List.mem_or_eq_of_mem_set hm with hm | rfl
  · exact h mo hm
  · exact hw
theorem cl_get {M : Mem} (h : Closed M) {n : Nat} {ws : List W} (hn : M[n]? = some (.lst ws)) : W.closeds M.length ws = true := h _ (List.mem_of_getElem? hn)
/-- a promise that runs the body -/
def runF (n : Nat) (body : CS) : Fn := fun ws M => match body (ws.map some ++ List.replicate (n - ws.length) none) M with
  | some (.rt w M') => if M.length ≤ M'.length ∧ w.closed M'.length = true ∧ M'.all (fun mo => mo.closed M'.length) = true then some (w, M') else none
  | _ => none
theorem keeps_run {n : Nat} {body : CS} : Keeps n body (runF n body) := by
  refine KeepsP.keeps ?_
  intro ws M w M' hc hw e
  unfold runF at e
  split at e
  · rename_i w1 M1 h1
    split at e
    · rename_i h2
      cases e
      refine ⟨[], .inl ?_, h2.1, fun mo hm => List.all_eq_true.mp h2.2.2 mo hm, h2.2.1⟩
      rw [List.append_nil]; exact h1
    · cases e
  · cases e
theorem runF_of {n : Nat} {body : CS} {ws : List W} {M M' : Mem} {w : W} (h : body (ws.map some ++ List.replicate (n - ws.length) none) M = some (.rt w M')) (hl : M.length ≤ M'.length) (hw : w.closed M'.length = true) (hc : Closed M') : runF n body ws M = some (w, M') := by
  unfold runF
  rw [h]
  exact if_pos ⟨hl, hw, List.all_eq_true.mpr fun mo hm => hc mo hm⟩
/-- what a promise over the tape gives: a value that is all right, in a memory with more behind -/
def Gives (B k : Nat) (ns : List Int) (g g0 : Mem) (o : Option (W × Mem)) : Prop :=
  ∃ w s' g', o = some (w, TM ns s' (g ++ g')) ∧ okV B (g0 ++ g') k w = true ∧ Closed (TM ns s' (g ++ g'))
def GivesB (B k : Nat) (ns : List Int) (g g0 : Mem) (o : Option Out) : Prop :=
  ∃ w s' g', o = some (.rt w (TM ns s' (g ++ g'))) ∧ okV B (g0 ++ g') k w = true ∧ Closed (TM ns s' (g ++ g'))
theorem gives_run {B k : Nat} {ns : List Int} {s : Dr} {g g0 : Mem} {n : Nat} {body : CS} {ws : List W} (l : g0.length = g.length) (h : GivesB B k ns g g0 (body (ws.map some ++ List.replicate (n - ws.length) none) (TM ns s g))) : Gives B k ns g g0 (runF n body ws (TM ns s g)) := by
  obtain ⟨w, s', g', h1, h2, h3⟩ := h
  refine ⟨w, s', g', runF_of h1 (by simp) ?_ h3, h2, h3⟩
  have := okV_closed h2
  rw [List.length_append, l] at this
  rw [TM_length, List.length_append]
  exact this
/-- a value without lists -/
def plV (B : Nat) : Nat → W → Bool
  | 0, _ => false
  | _ + 1, .non | _ + 1, .bl _ | _ + 1, .int _ => true
  | _ + 1, .str x => decide (x.length ≤ B)
  | k + 1, .tup ws => decide (ws.length ≤ B) && ws.all (plV B k)
  | _ + 1, .ref _ => false
theorem okV_pl {B : Nat} {g : Mem} : ∀ (k : Nat) (w : W), plV B k w = true → okV B g k w = true
  | 0, _, h => by cases h
  | k + 1, w, h => by
    cases w with
    | str x => exact h
    | tup ws =>
      rw [plV, Bool.and_eq_true, List.all_eq_true] at h
      rw [okV, Bool.and_eq_true, List.all_eq_true]
      exact ⟨h.1, fun w hw => okV_pl k w (h.2 w hw)⟩
    | ref n => cases h
    | _ => rfl
end BF

set_option Elab.async false
set_option linter.all false
set_option autoImplicit false
set_option maxRecDepth 10000
namespace BF
open PySem Enc
/-! _law_any: runs the body; what it gives is all right -/
abbrev N__law_any : List Str := ["tape", "deep", "course", "some", "k"]
def c__law_any (R : Fn) : CS :=
  (sSeq (sSet (gV 2) (eN F__law_draw [(eV 0), (eL (.int 13))]))
  (sSeq (sIf (tAnd (tB (e2 gLt (eV 2) (eL (.int 4)))) (tB (e2 gGt (eV 1) (eL (.int 0))))) (sSeq (sSet (gV 3) (eLc (iRange1 (eN F__law_draw [(eV 0), (eL (.int 4))])) (gV 4) tTrue (eN R [(eV 0), (e2 gSub (eV 1) (eL (.int 1)))]) [4]))
  (sRet (e2 gIx (eLst [(eV 3), (eN pTuple [(eV 3)]), (eN pTuple [(eV 3)]), (eN pTuple [(eV 3)])]) (eV 2)))) sNil)
  (sSeq (sIf (tB (e2 gLt (eV 2) (eL (.int 8)))) (sRet (e2 gIx (eLst [(e2 gSub (eN F__law_draw [(eV 0), (eL (.int 12))]) (eL (.int 2))), (eN F__law_draw [(eV 0), (e2 gPow (eL (.int 10)) (eL (.int 12)))]), (eL (.int 0)), (eL (.int 3))]) (eN pMax [(eL (.int 0)), (e2 gSub (eV 2) (eL (.int 4)))]))) sNil)
  (sSeq (sSet (gV 3) (eLst [(eL (.str "")), (eL (.str " ")), (eL (.str "a")), (eL (.str "back")), (eL (.str "visit")), (eL (.str "A")), (eL (.str "a\nb"))]))
  (sRet (e2 gIx (eLst [(eL (.bl true)), (eL (.bl false)), (eL .non), (e2 gIx (eV 3) (eN F__law_draw [(eV 0), (eL (.int 7))])), (eTup [(eL (.int 1)), (eL (.int 2))])]) (e2 gSub (eV 2) (eL (.int 8)))))))))
def F__law_any : Nat → Fn
  | 0 => fun _ _ => none
  | d + 1 => runF 5 (c__law_any (F__law_any d))
theorem keeps__law_any (d : Nat) : Keeps 5 (c__law_any (F__law_any d)) (F__law_any (d + 1)) := keeps_run
theorem F0__law_any (ws : List W) (M : Mem) : F__law_any 0 ws M = none := rfl
theorem sbm_mask (g0 g' : Mem) (acc : List W) : Sbm (g0 ++ [.dK []] ++ g') (g0 ++ [.lst acc] ++ g') := by
  refine Sbm.app (Sbm.app (.refl _) rfl ?_) (by simp) (.refl _)
  intro i ws h
  cases i with
  | zero => cases h
  | succ i => simp at h
theorem any_some {B : Nat} (hB : 10 ≤ B) {ns : List Int} {R : Fn} {deep : Nat} {g g0 : Mem} {s : Dr} {c : W} (l : g0.length = g.length) (hc : Closed (TM ns s g))
    (hR : ∀ s g g0, g0.length = g.length → Closed (TM ns s g) → Gives B (deep + 1) ns g g0 (R [.ref 2, .int ((deep : Int) - 1)] (TM ns s g))) (n : Nat) (hn : n < 4) :
    ∃ s' acc g', lcL gdT (gV 4) tTrue (eN R [(eV 0), (e2 gSub (eV 1) (eL (.int 1)))]) [4] [some (.ref 2), some (.int deep), some c, none, none] (g.length + 3) (rangeW 0 n) (TM ns s (g ++ [.lst []])) = some (TM ns s' (g ++ [.lst acc] ++ g')) ∧
      acc.length = n ∧ (∀ w ∈ acc, okV B (g0 ++ [.dK []] ++ g') (deep + 1) w = true) ∧ Closed (TM ns s' (g ++ [.lst acc] ++ g')) := by
  obtain ⟨M', acc, e1, s3, g', rfl, hlen, hok, hcl⟩ := lcL_ind (gd := gdT) (g := gV 4) (t := tTrue) (e := eN R [(eV 0), (e2 gSub (eV 1) (eL (.int 1)))]) (vs := [4]) (σ := [some (.ref 2), some (.int deep), some c, none, none]) (D := g.length + 3)
    (rangeW 0 n) (fun i acc M => ∃ s g', M = TM ns s (g ++ [.lst acc] ++ g') ∧ acc.length = i ∧ (∀ w ∈ acc, okV B (g0 ++ [.dK []] ++ g') (deep + 1) w = true) ∧ Closed M) (M := TM ns s (g ++ [.lst []])) (acc0 := [])
    ⟨s, [], by rw [List.append_nil], rfl, (fun _ h => by cases h), cl_new hc rfl⟩ (fun _ _ _ _ => rfl) (fun i w acc M hw ⟨s, g', e, hl, ho, hcl⟩ => by
      subst e
      refine ⟨_, rfl, true, _, rfl, ?_⟩
      rw [if_pos rfl]
      obtain ⟨x, s2, g2, h1, h2, h3⟩ := hR s (g ++ [.lst acc] ++ g') (g0 ++ [.dK []] ++ g') (by simp [l]) hcl
      have hi : i < n := (rangeW_get hw).1
      refine ⟨x, TM ns s2 (g ++ [.lst acc] ++ g' ++ g2), ?_, ?_, by omega, s2, g' ++ g2, ?_, by simp [hl], fun w hw => ?_, ?_⟩
      · have h1' : R [W.ref 2, W.int ((deep : Int) - 1)] (TM ns s (g ++ MO.lst acc :: g')) = some (x, TM ns s2 (g ++ MO.lst acc :: (g' ++ g2))) := by simpa using h1
        simp [wipe, h1']
      · rw [TM_get3]; simp
      · rw [TM_set3]; simp
      · rw [← List.append_assoc]
        rcases List.mem_append.mp hw with hw | hw
        · exact okV_sub (Nat.le_refl _) ((Sbm.refl _).more g2) _ _ _ (Nat.le_refl _) (ho w hw)
        · rw [List.mem_singleton.mp hw]; exact h2
      · refine cl_set h3 (cls_of fun w hw => ?_)
        rcases List.mem_append.mp hw with hw | hw
        · exact of_closeds (cl_get h3 (n := g.length + 3) (ws := acc) (by rw [TM_get3]; simp)) w hw
        · rw [List.mem_singleton.mp hw]
          have := okV_closed h2
          simp only [List.length_append, TM_length, l] at this ⊢
          exact this)
  rw [rangeW_length] at hlen
  exact ⟨s3, acc, g', e1, hlen, hok, hcl⟩
theorem any_body {B : Nat} (hB : 10 ≤ B) {ns : List Int} {R : Fn} {deep : Nat} {g g0 : Mem} {s : Dr} (l : g0.length = g.length) (hc : Closed (TM ns s g))
    (hR : 0 < deep → ∀ s g g0, g0.length = g.length → Closed (TM ns s g) → Gives B (deep + 1) ns g g0 (R [.ref 2, .int ((deep : Int) - 1)] (TM ns s g))) :
    GivesB B (deep + 2) ns g g0 (c__law_any R [some (.ref 2), some (.int deep), none, none, none] (TM ns s g)) := by
  unfold c__law_any
  have k1 := draw_ok 13 ns s g (by omega) (by omega)
  have hlt := drawD_lt ns s (show 0 < 13 by omega)
  generalize drawD ns 13 s = r at k1 hlt
  obtain ⟨c, s1⟩ := r
  simp only at k1 hlt
  have k1' : F__law_draw [W.ref 2, W.int 13] (TM ns s g) = some (W.int (c : Int), TM ns s1 g) := k1
  have z1 : (sSet (gV 2) (eN F__law_draw [(eV 0), (eL (.int 13))])) [some (.ref 2), some (.int deep), none, none, none] (TM ns s g) = some (.nx [some (.ref 2), some (.int deep), some (.int (c : Int)), none, none] (TM ns s1 g)) := by simp [k1']
  rw [sSeq_eq, z1, Option.bind_some]
  simp only []
  have hc1 : Closed (TM ns s1 g) := closed_TM hc
  by_cases hA : c < 4 ∧ 0 < deep
  · obtain ⟨h4, hd⟩ := hA
    have h4' : (c : Int) < 4 := by omega
    have hd' : (0 : Int) < deep := by omega
    have k2 := draw_ok 4 ns s1 g (by omega) (by omega)
    have hq := drawD_lt ns s1 (show 0 < 4 by omega)
    generalize drawD ns 4 s1 = q at k2 hq
    obtain ⟨n, s2⟩ := q
    simp only at k2 hq
    have k2' : F__law_draw [W.ref 2, W.int 4] (TM ns s1 g) = some (W.int (n : Int), TM ns s2 g) := k2
    obtain ⟨s3, acc, g', f1, f2, f3, f4⟩ := any_some hB (s := s2) (c := .int (c : Int)) l (closed_TM hc1) (hR hd) n hq
    have sm : small62 (n : Int) = true := small62_of (by omega)
    have z2 : (sSet (gV 3) (eLc (iRange1 (eN F__law_draw [(eV 0), (eL (.int 4))])) (gV 4) tTrue (eN R [(eV 0), (e2 gSub (eV 1) (eL (.int 1)))]) [4])) [some (.ref 2), some (.int deep), some (.int (c : Int)), none, none] (TM ns s1 g) =
        some (.nx [some (.ref 2), some (.int deep), some (.int (c : Int)), some (.ref (g.length + 3)), none] (TM ns s3 (g ++ [.lst acc] ++ g'))) := by
      rw [sSet_eq, eLc_eq, iRange1_eq]
      simp only [eN_eq, eArgs_cons, eArgs_nil, eV_eq, eL_eq, List.getD_cons_zero, Option.bind_some, k2', sm, if_true, Int.toNat_natCast, TM_append, TM_length, f1, gV_eq]
      rfl
    have gl : ∀ k : Mem, (TM ns s3 (g ++ [MO.lst acc] ++ g' ++ k))[g.length + 3]? = some (.lst acc) := fun k => by rw [TM_get3]; simp
    have gl0 : (TM ns s3 (g ++ [MO.lst acc] ++ g'))[g.length + 3]? = some (.lst acc) := by rw [TM_get3]; simp
    have m := sbm_mask g0 g' acc
    have hT : plV 10 1 .non = true := rfl
    have sub : ∀ (k : Mem), (∀ w ∈ acc, okV B (g0 ++ ([.lst acc] ++ g' ++ k)) (deep + 1) w = true) := fun k w hw => by
      rw [← List.append_assoc, ← List.append_assoc]
      exact okV_sub (Nat.le_refl _) (m.more k) _ _ _ (Nat.le_refl _) (f3 w hw)
    generalize hrow : [MO.lst [.ref (g.length + 3), .tup acc, .tup acc, .tup acc]] = row at *
    have z3 : (sRet (e2 gIx (eLst [(eV 3), (eN pTuple [(eV 3)]), (eN pTuple [(eV 3)]), (eN pTuple [(eV 3)])]) (eV 2))) [some (.ref 2), some (.int deep), some (.int (c : Int)), some (.ref (g.length + 3)), none] (TM ns s3 (g ++ [.lst acc] ++ g')) =
        some (.rt (if c = 0 then .ref (g.length + 3) else .tup acc) (TM ns s3 (g ++ [.lst acc] ++ g' ++ row))) := by
      subst hrow
      have : c = 0 ∨ c = 1 ∨ c = 2 ∨ c = 3 := by omega
      have gl' : (TM ns s3 (g ++ MO.lst acc :: g'))[g.length + 3]? = some (.lst acc) := by simpa using gl0
      have ix3 : ∀ n : Nat, ixW (n + 4) 3 = some 3 := fun n => ixW_nat (j := 3) (by omega)
      rcases this with rfl | rfl | rfl | rfl <;> simp [gl', ix3]
    refine ⟨(if c = 0 then W.ref (g.length + 3) else W.tup acc), s3, [.lst acc] ++ g' ++ row, ?_, ?_, ?_⟩
    rotate_left
    · split
      · rw [okV]
        have : (g0 ++ ([MO.lst acc] ++ g' ++ row))[g.length + 3 - 3]? = some (.lst acc) := by
          rw [← l]; simp
        rw [this]
        simp only
        rw [Bool.and_eq_true, Bool.and_eq_true, decide_eq_true_eq, decide_eq_true_eq, List.all_eq_true]
        exact ⟨⟨by omega, by omega⟩, sub row⟩
      · rw [okV, Bool.and_eq_true, decide_eq_true_eq, List.all_eq_true]
        exact ⟨by omega, sub row⟩
    · subst hrow
      rw [← List.append_assoc, ← List.append_assoc]
      refine cl_new f4 ?_
      have ca : W.closeds ((g ++ [MO.lst acc] ++ g').length + 3) acc = true := cl_get f4 gl0
      have : (g.length + 3) < (g ++ [MO.lst acc] ++ g').length + 3 := by simp
      simp [W.closeds, W.closed]
      simpa using ca
    · rw [sSeq_eq, sIf_eq]
      simp only [tAnd_eq, tB_eq, e2_eq, eV_eq, eL_eq, List.getD_cons_zero, List.getD_cons_succ, Option.bind_some, gLt_int, gGt_int, decide_eq_true h4', decide_eq_true hd', if_true]
      rw [sSeq_eq, z2, Option.bind_some]
      simp only []
      rw [z3]
      simp only [Option.bind_some, List.append_assoc]
  · have tst : (tAnd (tB (e2 gLt (eV 2) (eL (.int 4)))) (tB (e2 gGt (eV 1) (eL (.int 0))))) [some (.ref 2), some (.int deep), some (.int (c : Int)), none, none] (TM ns s1 g) = some (false, TM ns s1 g) := by
      by_cases h4 : c < 4
      · have h4' : (c : Int) < 4 := by omega
        have hd : deep = 0 := by omega
        simp [h4', hd]
      · have h4' : ¬ (c : Int) < 4 := by omega
        simp [h4']
    rw [sSeq_eq, sIf_eq, tst, Option.bind_some]
    simp only [Bool.false_eq_true, if_false, sNil_eq, Option.bind_some]
    rw [sSeq_eq, sIf_eq]
    by_cases h8 : c < 8
    · have h8' : (c : Int) < 8 := by omega
      simp only [tB_eq, e2_eq, eV_eq, eL_eq, List.getD_cons_zero, List.getD_cons_succ, Option.bind_some, gLt_int, decide_eq_true h8', if_true]
      have k2 := draw_ok 12 ns s1 g (by omega) (by omega)
      generalize drawD ns 12 s1 = q at k2
      obtain ⟨n, s2⟩ := q
      simp only at k2
      have k2' : F__law_draw [W.ref 2, W.int 12] (TM ns s1 g) = some (W.int (n : Int), TM ns s2 g) := k2
      have k3 := draw_ok 1000000000000 ns s2 g (by omega) (by omega)
      generalize drawD ns 1000000000000 s2 = q at k3
      obtain ⟨n3, s3⟩ := q
      simp only at k3
      have k3' : F__law_draw [W.ref 2, W.int 1000000000000] (TM ns s2 g) = some (W.int (n3 : Int), TM ns s3 g) := k3
      have sm : small62 10 = true := by decide
      have ix3 : ∀ n : Nat, ixW (n + 4) 3 = some 3 := fun n => ixW_nat (j := 3) (by omega)
      have : ∃ i : Int, (sRet (e2 gIx (eLst [(e2 gSub (eN F__law_draw [(eV 0), (eL (.int 12))]) (eL (.int 2))), (eN F__law_draw [(eV 0), (e2 gPow (eL (.int 10)) (eL (.int 12)))]), (eL (.int 0)), (eL (.int 3))]) (eN pMax [(eL (.int 0)), (e2 gSub (eV 2) (eL (.int 4)))])))
          [some (.ref 2), some (.int deep), some (.int (c : Int)), none, none] (TM ns s1 g) = some (.rt (.int i) (TM ns s3 (g ++ [.lst [.int ((n : Int) - 2), .int (n3 : Int), .int 0, .int 3]]))) := by
        have : c = 0 ∨ c = 1 ∨ c = 2 ∨ c = 3 ∨ c = 4 ∨ c = 5 ∨ c = 6 ∨ c = 7 := by omega
        rcases this with rfl | rfl | rfl | rfl | rfl | rfl | rfl | rfl <;> simp [k2', k3', sm, ix3]
      obtain ⟨i, hi⟩ := this
      rw [hi]
      exact ⟨.int i, s3, _, rfl, rfl, cl_new hc1 (by simp [W.closeds, W.closed])⟩
    · have h8' : ¬ (c : Int) < 8 := by omega
      simp only [tB_eq, e2_eq, eV_eq, eL_eq, List.getD_cons_zero, List.getD_cons_succ, Option.bind_some, gLt_int, decide_eq_false h8', Bool.false_eq_true, if_false, sNil_eq]
      generalize hx : [MO.lst [.str "", .str " ", .str "a", .str "back", .str "visit", .str "A", .str "a\nb"]] = x1
      have z4 : (sSet (gV 3) (eLst [(eL (.str "")), (eL (.str " ")), (eL (.str "a")), (eL (.str "back")), (eL (.str "visit")), (eL (.str "A")), (eL (.str "a\nb"))])) [some (.ref 2), some (.int deep), some (.int (c : Int)), none, none] (TM ns s1 g) =
          some (.nx [some (.ref 2), some (.int deep), some (.int (c : Int)), some (.ref (g.length + 3)), none] (TM ns s1 (g ++ x1))) := by subst hx; simp
      rw [sSeq_eq, z4, Option.bind_some]
      simp only []
      have k2 := draw_ok 7 ns s1 (g ++ x1) (by omega) (by omega)
      have hq := drawD_lt ns s1 (show 0 < 7 by omega)
      generalize drawD ns 7 s1 = q at k2 hq
      obtain ⟨n, s2⟩ := q
      simp only at k2 hq
      have k2' : F__law_draw [W.ref 2, W.int 7] (TM ns s1 (g ++ x1)) = some (W.int (n : Int), TM ns s2 (g ++ x1)) := k2
      have hp : ∃ y : Str, y.length ≤ 10 ∧ ∀ u, (e2 gIx (eV 3) (eN F__law_draw [(eV 0), (eL (.int 7))])) [some (.ref 2), some (.int deep), u, some (.ref (g.length + 3)), none] (TM ns s1 (g ++ x1)) = some (.str y, TM ns s2 (g ++ x1)) := by
        have gx : (TM ns s2 (g ++ x1))[g.length + 3]? = some (.lst [.str "", .str " ", .str "a", .str "back", .str "visit", .str "A", .str "a\nb"]) := by subst hx; rw [TM_get3]; simp
        have ev : ∀ y, ([W.str "", .str " ", .str "a", .str "back", .str "visit", .str "A", .str "a\nb"])[n]? = some y → ∀ u, (e2 gIx (eV 3) (eN F__law_draw [(eV 0), (eL (.int 7))])) [some (.ref 2), some (.int deep), u, some (.ref (g.length + 3)), none] (TM ns s1 (g ++ x1)) = some (y, TM ns s2 (g ++ x1)) := fun y hy u => by
          simp only [e2_eq, eN_eq, eArgs_cons, eArgs_nil, eV_eq, eL_eq, List.getD_cons_zero, List.getD_cons_succ, Option.bind_some, k2', gIx_ref, gx]
          rw [ixW_nat (n := ([W.str "", .str " ", .str "a", .str "back", .str "visit", .str "A", .str "a\nb"]).length) hq, Option.bind_some, hy]; rfl
        have : n = 0 ∨ n = 1 ∨ n = 2 ∨ n = 3 ∨ n = 4 ∨ n = 5 ∨ n = 6 := by omega
        rcases this with rfl | rfl | rfl | rfl | rfl | rfl | rfl
        · exact ⟨"", by decide, ev _ rfl⟩
        · exact ⟨" ", by decide, ev _ rfl⟩
        · exact ⟨"a", by decide, ev _ rfl⟩
        · exact ⟨"back", by decide, ev _ rfl⟩
        · exact ⟨"visit", by decide, ev _ rfl⟩
        · exact ⟨"A", by decide, ev _ rfl⟩
        · exact ⟨"a\nb", by decide, ev _ rfl⟩
      obtain ⟨y, hy, ey⟩ := hp
      have ix3 : ∀ n : Nat, ixW (n + 4) 3 = some 3 := fun n => ixW_nat (j := 3) (by omega)
      have ix4 : ∀ n : Nat, ixW (n + 5) 4 = some 4 := fun n => ixW_nat (j := 4) (by omega)
      have : ∃ w : W, okV B (g0 ++ (x1 ++ [.lst [.bl true, .bl false, .non, .str y, .tup [.int 1, .int 2]]])) (deep + 2) w = true ∧ (sRet (e2 gIx (eLst [(eL (.bl true)), (eL (.bl false)), (eL .non), (e2 gIx (eV 3) (eN F__law_draw [(eV 0), (eL (.int 7))])), (eTup [(eL (.int 1)), (eL (.int 2))])]) (e2 gSub (eV 2) (eL (.int 8)))))
          [some (.ref 2), some (.int deep), some (.int (c : Int)), some (.ref (g.length + 3)), none] (TM ns s1 (g ++ x1)) = some (.rt w (TM ns s2 (g ++ (x1 ++ [.lst [.bl true, .bl false, .non, .str y, .tup [.int 1, .int 2]]])))) := by
        have : c = 8 ∨ c = 9 ∨ c = 10 ∨ c = 11 ∨ c = 12 := by omega
        have y1 : y.length ≤ B := by omega
        have y2 : 2 ≤ B := by omega
        rcases this with rfl | rfl | rfl | rfl | rfl
        · exact ⟨.bl true, rfl, by simp [-e2_eq, ey, sRet_eq, e2_eq gIx (eLst _), e2_eq gSub]⟩
        · exact ⟨.bl false, rfl, by simp [-e2_eq, ey, sRet_eq, e2_eq gIx (eLst _), e2_eq gSub]⟩
        · exact ⟨.non, rfl, by simp [-e2_eq, ey, sRet_eq, e2_eq gIx (eLst _), e2_eq gSub]⟩
        · exact ⟨.str y, by simp [okV, y1], by simp [-e2_eq, ey, sRet_eq, e2_eq gIx (eLst _), e2_eq gSub, ix3]⟩
        · exact ⟨.tup [.int 1, .int 2], by simp [okV, y2], by simp [-e2_eq, ey, sRet_eq, e2_eq gIx (eLst _), e2_eq gSub, ix4]⟩
      obtain ⟨w, hw, ew⟩ := this
      rw [ew]
      refine ⟨w, s2, _, rfl, hw, ?_⟩
      rw [← List.append_assoc]
      refine cl_new (s := s1) ?_ (by simp [W.closeds, W.closed])
      subst hx
      exact cl_new hc1 (by simp [W.closeds, W.closed])
theorem any_ok {B : Nat} (hB : 10 ≤ B) (ns : List Int) : ∀ (f deep : Nat) (s : Dr) (g g0 : Mem), deep < f → g0.length = g.length → Closed (TM ns s g) → Gives B (deep + 2) ns g g0 (F__law_any f [.ref 2, .int deep] (TM ns s g))
  | 0, _, _, _, _, h, _, _ => by omega
  | f + 1, deep, s, g, g0, h, l, hc => by
    rw [F__law_any]
    refine gives_run l (any_body hB l hc fun hd s g g0 l hc => ?_)
    have := any_ok hB ns f (deep - 1) s g g0 (by omega) l hc
    rw [show deep - 1 + 2 = deep + 1 by omega, show ((deep - 1 : Nat) : Int) = (deep : Int) - 1 by omega] at this
    exact this
end BF

set_option Elab.async false
set_option linter.all false
set_option autoImplicit false
set_option maxRecDepth 10000
namespace BF
open PySem Enc
/-! _law_whole: of any value -/
def F__law_whole : Fn := pB isI
abbrev N__law_whole : List Str := ["item"]
def c__law_whole : CS :=
  (sRet (eAnd (e1 (gIsi "int") (eV 0)) (eNot (e1 (gIsi "bool") (eV 0)))))
theorem keeps__law_whole : Keeps 1 c__law_whole F__law_whole := by
  refine keepsB fun x M d hd => ?_
  have g1 := isi_of "int" hd
  have g2 := isi_of "bool" hd
  have t1 : isTy "int" "bool" = true := by decide
  have t2 : isTy "int" "int" = true := by decide
  have t3 : isTy "bool" "int" = false := by decide
  have t4 : isTy "bool" "bool" = true := by decide
  have t5 : isTy "int" "NoneType" = false := by decide
  have t6 : isTy "int" "str" = false := by decide
  have t7 : isTy "int" "tuple" = false := by decide
  have t8 : isTy "int" "list" = false := by decide
  refine ⟨[], ?_⟩
  cases x <;> simp [c__law_whole, g1, g2, kindW, t1, t2, t3, t4, t5, t6, t7, t8, isI]
end BF

set_option Elab.async false
set_option linter.all false
set_option autoImplicit false
set_option maxRecDepth 10000
namespace BF
open PySem Enc
/-! _law_spoilt: runs the body; what it gives is all right -/
abbrev N__law_spoilt : List Str := ["tape", "item", "k", "rest", "course", "at"]
def c__law_spoilt (R : Fn) : CS :=
  (sSeq (sIf (tAnd (tB (e1 (gIsi2 "tuple" "list") (eV 1))) (tAnd (tB (e2 gGt (eN pLen [(eV 1)]) (eL (.int 0)))) (tB (e2 gGt (eN F__law_draw [(eV 0), (eL (.int 7))]) (eL (.int 0)))))) (sSeq (sSet (gV 2) (eN F__law_draw [(eV 0), (eN pLen [(eV 1)])]))
  (sSeq (sSet (gV 3) (eN pList [(eV 1)]))
  (sSeq (sSet (gV 4) (eN F__law_draw [(eV 0), (eL (.int 12))]))
  (sSeq (sIf (tB (e2 gLt (eV 4) (eL (.int 8)))) (sPut putL (eV 3) (eV 2) (eN R [(eV 0), (e2 gIx (eV 3) (eV 2))])) (sIf (tB (e2 gEq (eV 4) (eL (.int 8)))) (sExpr (eML mPopAt (eV 3) [(eV 2)])) (sIf (tB (e2 gEq (eV 4) (eL (.int 9)))) (sExpr (eML mInsert (eV 3) [(eV 2), (e2 gIx (eV 3) (eN F__law_draw [(eV 0), (eN pLen [(eV 3)])]))])) (sIf (tB (e2 gEq (eV 4) (eL (.int 10)))) (sSet (gV 3) (e1 gRev (eV 3))) (sExpr (eML mInsert (eV 3) [(eV 2), (eN (F__law_any 8) [(eV 0), (eL (.int 1))])]))))))
  (sRet (eIf (tB (e1 (gIsi "tuple") (eV 1))) (eN pTuple [(eV 3)]) (eV 3))))))) sNil)
  (sSeq (sIf (tAnd (tB (eN F__law_whole [(eV 1)])) (tB (e2 gGt (eN F__law_draw [(eV 0), (eL (.int 6))]) (eL (.int 0))))) (sRet (e2 gAdd (eV 1) (e2 gIx (eLst [(eL (.int 1)), (e1 gNeg (eL (.int 1))), (eL (.int 2)), (e1 gNeg (eL (.int 2))), (eL (.int 9)), (eL (.int 1000))]) (eN F__law_draw [(eV 0), (eL (.int 6))])))) sNil)
  (sSeq (sIf (tAnd (tB (e1 (gIsi "str") (eV 1))) (tB (e2 gGt (eN F__law_draw [(eV 0), (eL (.int 3))]) (eL (.int 0))))) (sSeq (sSet (gV 5) (eN F__law_draw [(eV 0), (e2 gAdd (eN pLenS [(eV 1)]) (eL (.int 1)))]))
  (sRet (e2 gAdd (e2 gAdd (eSlS (eV 1) none (some (eV 5))) (e2 gIx (eLst [(eL (.str " ")), (eL (.str "z")), (eL (.str "A")), (eL (.str "|")), (eL (.str "abcdefgh")), (eL (.str ""))]) (eN F__law_draw [(eV 0), (eL (.int 6))]))) (eSlS (eV 1) (some (eV 5)) none)))) sNil)
  (sSeq (sIf (tAnd (tB (e1 (gIsi2 "tuple" "list") (eV 1))) (tB (e2 gEq (eN F__law_draw [(eV 0), (eL (.int 2))]) (eL (.int 0))))) (sRet (eIf (tB (e1 (gIsi "tuple") (eV 1))) (eN pList [(eV 1)]) (eN pTuple [(eV 1)]))) sNil)
  (sRet (eN (F__law_any 8) [(eV 0), (eL (.int 2))]))))))
def F__law_spoilt : Nat → Fn
  | 0 => fun _ _ => none
  | d + 1 => runF 6 (c__law_spoilt (F__law_spoilt d))
theorem keeps__law_spoilt (d : Nat) : Keeps 6 (c__law_spoilt (F__law_spoilt d)) (F__law_spoilt (d + 1)) := keeps_run
theorem F0__law_spoilt (ws : List W) (M : Mem) : F__law_spoilt 0 ws M = none := rfl
theorem isi2t_seq {M : Mem} {x : W} {b : Bool} {ws : List W} (h : seqW M x = some (b, ws)) : gIsi2 "tuple" "list" M x = some (.bl true, M) := by
  rcases seqW_cases h with ⟨rfl, rfl⟩ | ⟨n, rfl, rfl, h | h⟩
  · rfl
  · show (tyW M (.ref n)).map _ = _
    unfold tyW; simp only [h]; rfl
  · show (tyW M (.ref n)).map _ = _
    unfold tyW; simp only [h]; rfl
theorem list_seq {M : Mem} {x : W} {b : Bool} {ws : List W} (h : seqW M x = some (b, ws)) : pList [x] M = some (.ref M.length, M ++ [.lst ws]) := by
  rcases seqW_cases h with ⟨rfl, rfl⟩ | ⟨n, rfl, rfl, h | h⟩
  · rfl
  · rw [pList_ref]; simp only [h]
  · rw [pList_ref]; simp only [h]
theorem tuple_seq {M : Mem} {x : W} {b : Bool} {ws : List W} (h : seqW M x = some (b, ws)) : pTuple [x] M = some (.tup ws, M) := by
  rcases seqW_cases h with ⟨rfl, rfl⟩ | ⟨n, rfl, rfl, h | h⟩
  · rfl
  · rw [pTuple_ref]; simp only [h]
  · rw [pTuple_ref]; simp only [h]
/-- a value is a sequence, or holds nothing -/
theorem okV_cases {B : Nat} {ns : List Int} {g g0 : Mem} {k : Nat} {x : W} (h : okV B g0 (k + 1) x = true) (s0 : Sbm g0 g) :
    isScal x = true ∨ ∃ b ws, (∀ s, seqW (TM ns s g) x = some (b, ws)) ∧ ws.length ≤ B ∧ ∀ w ∈ ws, okV B g0 k w = true := by
  cases x with
  | tup ws =>
    rw [okV, Bool.and_eq_true, decide_eq_true_eq, List.all_eq_true] at h
    exact .inr ⟨false, ws, fun _ => rfl, h.1, h.2⟩
  | ref n =>
    rw [okV] at h
    split at h
    · rename_i ws hw
      rw [Bool.and_eq_true, Bool.and_eq_true, decide_eq_true_eq, decide_eq_true_eq, List.all_eq_true] at h
      refine .inr ⟨true, ws, fun s => ?_, h.1.2, h.2⟩
      have : (TM ns s g)[n]? = some (.lst ws) := by
        obtain ⟨m, rfl⟩ : ∃ m, n = m + 3 := ⟨n - 3, by omega⟩
        rw [TM_get3]; exact s0 _ _ hw
      unfold seqW
      simp only [this]
    · cases h
  | _ => exact .inl rfl
/-- the list in hand is given back, as a tuple or as it is -/
theorem fin_ok {B kk p : Nat} {ns : List Int} {g g0 m : Mem} {s s0 : Dr} {item : W} {b : Bool} {ws us : List W} {u2 u4 u5 : Option W} (l : g0.length = g.length) (hs : ∀ s, seqW (TM ns s g) item = some (b, ws))
    (hm : m[p]? = some (.lst us)) (hl : us.length ≤ B + 10) (ho : ∀ w ∈ us, okV (B + 10) (g0 ++ m) (kk + 3) w = true) (hc : Closed (TM ns s (g ++ m))) :
    GivesB (B + 10) (kk + 4) ns g g0 ((sRet (eIf (tB (e1 (gIsi "tuple") (eV 1))) (eN pTuple [(eV 3)]) (eV 3))) [some (.ref 2), some item, u2, some (.ref (g.length + p + 3)), u4, u5] (TM ns s (g ++ m))) := by
  have h1 : seqW (TM ns s (g ++ m)) item = some (b, ws) := seqW_app (g := m) (hs s)
  have h2 := isiT_seq h1
  have h3 : (TM ns s (g ++ m))[g.length + p + 3]? = some (.lst us) := by
    rw [TM_get3, List.getElem?_append_right (by omega), show g.length + p - g.length = p by omega]; exact hm
  cases b with
  | false =>
    have h3' : (g ++ m)[g.length + p]? = some (.lst us) := by rw [List.getElem?_append_right (by omega), show g.length + p - g.length = p by omega]; exact hm
    refine ⟨.tup us, s, m, by simp [h2, h3'], ?_, hc⟩
    rw [okV, Bool.and_eq_true, decide_eq_true_eq, List.all_eq_true]
    exact ⟨hl, ho⟩
  | true =>
    refine ⟨.ref (g.length + p + 3), s, m, by simp [h2], ?_, hc⟩
    rw [okV]
    have : (g0 ++ m)[g.length + p + 3 - 3]? = some (.lst us) := by
      rw [List.getElem?_append_right (by omega), show g.length + p + 3 - 3 - g0.length = p by omega]; exact hm
    rw [this]
    simp only
    rw [Bool.and_eq_true, Bool.and_eq_true, decide_eq_true_eq, decide_eq_true_eq, List.all_eq_true]
    exact ⟨⟨by omega, hl⟩, ho⟩
theorem sbm_mask1 (g0 : Mem) (us : List W) : Sbm (g0 ++ [.dK []]) (g0 ++ [.lst us]) := by
  have := sbm_mask g0 [] us
  rw [List.append_nil, List.append_nil] at this
  exact this
theorem mid_ok {B kk : Nat} (hB : 10 ≤ B) (hB2 : B ≤ 10000) {ns : List Int} {R : Fn} {g g0 : Mem} {s : Dr} {item : W} {ws : List W} (l : g0.length = g.length) (s0 : Sbm g0 g) (hw : ws.length ≤ B) (ho : ∀ w ∈ ws, okV B g0 kk w = true) (hc : Closed (TM ns s (g ++ [.lst ws])))
    (hR : ∀ s g g0 w, g0.length = g.length → Sbm g0 g → Closed (TM ns s g) → okV B g0 kk w = true → Gives (B + 10) (kk + 3) ns g g0 (R [.ref 2, w] (TM ns s g))) (j c : Nat) (hj : j < ws.length) (hc12 : c < 12) :
    ∃ s' m p us, (sIf (tB (e2 gLt (eV 4) (eL (.int 8)))) (sPut putL (eV 3) (eV 2) (eN R [(eV 0), (e2 gIx (eV 3) (eV 2))])) (sIf (tB (e2 gEq (eV 4) (eL (.int 8)))) (sExpr (eML mPopAt (eV 3) [(eV 2)])) (sIf (tB (e2 gEq (eV 4) (eL (.int 9)))) (sExpr (eML mInsert (eV 3) [(eV 2), (e2 gIx (eV 3) (eN F__law_draw [(eV 0), (eN pLen [(eV 3)])]))])) (sIf (tB (e2 gEq (eV 4) (eL (.int 10)))) (sSet (gV 3) (e1 gRev (eV 3))) (sExpr (eML mInsert (eV 3) [(eV 2), (eN (F__law_any 8) [(eV 0), (eL (.int 1))])]))))))
        [some (.ref 2), some item, some (.int (j : Int)), some (.ref (g.length + 3)), some (.int (c : Int)), none] (TM ns s (g ++ [.lst ws])) =
      some (.nx [some (.ref 2), some item, some (.int (j : Int)), some (.ref (g.length + p + 3)), some (.int (c : Int)), none] (TM ns s' (g ++ m))) ∧
      m[p]? = some (.lst us) ∧ us.length ≤ B + 10 ∧ (∀ w ∈ us, okV (B + 10) (g0 ++ m) (kk + 3) w = true) ∧ Closed (TM ns s' (g ++ m)) := by
  have g1 : ∀ (s : Dr) (m : Mem), (TM ns s (g ++ [.lst ws] ++ m))[g.length + 3]? = some (.lst ws) := fun s m => by rw [TM_get3]; simp
  have g1' : ∀ (s : Dr), (TM ns s (g ++ [.lst ws]))[g.length + 3]? = some (.lst ws) := fun s => by rw [TM_get3]; simp
  obtain ⟨y, hy⟩ : ∃ y, ws[j]? = some y := ⟨_, List.getElem?_eq_getElem hj⟩
  have ixj : ixW ws.length (j : Int) = some j := ixW_nat hj
  have smj : small62 (j : Int) = true := small62_of (by omega)
  have up : ∀ (m : Mem), ∀ w ∈ ws, okV (B + 10) (g0 ++ m) (kk + 3) w = true := fun m w h => okV_sub (by omega) ((Sbm.refl g0).more m) _ _ _ (by omega) (ho w h)
  have cw : ∀ w ∈ ws, w.closed (g.length + 3) = true := fun w h => by
    have := okV_closed (ho w h)
    rw [l] at this; exact this
  by_cases c1 : c < 8
  · have c1' : (c : Int) < 8 := by omega
    obtain ⟨x, s2, g2, h1, h2, h3⟩ := hR s (g ++ [.lst ws]) (g0 ++ [.dK []]) y (by simp [l]) (Sbm.app s0 l (by
      intro i ws h
      cases i with
      | zero => cases h
      | succ i => simp at h)) hc (okV_sub (Nat.le_refl _) ((Sbm.refl g0).more _) _ _ _ (Nat.le_refl _) (ho y (List.mem_of_getElem? hy)))
    refine ⟨s2, [.lst (ws.set j x)] ++ g2, 0, ws.set j x, ?_, rfl, by rw [List.length_set]; omega, fun w h => ?_, ?_⟩
    · have g2' : (TM ns s2 (g ++ MO.lst ws :: g2))[g.length + 3]? = some (.lst ws) := by rw [TM_get3]; simp
      have h1' : R [W.ref 2, y] (TM ns s (g ++ [MO.lst ws])) = some (x, TM ns s2 (g ++ MO.lst ws :: g2)) := by simpa using h1
      simp [c1', g1', ixj, hy, h1', g2']
    · rw [← List.append_assoc]
      have m1 := Sbm.app (sbm_mask1 g0 (ws.set j x)) (by simp) (.refl g2)
      rcases List.mem_or_eq_of_mem_set h with h | rfl
      · rw [List.append_assoc]; exact up _ w h
      · exact okV_sub (Nat.le_refl _) m1 _ _ _ (Nat.le_refl _) h2
    · have e : (TM ns s2 (g ++ [MO.lst ws] ++ g2)).set (g.length + 3) (.lst (ws.set j x)) = TM ns s2 (g ++ ([MO.lst (ws.set j x)] ++ g2)) := by rw [TM_set3]; simp
      rw [← e]
      refine cl_set h3 (cls_of fun w h => ?_)
      rcases List.mem_or_eq_of_mem_set h with h | rfl
      · exact W.closed_mono (by simp) w (cw w h)
      · have := okV_closed h2
        simp only [List.length_append, TM_length, l, List.length_singleton] at this ⊢
        exact this
  · have c1' : ¬ (c : Int) < 8 := by omega
    have : c = 8 ∨ c = 9 ∨ c = 10 ∨ c = 11 := by omega
    rcases this with rfl | rfl | rfl | rfl
    · refine ⟨s, [.lst (ws.eraseIdx j)], 0, ws.eraseIdx j, ?_, rfl, by have := List.length_eraseIdx_le ws j; omega, fun w h => up _ w (List.mem_of_mem_eraseIdx h), ?_⟩
      · simp [g1', ixj, hy, smj]
      · have e : (TM ns s (g ++ [MO.lst ws])).set (g.length + 3) (.lst (ws.eraseIdx j)) = TM ns s (g ++ [MO.lst (ws.eraseIdx j)]) := by rw [TM_set3]; simp
        rw [← e]
        exact cl_set hc (cls_of fun w h => W.closed_mono (by simp) w (cw w (List.mem_of_mem_eraseIdx h)))
    · have k2 := draw_ok ws.length ns s (g ++ [.lst ws]) (by omega) (by omega)
      have hq := drawD_lt ns s (show 0 < ws.length by omega)
      generalize drawD ns ws.length s = q at k2 hq
      obtain ⟨i, s2⟩ := q
      simp only at k2 hq
      obtain ⟨z, hz⟩ : ∃ z, ws[i]? = some z := ⟨_, List.getElem?_eq_getElem hq⟩
      have ixi : ixW ws.length (i : Int) = some i := ixW_nat hq
      have lt : ws.length < 16777216 := by omega
      have mem : ∀ w ∈ ws.take j ++ z :: ws.drop j, w ∈ ws := fun w h => by
        rcases List.mem_append.mp h with h | h
        · exact List.mem_of_mem_take h
        rcases List.mem_cons.mp h with rfl | h
        · exact List.mem_of_getElem? hz
        · exact List.mem_of_mem_drop h
      refine ⟨s2, [.lst (ws.take j ++ z :: ws.drop j)], 0, ws.take j ++ z :: ws.drop j, ?_, rfl, by simp; omega, fun w h => up _ w (mem w h), ?_⟩
      · simp [g1', ixi, hz, smj, k2, lt]
      · have e : (TM ns s2 (g ++ [MO.lst ws])).set (g.length + 3) (.lst (ws.take j ++ z :: ws.drop j)) = TM ns s2 (g ++ [MO.lst (ws.take j ++ z :: ws.drop j)]) := by rw [TM_set3]; simp
        rw [← e]
        exact cl_set (closed_TM hc) (cls_of fun w h => W.closed_mono (by simp) w (cw w (mem w h)))
    · refine ⟨s, [.lst ws, .lst ws.reverse], 1, ws.reverse, ?_, rfl, by simp; omega, fun w h => up _ w (List.mem_reverse.mp h), ?_⟩
      · simp [g1']
      · have := cl_new (s' := s) hc (ws := ws.reverse) (cls_of fun w h => W.closed_mono (by simp) w (cw w (List.mem_reverse.mp h)))
        simpa using this
    · obtain ⟨x, s2, g2, h1, h2, h3⟩ := any_ok (B := B) hB ns 8 1 s (g ++ [.lst ws]) (g0 ++ [.dK []]) (by omega) (by simp [l]) hc
      have lt : ws.length < 16777216 := by omega
      refine ⟨s2, [.lst (ws.take j ++ x :: ws.drop j)] ++ g2, 0, ws.take j ++ x :: ws.drop j, ?_, rfl, by simp; omega, fun w h => ?_, ?_⟩
      · have g2' : (TM ns s2 (g ++ MO.lst ws :: g2))[g.length + 3]? = some (.lst ws) := by rw [TM_get3]; simp
        have h1' : F__law_any 8 [W.ref 2, W.int 1] (TM ns s (g ++ [MO.lst ws])) = some (x, TM ns s2 (g ++ MO.lst ws :: g2)) := by simpa using h1
        simp [g1', h1', g2', smj, lt]
      · rw [← List.append_assoc]
        have m1 := Sbm.app (sbm_mask1 g0 (ws.take j ++ x :: ws.drop j)) (by simp) (.refl g2)
        rcases List.mem_append.mp h with h | h
        · rw [List.append_assoc]; exact up _ w (List.mem_of_mem_take h)
        rcases List.mem_cons.mp h with rfl | h
        · exact okV_sub (by omega) m1 _ _ _ (by omega) h2
        · rw [List.append_assoc]; exact up _ w (List.mem_of_mem_drop h)
      · have e : (TM ns s2 (g ++ [MO.lst ws] ++ g2)).set (g.length + 3) (.lst (ws.take j ++ x :: ws.drop j)) = TM ns s2 (g ++ ([MO.lst (ws.take j ++ x :: ws.drop j)] ++ g2)) := by rw [TM_set3]; simp
        rw [← e]
        refine cl_set h3 (cls_of fun w h => ?_)
        rcases List.mem_append.mp h with h | h
        · exact W.closed_mono (by simp) w (cw w (List.mem_of_mem_take h))
        rcases List.mem_cons.mp h with rfl | h
        · have := okV_closed h2
          simp only [List.length_append, TM_length, l, List.length_singleton] at this ⊢
          exact this
        · exact W.closed_mono (by simp) w (cw w (List.mem_of_mem_drop h))
theorem sub0 (x : Int) (c : Nat) (h : c = 0) : True := trivial
theorem pick6 {ns : List Int} {σ : Sl} (hσ : σ.getD 0 none = some (.ref 2)) (s : Dr) (g : Mem) (vs : List CE) (us : List W) (h6 : us.length = 6) (hv : ∀ M, eArgs vs σ M = some (us, M)) :
    ∃ s' y, y ∈ us ∧ (e2 gIx (eLst vs) (eN F__law_draw [(eV 0), (eL (.int 6))])) σ (TM ns s g) = some (y, TM ns s' (g ++ [.lst us])) := by
  have k2 := draw_ok 6 ns s (g ++ [.lst us]) (by omega) (by omega)
  have hq := drawD_lt ns s (show 0 < 6 by omega)
  generalize drawD ns 6 s = q at k2 hq
  obtain ⟨i, s2⟩ := q
  simp only at k2 hq
  have k2' : F__law_draw [W.ref 2, W.int 6] (TM ns s (g ++ [.lst us])) = some (W.int (i : Int), TM ns s2 (g ++ [.lst us])) := k2
  obtain ⟨z, hz⟩ : ∃ z, us[i]? = some z := ⟨_, List.getElem?_eq_getElem (by omega)⟩
  have ixi : ixW us.length (i : Int) = some i := ixW_nat (by omega)
  have g1 : (TM ns s2 (g ++ [MO.lst us]))[g.length + 3]? = some (.lst us) := by rw [TM_get3]; simp
  refine ⟨s2, z, List.mem_of_getElem? hz, ?_⟩
  have l6 : us.length ≤ 16777216 := by omega
  have hσ' : σ[0]?.getD none = some (.ref 2) := by rw [← List.getD_eq_getElem?_getD]; exact hσ
  simp only [e2_eq, eLst_eq, hv, Option.bind_some, l6, if_true, eN_eq, eArgs_cons, eArgs_nil, eV_eq, hσ, eL_eq, TM_append, TM_length, k2', gIx_ref, g1, ixi, hz, Option.map_some]
theorem app_len (a b : Str) : (a ++ b).length = a.length + b.length := by
  show (a.cps ++ b.cps).size = _
  rw [Array.size_append]; rfl
theorem cutT_lens (x : Str) (at_ : Nat) (h : at_ ≤ x.length) : (cutT x none (some (at_ : Int))).length = at_ ∧ (cutT x (some (at_ : Int)) none).length = x.length - at_ := by
  have e : x.cps.toList.length = x.length := Array.length_toList
  constructor
  · show ((cutW x.cps.toList none (some (at_ : Int))).toArray).size = _
    rw [cutW_hi, List.size_toArray, List.length_take]; omega
  · show ((cutW x.cps.toList (some (at_ : Int)) none).toArray).size = _
    rw [cutW_lo, List.size_toArray, List.length_drop]; omega
theorem tail_ok {B kk : Nat} (hB : 10 ≤ B) (hB2 : B ≤ 10000) {ns : List Int} {g g0 : Mem} {s : Dr} {item : W} (l : g0.length = g.length) (s0 : Sbm g0 g) (ho : okV B g0 (kk + 1) item = true) (hk : kk + 1 ≤ 40) (hc : Closed (TM ns s g)) :
    GivesB (B + 10) (kk + 4) ns g g0 ((sSeq (sIf (tAnd (tB (eN F__law_whole [(eV 1)])) (tB (e2 gGt (eN F__law_draw [(eV 0), (eL (.int 6))]) (eL (.int 0))))) (sRet (e2 gAdd (eV 1) (e2 gIx (eLst [(eL (.int 1)), (e1 gNeg (eL (.int 1))), (eL (.int 2)), (e1 gNeg (eL (.int 2))), (eL (.int 9)), (eL (.int 1000))]) (eN F__law_draw [(eV 0), (eL (.int 6))])))) sNil)
  (sSeq (sIf (tAnd (tB (e1 (gIsi "str") (eV 1))) (tB (e2 gGt (eN F__law_draw [(eV 0), (eL (.int 3))]) (eL (.int 0))))) (sSeq (sSet (gV 5) (eN F__law_draw [(eV 0), (e2 gAdd (eN pLenS [(eV 1)]) (eL (.int 1)))]))
  (sRet (e2 gAdd (e2 gAdd (eSlS (eV 1) none (some (eV 5))) (e2 gIx (eLst [(eL (.str " ")), (eL (.str "z")), (eL (.str "A")), (eL (.str "|")), (eL (.str "abcdefgh")), (eL (.str ""))]) (eN F__law_draw [(eV 0), (eL (.int 6))]))) (eSlS (eV 1) (some (eV 5)) none)))) sNil)
  (sSeq (sIf (tAnd (tB (e1 (gIsi2 "tuple" "list") (eV 1))) (tB (e2 gEq (eN F__law_draw [(eV 0), (eL (.int 2))]) (eL (.int 0))))) (sRet (eIf (tB (e1 (gIsi "tuple") (eV 1))) (eN pList [(eV 1)]) (eN pTuple [(eV 1)]))) sNil)
  (sRet (eN (F__law_any 8) [(eV 0), (eL (.int 2))]))))) [some (.ref 2), some item, none, none, none, none] (TM ns s g)) := by
  have rd : ∀ s, ∃ d, toD (TM ns s g) 40 item = some d := fun s => by
    obtain ⟨d, hd⟩ := okV_toD (ns := ns) (s := s) (kk + 1) item (okV_sub (Nat.le_refl _) s0 _ _ _ (Nat.le_refl _) ho)
    exact ⟨d, toD_le hk hd⟩
  -- the end: an arbitrary value
  have e5 : ∀ s, Closed (TM ns s g) → GivesB (B + 10) (kk + 4) ns g g0 ((sRet (eN (F__law_any 8) [(eV 0), (eL (.int 2))])) [some (.ref 2), some item, none, none, none, none] (TM ns s g)) := fun s hc => by
    obtain ⟨x, s2, g2, h1, h2, h3⟩ := any_ok (B := B) hB ns 8 2 s g g0 (by omega) l hc
    have h1' : F__law_any 8 [W.ref 2, W.int 2] (TM ns s g) = some (x, TM ns s2 (g ++ g2)) := h1
    exact ⟨x, s2, g2, by simp [h1'], okV_sub (by omega) (.refl _) _ _ _ (by omega) h2, h3⟩
  -- a list of a tuple, a tuple of a list
  have e4 : ∀ s, Closed (TM ns s g) → GivesB (B + 10) (kk + 4) ns g g0 ((sSeq (sIf (tAnd (tB (e1 (gIsi2 "tuple" "list") (eV 1))) (tB (e2 gEq (eN F__law_draw [(eV 0), (eL (.int 2))]) (eL (.int 0))))) (sRet (eIf (tB (e1 (gIsi "tuple") (eV 1))) (eN pList [(eV 1)]) (eN pTuple [(eV 1)]))) sNil)
      (sRet (eN (F__law_any 8) [(eV 0), (eL (.int 2))]))) [some (.ref 2), some item, none, none, none, none] (TM ns s g)) := fun s hc => by
    rcases okV_cases (ns := ns) ho s0 with sc | ⟨b, ws, hs, hl, hw⟩
    · obtain ⟨d, hd⟩ := rd s
      have t : gIsi2 "tuple" "list" (TM ns s g) item = some (.bl false, TM ns s g) := by
        rw [isi2_of "tuple" "list" hd]
        cases item <;> first | (simp only [kindW]; rfl) | cases sc
      have := e5 s hc
      rw [sSeq_eq, sIf_eq]
      simp only [tAnd_eq, tB_eq, e1_eq, eV_eq, List.getD_cons_zero, List.getD_cons_succ, Option.bind_some, t, Bool.false_eq_true, if_false, sNil_eq]
      exact this
    · have t := isi2t_seq (hs s)
      have k2 := draw_ok 2 ns s g (by omega) (by omega)
      generalize drawD ns 2 s = q at k2
      obtain ⟨i, s2⟩ := q
      simp only at k2
      have k2' : F__law_draw [W.ref 2, W.int 2] (TM ns s g) = some (W.int (i : Int), TM ns s2 g) := k2
      by_cases hi : i = 0
      · subst hi
        have h2 := isiT_seq (hs s2)
        have up : ∀ m : Mem, ∀ w ∈ ws, okV (B + 10) (g0 ++ m) (kk + 3) w = true := fun m w h => okV_sub (by omega) ((Sbm.refl g0).more m) _ _ _ (by omega) (hw w h)
        have cw : W.closeds (g.length + 3) ws = true := cls_of fun w h => by
          have := okV_closed (hw w h)
          rw [l] at this; exact this
        cases b with
        | false =>
          have hL := list_seq (hs s2)
          refine ⟨.ref (g.length + 3), s2, [.lst ws], ?_, ?_, cl_new hc cw⟩
          · simp [t, k2', h2, hL]
          · rw [okV]
            have : (g0 ++ [MO.lst ws])[g.length + 3 - 3]? = some (.lst ws) := by rw [← l]; simp
            rw [this]
            simp only
            rw [Bool.and_eq_true, Bool.and_eq_true, decide_eq_true_eq, decide_eq_true_eq, List.all_eq_true]
            exact ⟨⟨by omega, by omega⟩, up _⟩
        | true =>
          have hL := tuple_seq (hs s2)
          refine ⟨.tup ws, s2, [], ?_, ?_, by rw [List.append_nil]; exact closed_TM hc⟩
          · simp [t, k2', h2, hL]
          · rw [okV, Bool.and_eq_true, decide_eq_true_eq, List.all_eq_true]
            exact ⟨by omega, up _⟩
      · have := e5 s2 (closed_TM hc)
        have hi' : ¬ (i : Int) = 0 := by omega
        rw [sSeq_eq, sIf_eq]
        simp only [tAnd_eq, tB_eq, e1_eq, e2_eq, eN_eq, eL_eq, eArgs_cons, eArgs_nil, eV_eq, List.getD_cons_zero, List.getD_cons_succ, Option.bind_some, t, if_true, k2', gEq_eq, eqW_int, Option.map_some, decide_eq_false hi', Bool.false_eq_true, if_false, sNil_eq]
        exact this
  -- a text
  have e3 : ∀ s, Closed (TM ns s g) → GivesB (B + 10) (kk + 4) ns g g0 ((sSeq (sIf (tAnd (tB (e1 (gIsi "str") (eV 1))) (tB (e2 gGt (eN F__law_draw [(eV 0), (eL (.int 3))]) (eL (.int 0))))) (sSeq (sSet (gV 5) (eN F__law_draw [(eV 0), (e2 gAdd (eN pLenS [(eV 1)]) (eL (.int 1)))]))
      (sRet (e2 gAdd (e2 gAdd (eSlS (eV 1) none (some (eV 5))) (e2 gIx (eLst [(eL (.str " ")), (eL (.str "z")), (eL (.str "A")), (eL (.str "|")), (eL (.str "abcdefgh")), (eL (.str ""))]) (eN F__law_draw [(eV 0), (eL (.int 6))]))) (eSlS (eV 1) (some (eV 5)) none)))) sNil)
      (sSeq (sIf (tAnd (tB (e1 (gIsi2 "tuple" "list") (eV 1))) (tB (e2 gEq (eN F__law_draw [(eV 0), (eL (.int 2))]) (eL (.int 0))))) (sRet (eIf (tB (e1 (gIsi "tuple") (eV 1))) (eN pList [(eV 1)]) (eN pTuple [(eV 1)]))) sNil)
      (sRet (eN (F__law_any 8) [(eV 0), (eL (.int 2))])))) [some (.ref 2), some item, none, none, none, none] (TM ns s g)) := fun s hc => by
    obtain ⟨d, hd⟩ := rd s
    have t := isi_str hd
    cases hx : isS item with
    | false =>
      rw [hx] at t
      have := e4 s hc
      rw [sSeq_eq, sIf_eq]
      simp only [tAnd_eq, tB_eq, e1_eq, eV_eq, List.getD_cons_zero, List.getD_cons_succ, Option.bind_some, t, Bool.false_eq_true, if_false, sNil_eq]
      exact this
    | true =>
      rw [hx] at t
      have k2 := draw_ok 3 ns s g (by omega) (by omega)
      generalize drawD ns 3 s = q at k2
      obtain ⟨i, s2⟩ := q
      simp only at k2
      have k2' : F__law_draw [W.ref 2, W.int 3] (TM ns s g) = some (W.int (i : Int), TM ns s2 g) := k2
      by_cases hi : 0 < i
      · have hi' : (0 : Int) < i := by omega
        cases item with
        | str x =>
          rw [okV, decide_eq_true_eq] at ho
          have k3 := draw_ok (x.length + 1) ns s2 g (by omega) (by omega)
          have hq := drawD_lt ns s2 (show 0 < x.length + 1 by omega)
          generalize drawD ns (x.length + 1) s2 = q at k3 hq
          obtain ⟨at_, s3⟩ := q
          simp only at k3 hq
          have k3' : F__law_draw [W.ref 2, W.int ((x.length : Int) + 1)] (TM ns s2 g) = some (W.int (at_ : Int), TM ns s3 g) := by
            have e : ((x.length + 1 : Nat) : Int) = (x.length : Int) + 1 := by omega
            rw [e] at k3; exact k3
          obtain ⟨s4, y, hy, ey⟩ := pick6 (ns := ns) (σ := [some (.ref 2), some (.str x), none, none, none, some (.int (at_ : Int))]) rfl s3 g [(eL (.str " ")), (eL (.str "z")), (eL (.str "A")), (eL (.str "|")), (eL (.str "abcdefgh")), (eL (.str ""))] [.str " ", .str "z", .str "A", .str "|", .str "abcdefgh", .str ""] rfl (fun M => rfl)
          obtain ⟨z, rfl, hz⟩ : ∃ z : Str, y = .str z ∧ z.length ≤ 8 := by
            simp only [List.mem_cons, List.not_mem_nil, or_false] at hy
            rcases hy with rfl | rfl | rfl | rfl | rfl | rfl
            · exact ⟨_, rfl, by decide⟩
            · exact ⟨_, rfl, by decide⟩
            · exact ⟨_, rfl, by decide⟩
            · exact ⟨_, rfl, by decide⟩
            · exact ⟨_, rfl, by decide⟩
            · exact ⟨_, rfl, by decide⟩
          obtain ⟨c1, c2⟩ := cutT_lens x at_ (by omega)
          have b1 : (cutT x none (some (at_ : Int))).length + z.length ≤ 16777216 := by omega
          have b2 : (cutT x none (some (at_ : Int)) ++ z).length + (cutT x (some (at_ : Int)) none).length ≤ 16777216 := by rw [app_len]; omega
          refine ⟨.str (cutT x none (some (at_ : Int)) ++ z ++ cutT x (some (at_ : Int)) none), s4, [.lst [.str " ", .str "z", .str "A", .str "|", .str "abcdefgh", .str ""]], ?_, ?_, cl_new hc rfl⟩
          · rw [sSeq_eq, sIf_eq]
            simp only [tAnd_eq, tB_eq, e1_eq, e2_eq gGt, eN_eq, eL_eq, eArgs_cons, eArgs_nil, eV_eq, List.getD_cons_zero, List.getD_cons_succ, Option.bind_some, t, if_true, k2', gGt_int, decide_eq_true hi', sSeq_eq, sSet_eq, pLenS_eq, e2_eq gAdd, gAdd_int, k3', gV_eq, List.set_cons_succ, List.set_cons_zero, sRet_eq, eSlS_eq, ePart_none, ePart_some, gSlS_str, ey, gAdd_str, b1, b2]
          · rw [okV, decide_eq_true_eq, app_len, app_len]; omega
        | _ => cases hx
      · have := e4 s2 (closed_TM hc)
        have hi' : ¬ (0 : Int) < i := by omega
        rw [sSeq_eq, sIf_eq]
        simp only [tAnd_eq, tB_eq, e1_eq, e2_eq, eN_eq, eL_eq, eArgs_cons, eArgs_nil, eV_eq, List.getD_cons_zero, List.getD_cons_succ, Option.bind_some, t, if_true, k2', gGt_int, decide_eq_false hi', Bool.false_eq_true, if_false, sNil_eq]
        exact this
  -- a whole number
  obtain ⟨d, hd⟩ := rd s
  have t : F__law_whole [item] (TM ns s g) = some (.bl (isI item), TM ns s g) := pB_eq hd
  cases hx : isI item with
  | false =>
    rw [hx] at t
    have := e3 s hc
    rw [sSeq_eq, sIf_eq]
    simp only [tAnd_eq, tB_eq, eN_eq, eArgs_cons, eArgs_nil, eV_eq, List.getD_cons_zero, List.getD_cons_succ, Option.bind_some, t, Bool.false_eq_true, if_false, sNil_eq]
    exact this
  | true =>
    rw [hx] at t
    have k2 := draw_ok 6 ns s g (by omega) (by omega)
    generalize drawD ns 6 s = q at k2
    obtain ⟨i, s2⟩ := q
    simp only at k2
    have k2' : F__law_draw [W.ref 2, W.int 6] (TM ns s g) = some (W.int (i : Int), TM ns s2 g) := k2
    by_cases hi : 0 < i
    · have hi' : (0 : Int) < i := by omega
      cases item with
      | int x =>
        obtain ⟨s4, y, hy, ey⟩ := pick6 (ns := ns) (σ := [some (.ref 2), some (.int x), none, none, none, none]) rfl s2 g [(eL (.int 1)), (e1 gNeg (eL (.int 1))), (eL (.int 2)), (e1 gNeg (eL (.int 2))), (eL (.int 9)), (eL (.int 1000))] [.int 1, .int (-1), .int 2, .int (-2), .int 9, .int 1000] rfl (fun M => rfl)
        obtain ⟨z, rfl⟩ : ∃ z : Int, y = .int z := by
          simp only [List.mem_cons, List.not_mem_nil, or_false] at hy
          rcases hy with rfl | rfl | rfl | rfl | rfl | rfl <;> exact ⟨_, rfl⟩
        refine ⟨.int (x + z), s4, [.lst [.int 1, .int (-1), .int 2, .int (-2), .int 9, .int 1000]], ?_, rfl, cl_new hc rfl⟩
        rw [sSeq_eq, sIf_eq]
        simp only [tAnd_eq, tB_eq, e2_eq gGt, eN_eq, eL_eq, eArgs_cons, eArgs_nil, eV_eq, List.getD_cons_zero, List.getD_cons_succ, Option.bind_some, t, if_true, k2', gGt_int, decide_eq_true hi', sRet_eq, e2_eq gAdd, ey, gAdd_int]
      | _ => cases hx
    · have := e3 s2 (closed_TM hc)
      have hi' : ¬ (0 : Int) < i := by omega
      rw [sSeq_eq, sIf_eq]
      simp only [tAnd_eq, tB_eq, e2_eq, eN_eq, eL_eq, eArgs_cons, eArgs_nil, eV_eq, List.getD_cons_zero, List.getD_cons_succ, Option.bind_some, t, if_true, k2', gGt_int, decide_eq_false hi', Bool.false_eq_true, if_false, sNil_eq]
      exact this
theorem gives_rt {B k : Nat} {ns : List Int} {g g0 : Mem} {o : Option Out} {f : Sl → Mem → Option Out} (h : GivesB B k ns g g0 o) : GivesB B k ns g g0 (o.bind fun o => match o with
    | .nx σ' M' => f σ' M'
    | .rt w M' => some (.rt w M')
    | .bk σ' M' => some (.bk σ' M')
    | .ct σ' M' => some (.ct σ' M')) := by
  obtain ⟨w, s', g', h1, h2, h3⟩ := h
  exact ⟨w, s', g', by rw [h1]; rfl, h2, h3⟩
theorem spoilt_body {B kk : Nat} (hB : 10 ≤ B) (hB2 : B ≤ 10000) {ns : List Int} {R : Fn} {g g0 : Mem} {s : Dr} {item : W} (l : g0.length = g.length) (s0 : Sbm g0 g) (ho : okV B g0 (kk + 1) item = true) (hk : kk + 1 ≤ 40) (hc : Closed (TM ns s g))
    (hR : ∀ s g g0 w, g0.length = g.length → Sbm g0 g → Closed (TM ns s g) → okV B g0 kk w = true → Gives (B + 10) (kk + 3) ns g g0 (R [.ref 2, w] (TM ns s g))) :
    GivesB (B + 10) (kk + 4) ns g g0 (c__law_spoilt R [some (.ref 2), some item, none, none, none, none] (TM ns s g)) := by
  unfold c__law_spoilt
  rw [sSeq_eq, sIf_eq]
  rcases okV_cases (ns := ns) ho s0 with sc | ⟨b, ws, hs, hl, hw⟩
  · obtain ⟨d, hd⟩ := okV_toD (ns := ns) (s := s) (kk + 1) item (okV_sub (Nat.le_refl _) s0 _ _ _ (Nat.le_refl _) ho)
    have t : gIsi2 "tuple" "list" (TM ns s g) item = some (.bl false, TM ns s g) := by
      rw [isi2_of "tuple" "list" hd]
      cases item <;> first | (simp only [kindW]; rfl) | cases sc
    have := tail_ok hB hB2 l s0 ho hk hc
    simp only [tAnd_eq, tB_eq, e1_eq, eV_eq, List.getD_cons_zero, List.getD_cons_succ, Option.bind_some, t, Bool.false_eq_true, if_false, sNil_eq]
    exact this
  · have t := isi2t_seq (hs s)
    have tl := len_seq (hs s)
    by_cases h0 : 0 < ws.length
    · have h0' : (0 : Int) < ws.length := by omega
      have k2 := draw_ok 7 ns s g (by omega) (by omega)
      generalize drawD ns 7 s = q at k2
      obtain ⟨i, s2⟩ := q
      simp only at k2
      have k2' : F__law_draw [W.ref 2, W.int 7] (TM ns s g) = some (W.int (i : Int), TM ns s2 g) := k2
      by_cases hi : 0 < i
      · have hi' : (0 : Int) < i := by omega
        simp only [tAnd_eq, tB_eq, e1_eq, e2_eq gGt, eN_eq, eL_eq, eArgs_cons, eArgs_nil, eV_eq, List.getD_cons_zero, List.getD_cons_succ, Option.bind_some, t, tl, gGt_int, decide_eq_true h0', if_true, k2', decide_eq_true hi']
        refine gives_rt ?_
        have k3 := draw_ok ws.length ns s2 g h0 (by omega)
        have hj := drawD_lt ns s2 h0
        generalize drawD ns ws.length s2 = q at k3 hj
        obtain ⟨j, s3⟩ := q
        simp only at k3 hj
        have tl2 := len_seq (hs s2)
        have z1 : (sSet (gV 2) (eN F__law_draw [(eV 0), (eN pLen [(eV 1)])])) [some (.ref 2), some item, none, none, none, none] (TM ns s2 g) = some (.nx [some (.ref 2), some item, some (.int (j : Int)), none, none, none] (TM ns s3 g)) := by
          simp only [sSet_eq, eN_eq, eArgs_cons, eArgs_nil, eV_eq, List.getD_cons_zero, List.getD_cons_succ, Option.bind_some, tl2, k3, gV_eq, List.set_cons_succ, List.set_cons_zero]
        have z2 : (sSet (gV 3) (eN pList [(eV 1)])) [some (.ref 2), some item, some (.int (j : Int)), none, none, none] (TM ns s3 g) = some (.nx [some (.ref 2), some item, some (.int (j : Int)), some (.ref (g.length + 3)), none, none] (TM ns s3 (g ++ [.lst ws]))) := by
          simp only [sSet_eq, eN_eq, eArgs_cons, eArgs_nil, eV_eq, List.getD_cons_zero, List.getD_cons_succ, Option.bind_some, list_seq (hs s3), TM_append, TM_length, gV_eq, List.set_cons_succ, List.set_cons_zero]
        have k4 := draw_ok 12 ns s3 (g ++ [.lst ws]) (by omega) (by omega)
        have h12 := drawD_lt ns s3 (show 0 < 12 by omega)
        generalize drawD ns 12 s3 = q at k4 h12
        obtain ⟨c, s4⟩ := q
        simp only at k4 h12
        have k4' : F__law_draw [W.ref 2, W.int 12] (TM ns s3 (g ++ [.lst ws])) = some (W.int (c : Int), TM ns s4 (g ++ [.lst ws])) := k4
        have z3 : (sSet (gV 4) (eN F__law_draw [(eV 0), (eL (.int 12))])) [some (.ref 2), some item, some (.int (j : Int)), some (.ref (g.length + 3)), none, none] (TM ns s3 (g ++ [.lst ws])) =
            some (.nx [some (.ref 2), some item, some (.int (j : Int)), some (.ref (g.length + 3)), some (.int (c : Int)), none] (TM ns s4 (g ++ [.lst ws]))) := by
          simp only [sSet_eq, eN_eq, eArgs_cons, eArgs_nil, eV_eq, eL_eq, List.getD_cons_zero, List.getD_cons_succ, Option.bind_some, k4', gV_eq, List.set_cons_succ, List.set_cons_zero]
        have cw : W.closeds (g.length + 3) ws = true := cls_of fun w h => by
          have := okV_closed (hw w h)
          rw [l] at this; exact this
        obtain ⟨s5, m, p, us, z4, q1, q2, q3, q4⟩ := mid_ok (item := item) hB hB2 l s0 hl hw (cl_new (s' := s4) hc cw) hR j c hj h12
        have z5 := fin_ok (u2 := some (.int (j : Int))) (u4 := some (.int (c : Int))) (u5 := none) (s0 := s) l hs q1 q2 q3 q4
        rw [sSeq_eq, z1, Option.bind_some]
        simp only []
        rw [sSeq_eq, z2, Option.bind_some]
        simp only []
        rw [sSeq_eq, z3, Option.bind_some]
        simp only []
        rw [sSeq_eq, z4, Option.bind_some]
        exact z5
      · have := tail_ok (s := s2) hB hB2 l s0 ho hk (closed_TM hc)
        have hi' : ¬ (0 : Int) < i := by omega
        simp only [tAnd_eq, tB_eq, e1_eq, e2_eq gGt, eN_eq, eL_eq, eArgs_cons, eArgs_nil, eV_eq, List.getD_cons_zero, List.getD_cons_succ, Option.bind_some, t, tl, gGt_int, decide_eq_true h0', if_true, k2', decide_eq_false hi', Bool.false_eq_true, if_false, sNil_eq]
        exact this
    · have := tail_ok hB hB2 l s0 ho hk hc
      have h0' : ¬ (0 : Int) < ws.length := by omega
      simp only [tAnd_eq, tB_eq, e1_eq, e2_eq gGt, eN_eq, eL_eq, eArgs_cons, eArgs_nil, eV_eq, List.getD_cons_zero, List.getD_cons_succ, Option.bind_some, t, tl, gGt_int, decide_eq_false h0', if_true, Bool.false_eq_true, if_false, sNil_eq]
      exact this
theorem spoilt_ok {B : Nat} (hB : 10 ≤ B) (hB2 : B ≤ 10000) (ns : List Int) : ∀ (f k : Nat) (s : Dr) (g g0 : Mem) (item : W), k ≤ f → k ≤ 40 → g0.length = g.length → Sbm g0 g → Closed (TM ns s g) → okV B g0 k item = true → Gives (B + 10) (k + 3) ns g g0 (F__law_spoilt f [.ref 2, item] (TM ns s g))
  | _, 0, _, _, _, _, _, _, _, _, _, h => by cases h
  | 0, k + 1, _, _, _, _, h, _, _, _, _, _ => by omega
  | f + 1, k + 1, s, g, g0, item, hf, hk, l, s0, hc, ho => by
    rw [F__law_spoilt]
    exact gives_run l (spoilt_body hB hB2 l s0 ho hk hc fun s g g0 w l s0 hc ho => spoilt_ok hB hB2 ns f k s g g0 w (by omega) (by omega) l s0 hc ho)
end BF

set_option Elab.async false
set_option linter.all false
set_option autoImplicit false
set_option maxRecDepth 10000
namespace BF
open PySem Enc
/-! is_page: of any value -/
abbrev letters : Str := "abcdefghijklmnopqrstuvwxyz"
def pageS (x : Str) : Bool := decide (1 ≤ x.length) && decide (x.length ≤ 8) && x.cps.toList.all fun c => decide (c ∈ letters.cps.toList)
def isPg : W → Bool
  | .str x => pageS x
  | _ => false
def F_is_page : Fn := pB isPg
abbrev N_is_page : List Str := ["value", "letter"]
def c_is_page : CS :=
  (sRet (eAnd (e1 (gIsi "str") (eV 0)) (eAnd (eChain gLe gLe (eL (.int 1)) (eN pLenS [(eV 0)]) (eL (.int 8))) (eN pAll [(eLc (iStr (eV 0)) (gV 1) tTrue (e2 gInS (eV 1) (eL (.str "abcdefghijklmnopqrstuvwxyz"))) [1])]))))
theorem page_text (x : Str) (M : Mem) : ∃ M2, c_is_page [some (.str x), none] M = some (.rt (.bl (pageS x)) M2) ∧ M <+: M2 := by
  unfold pageS
  have gs : ∀ M : Mem, gIsi "str" M (.str x) = some (.bl true, M) := fun M => rfl
  by_cases h1 : 1 ≤ x.length
  · by_cases h2 : x.length ≤ 8
    · have key := lcL_pure (gd := gdT) (g := gV 1) (e := e2 gInS (eV 1) (eL (.str letters))) (vs := [1]) (σ := [some (.str x), none]) (charsW x) (fun w => match w with
        | .str z => (match z.cps.toList with
          | [c] => .bl (decide (c ∈ letters.cps.toList))
          | _ => .non)
        | _ => .non) M [] (by unfold charsW; simp; have : x.length = x.cps.size := rfl; omega) (fun _ => rfl) (fun w hw l => by
          unfold charsW at hw
          obtain ⟨c, _, rfl⟩ := List.mem_map.mp hw
          exact ⟨_, rfl, by simp [wipe]⟩)
      have em : (charsW x).map (fun w => match w with
        | .str z => (match z.cps.toList with
          | [c] => .bl (decide (c ∈ letters.cps.toList))
          | _ => .non)
        | _ => .non) = (x.cps.toList.map fun c => decide (c ∈ letters.cps.toList)).map W.bl := by
        unfold charsW
        rw [List.map_map, List.map_map]
        rfl
      rw [em, List.nil_append] at key
      refine ⟨_, ?_, List.prefix_append M [.lst ((x.cps.toList.map fun c => decide (c ∈ letters.cps.toList)).map W.bl)]⟩
      have ab := asBls_map (x.cps.toList.map fun c => decide (c ∈ letters.cps.toList))
      have ea : (x.cps.toList.map fun c => decide (c ∈ letters.cps.toList)).all id = x.cps.toList.all fun c => decide (c ∈ letters.cps.toList) := by rw [List.all_map]; rfl
      rw [← ea]
      generalize (x.cps.toList.map fun c => decide (c ∈ letters.cps.toList)) = bs at *
      have h1' : (1 : Int) ≤ x.length := by omega
      have h2' : (x.length : Int) ≤ 8 := by omega
      have gf : ∀ M : Mem, (e1 (gIsi "str") (eV 0)) [some (.str x), none] M = some (.bl true, M) := fun M => rfl
      unfold letters at key
      simp [-e1_eq, c_is_page, gf, key, ab, h1, h2, h1', h2']
    · refine ⟨M, ?_, List.prefix_refl _⟩
      have h1' : (1 : Int) ≤ x.length := by omega
      have h2' : ¬ (x.length : Int) ≤ 8 := by omega
      have gf : ∀ M : Mem, (e1 (gIsi "str") (eV 0)) [some (.str x), none] M = some (.bl true, M) := fun M => rfl
      simp [-e1_eq, c_is_page, gf, h1, h2, h1', h2']
  · refine ⟨M, ?_, List.prefix_refl _⟩
    have h1' : ¬ (1 : Int) ≤ x.length := by omega
    have gf : ∀ M : Mem, (e1 (gIsi "str") (eV 0)) [some (.str x), none] M = some (.bl true, M) := fun M => rfl
    simp [-e1_eq, c_is_page, gf, h1, h1']
theorem keeps_is_page : Keeps 2 c_is_page F_is_page := by
  refine keepsB fun w M d h => ?_
  cases w with
  | str x =>
    obtain ⟨M2, h1, g, rfl⟩ := page_text x M
    exact ⟨g, h1⟩
  | _ =>
    refine ⟨[], ?_⟩
    have gs := isi_str h
    simp [c_is_page, gs, isS, isPg]
end BF

set_option Elab.async false
set_option linter.all false
set_option autoImplicit false
set_option maxRecDepth 10000
namespace BF
open PySem Enc
/-! _law_is_page -/
def F__law_is_page : Fn := pB isPg
abbrev N__law_is_page : List Str := ["item", "letter"]
def c__law_is_page : CS :=
  (sSeq (sIf (tOr (tNot (tB (e1 (gIsi "str") (eV 0)))) (tNot (tB (eChain gLe gLe (eL (.int 1)) (eN pLenS [(eV 0)]) (eL (.int 8)))))) (sRet (eL (.bl false))) sNil)
  (sRet (e2 gEq (eLc (iStr (eV 0)) (gV 1) (tB (e2 gNotInS (eV 1) (eL (.str "abcdefghijklmnopqrstuvwxyz")))) (eV 1) [1]) (eLst []))))
theorem toD_text {M : Mem} (c : Nat) : ∃ d, toD M 40 (.str ⟨#[c]⟩) = some d := ⟨_, rfl⟩
theorem lpage_text (x : Str) (M : Mem) : ∃ g, c__law_is_page [some (.str x), none] M = some (.rt (.bl (pageS x)) (M ++ g)) := by
  have gs : ∀ M : Mem, gIsi "str" M (.str x) = some (.bl true, M) := fun M => rfl
  unfold pageS
  by_cases h1 : 1 ≤ x.length
  · by_cases h2 : x.length ≤ 8
    · have h1' : (1 : Int) ≤ x.length := by omega
      have h2' : (x.length : Int) ≤ 8 := by omega
      have gf : ∀ M : Mem, (e1 (gIsi "str") (eV 0)) [some (.str x), none] M = some (.bl true, M) := fun M => rfl
      have key := lcL_filter (gd := gdT) (g := gV 1) (t := tB (e2 gNotInS (eV 1) (eL (.str letters)))) (e := eV 1) (vs := [1]) (σ := [some (.str x), none]) (charsW x) id (fun w => !match w with
        | .str z => (match z.cps.toList with
          | [c] => decide (c ∈ letters.cps.toList)
          | _ => false)
        | _ => false) M [] (by unfold charsW; simp; have : x.length = x.cps.size := rfl; omega) (fun _ => rfl) (fun w hw l => by
          unfold charsW at hw
          obtain ⟨c, _, rfl⟩ := List.mem_map.mp hw
          exact ⟨_, rfl, by simp [wipe], fun _ => by simp [wipe]⟩)
      rw [List.nil_append, List.map_id] at key
      have ne := filter_none (ws := charsW x) (fun w => match w with
        | .str z => (match z.cps.toList with
          | [c] => decide (c ∈ letters.cps.toList)
          | _ => false)
        | _ => false)
      have ea : ((charsW x).all fun w => match w with
        | .str z => (match z.cps.toList with
          | [c] => decide (c ∈ letters.cps.toList)
          | _ => false)
        | _ => false) = x.cps.toList.all fun c => decide (c ∈ letters.cps.toList) := by
        unfold charsW
        rw [List.all_map]; rfl
      rw [ea] at ne
      rw [← ne]
      have mem : ∀ w ∈ charsW x, ∀ M, ∃ d, toD M 40 w = some d := fun w hw M => by
        unfold charsW at hw
        obtain ⟨c, _, rfl⟩ := List.mem_map.mp hw
        exact toD_text c
      have mem2 := fun (p : W → Bool) w (hw : w ∈ (charsW x).filter p) => mem w (List.mem_filter.mp hw).1
      replace mem2 := mem2 (fun w => !match w with
        | .str z => (match z.cps.toList with
          | [c] => decide (c ∈ letters.cps.toList)
          | _ => false)
        | _ => false)
      generalize (charsW x).filter _ = ys at *
      have q := eqL_nil (M := M ++ [.lst ys, .lst []]) (n := M.length) (m := M.length + 1) (ws := ys) (by simp) (by simp) (fun w hw => mem2 w hw _)
      refine ⟨[.lst ys] ++ [.lst []], ?_⟩
      unfold letters at key
      simp [-e1_eq, c__law_is_page, gf, key, h1, h2, h1', h2', q]
    · refine ⟨[], ?_⟩
      have h1' : (1 : Int) ≤ x.length := by omega
      have h2' : ¬ (x.length : Int) ≤ 8 := by omega
      have gf : ∀ M : Mem, (e1 (gIsi "str") (eV 0)) [some (.str x), none] M = some (.bl true, M) := fun M => rfl
      simp [-e1_eq, c__law_is_page, gf, h1, h2, h1', h2']
  · refine ⟨[], ?_⟩
    have h1' : ¬ (1 : Int) ≤ x.length := by omega
    have gf : ∀ M : Mem, (e1 (gIsi "str") (eV 0)) [some (.str x), none] M = some (.bl true, M) := fun M => rfl
    simp [-e1_eq, c__law_is_page, gf, h1, h1']
theorem keeps__law_is_page : Keeps 2 c__law_is_page F__law_is_page := by
  refine keepsB fun w M d h => ?_
  cases w with
  | str x => exact lpage_text x M
  | _ =>
    refine ⟨[], ?_⟩
    have gs := isi_str h
    simp [c__law_is_page, gs, isS, isPg]
end BF

set_option Elab.async false
set_option linter.all false
set_option autoImplicit false
set_option maxRecDepth 10000
namespace BF
open PySem Enc
/-! is_index: of any value -/
def isIx (w : W) (n : Int) : Bool := match w with
  | .int i => decide (0 ≤ i) && decide (i < n)
  | _ => false
def F_is_index : Fn := fun ws M => match ws with
  | [w, .int n] => match toD M 40 w with
    | some _ => some (.bl (isIx w n), M)
    | none => none
  | _ => none
theorem index_ok {M : Mem} {w : W} {d : PyData} (n : Int) (h : toD M 40 w = some d) : F_is_index [w, .int n] M = some (.bl (isIx w n), M) := by
  unfold F_is_index
  simp only [h]
abbrev N_is_index : List Str := ["value", "count"]
def c_is_index : CS :=
  (sRet (eAnd (e1 (gIsi "int") (eV 0)) (eAnd (eNot (e1 (gIsi "bool") (eV 0))) (eChain gLe gLt (eL (.int 0)) (eV 0) (eV 1)))))
theorem keeps_is_index : Keeps 2 c_is_index F_is_index := by
  refine KeepsP.keeps ?_
  intro ws M w M' hc hw e
  unfold F_is_index at e
  split at e
  · rename_i x n
    split at e
    · rename_i d hd
      cases e
      refine ⟨[], .inl ?_, Nat.le_refl _, hc, rfl⟩
      have g1 := isi_of "int" hd
      have g2 := isi_of "bool" hd
      have t1 : isTy "int" "bool" = true := by decide
      have t2 : isTy "int" "int" = true := by decide
      have t3 : isTy "bool" "int" = false := by decide
      have t4 : isTy "bool" "bool" = true := by decide
      have t5 : isTy "int" "NoneType" = false := by decide
      have t6 : isTy "int" "str" = false := by decide
      have t7 : isTy "int" "tuple" = false := by decide
      have t8 : isTy "int" "list" = false := by decide
      cases x with
      | int i =>
        by_cases h0 : 0 ≤ i
        · simp [c_is_index, g1, g2, kindW, t2, t3, isIx, h0]
        · simp [c_is_index, g1, g2, kindW, t2, t3, isIx, h0]
      | _ => simp [c_is_index, g1, g2, kindW, t1, t2, t3, t4, t5, t6, t7, t8, isIx]
    · cases e
  · cases e
end BF

set_option Elab.async false
set_option linter.all false
set_option autoImplicit false
set_option maxRecDepth 10000
namespace BF
open PySem Enc
/-! _law_within: of any value -/
def isWi (w : W) (lo hi : Int) : Bool := match w with
  | .int i => decide (lo ≤ i) && decide (i ≤ hi)
  | _ => false
def F__law_within : Fn := fun ws M => match ws with
  | [w, .int lo, .int hi] => match toD M 40 w with
    | some _ => some (.bl (isWi w lo hi), M)
    | none => none
  | _ => none
theorem within_ok {M : Mem} {w : W} {d : PyData} (lo hi : Int) (h : toD M 40 w = some d) : F__law_within [w, .int lo, .int hi] M = some (.bl (isWi w lo hi), M) := by
  unfold F__law_within
  simp only [h]
abbrev N__law_within : List Str := ["item", "low", "high"]
def c__law_within : CS :=
  (sRet (eAnd (eN F__law_whole [(eV 0)]) (eChain gLe gLe (eV 1) (eV 0) (eV 2))))
theorem keeps__law_within : Keeps 3 c__law_within F__law_within := by
  refine KeepsP.keeps ?_
  intro ws M w M' hc hw e
  unfold F__law_within at e
  split at e
  · rename_i x lo hi
    split at e
    · rename_i d hd
      cases e
      refine ⟨[], .inl ?_, Nat.le_refl _, hc, rfl⟩
      have g1 : F__law_whole [x] M = some (.bl (isI x), M) := pB_eq hd
      cases x with
      | int i =>
        by_cases h0 : lo ≤ i
        · simp [c__law_within, g1, isI, isWi, h0]
        · simp [c__law_within, g1, isI, isWi, h0]
      | _ => simp [c__law_within, g1, isI, isWi]
    · cases e
  · cases e
end BF

set_option Elab.async false
set_option linter.all false
set_option autoImplicit false
set_option maxRecDepth 10000
namespace BF
open PySem Enc
/-! is_history: of any value -/
def isHi : W → Bool
  | .tup [.tup ps, x] => decide (1 ≤ ps.length) && decide (ps.length ≤ 12) && ps.all isPg && isIx x ps.length
  | _ => false
def F_is_history : Fn := pB isHi
abbrev N_is_history : List Str := ["value", "page"]
def c_is_history : CS :=
  (sSeq (sIf (tOr (tNot (tB (e1 (gIsi "tuple") (eV 0)))) (tOr (tB (e2 gNe (eN pLen [(eV 0)]) (eL (.int 2)))) (tNot (tB (e1 (gIsi "tuple") (e2 gIx (eV 0) (eL (.int 0)))))))) (sRet (eL (.bl false))) sNil)
  (sSeq (sIf (tOr (tNot (tB (eChain gLe gLe (eL (.int 1)) (eN pLen [(e2 gIx (eV 0) (eL (.int 0)))]) (eL (.int 12))))) (tNot (tB (eN pAll [(eLc (iTup (e2 gIx (eV 0) (eL (.int 0)))) (gV 1) tTrue (eN F_is_page [(eV 1)]) [1])])))) (sRet (eL (.bl false))) sNil)
  (sRet (eN F_is_index [(e2 gIx (eV 0) (eL (.int 1))), (eN pLen [(e2 gIx (eV 0) (eL (.int 0)))])]))))
theorem isHi_short {ws : List W} (h : ws.length ≠ 2) : isHi (.tup ws) = false := by
  match ws, h with
  | [], _ => rfl
  | [a], _ => cases a <;> rfl
  | [a, b], h => exact absurd rfl h
  | a :: b :: c :: _, _ => cases a <;> rfl
theorem isHi_first {a x : W} (h : isT a = false) : isHi (.tup [a, x]) = false := by
  cases a <;> first | rfl | cases h
theorem keeps_is_history : Keeps 2 c_is_history F_is_history := by
  refine keepsB fun w M d h => ?_
  cases w with
  | tup ws =>
    have ge : gIsi "tuple" M (.tup ws) = some (.bl true, M) := rfl
    by_cases hl : ws.length = 2
    · match ws, hl with
      | [a, x], _ =>
        obtain ⟨da, ha⟩ := toD_mem h (w := a) (by simp)
        obtain ⟨dx, hx⟩ := toD_mem h (w := x) (by simp)
        have ga := isi_tup ha
        cases hb : isT a with
        | false =>
          rw [isHi_first hb]
          refine ⟨[], ?_⟩
          simp [c_is_history, ge, ga, hb]
        | true =>
          cases a with
          | tup ps =>
            rw [isHi]
            by_cases h1 : 1 ≤ ps.length
            · have h1' : (1 : Int) ≤ ps.length := by omega
              by_cases h2 : ps.length ≤ 12
              · have h2' : (ps.length : Int) ≤ 12 := by omega
                have key := lcL_pure (gd := gdT) (g := gV 1) (e := eN F_is_page [(eV 1)]) (vs := [1]) (σ := [some (.tup [.tup ps, x]), none]) ps (fun w => .bl (isPg w)) M [] (by simp; omega) (fun _ => rfl) (fun w hw l => by
                    obtain ⟨e, he⟩ := toD_mem ha hw
                    have := pB_eq (p := isPg) (toD_app (g := [.lst l]) 40 w e he)
                    exact ⟨_, rfl, by simp [wipe, F_is_page, this]⟩)
                rw [show (ps.map fun w => W.bl (isPg w)) = (ps.map isPg).map W.bl by rw [List.map_map]; rfl, List.nil_append] at key
                have ab := asBls_map (ps.map isPg)
                have ea : (ps.map isPg).all id = ps.all isPg := by rw [List.all_map]; rfl
                rw [← ea]
                generalize ps.map isPg = bs at *
                refine ⟨[.lst (bs.map W.bl)], ?_⟩
                have ix := index_ok (M := M ++ [.lst (bs.map W.bl)]) (ps.length : Int) (toD_app (g := [.lst (bs.map W.bl)]) 40 x dx hx)
                cases hb : bs.all id
                · simp [c_is_history, ge, ga, isT, key, ab, h1, h2, h1', h2', hb, ix]
                · simp [c_is_history, ge, ga, isT, key, ab, h1, h2, h1', h2', hb, ix]
              · have h2' : ¬ (ps.length : Int) ≤ 12 := by omega
                refine ⟨[], ?_⟩
                simp [c_is_history, ge, ga, isT, h1, h2, h1', h2']
            · have h1' : ¬ (1 : Int) ≤ ps.length := by omega
              refine ⟨[], ?_⟩
              simp [c_is_history, ge, ga, isT, h1, h1']
          | _ => cases hb
    · rw [isHi_short hl]
      refine ⟨[], ?_⟩
      have hl' : ¬ (ws.length : Int) = 2 := by omega
      simp [c_is_history, ge, hl']
  | _ =>
    refine ⟨[], ?_⟩
    have gs := isi_tup h
    simp [c_is_history, gs, isT, isHi]
end BF

set_option Elab.async false
set_option linter.all false
set_option autoImplicit false
set_option maxRecDepth 10000
namespace BF
open PySem Enc
/-! _law_is_history: of any value -/
def F__law_is_history : Fn := pB isHi
abbrev N__law_is_history : List Str := ["item", "page"]
def c__law_is_history : CS :=
  (sSeq (sIf (tOr (tNot (tB (e1 (gIsi "tuple") (eV 0)))) (tOr (tB (e2 gNe (eN pLen [(eV 0)]) (eL (.int 2)))) (tNot (tB (e1 (gIsi "tuple") (e2 gIx (eV 0) (eL (.int 0)))))))) (sRet (eL (.bl false))) sNil)
  (sSeq (sIf (tOr (tNot (tB (eChain gLe gLe (eL (.int 1)) (eN pLen [(e2 gIx (eV 0) (eL (.int 0)))]) (eL (.int 12))))) (tB (e2 gNe (eLc (iTup (e2 gIx (eV 0) (eL (.int 0)))) (gV 1) (tNot (tB (eN F__law_is_page [(eV 1)]))) (eV 1) [1]) (eLst [])))) (sRet (eL (.bl false))) sNil)
  (sRet (eN F__law_within [(e2 gIx (eV 0) (eL (.int 1))), (eL (.int 0)), (e2 gSub (eN pLen [(e2 gIx (eV 0) (eL (.int 0)))]) (eL (.int 1)))]))))
theorem isIx_within (x : W) (n : Nat) : isWi x 0 ((n : Int) - 1) = isIx x n := by
  cases x with
  | int i =>
    simp only [isWi, isIx]
    congr 1
    rw [decide_eq_decide]
    omega
  | _ => rfl
theorem keeps__law_is_history : Keeps 2 c__law_is_history F__law_is_history := by
  refine keepsB fun w M d h => ?_
  cases w with
  | tup ws =>
    have ge : gIsi "tuple" M (.tup ws) = some (.bl true, M) := rfl
    by_cases hl : ws.length = 2
    · match ws, hl with
      | [a, x], _ =>
        obtain ⟨da, ha⟩ := toD_mem h (w := a) (by simp)
        obtain ⟨dx, hx⟩ := toD_mem h (w := x) (by simp)
        have ga := isi_tup ha
        cases hb : isT a with
        | false =>
          rw [isHi_first hb]
          refine ⟨[], ?_⟩
          simp [c__law_is_history, ge, ga, hb]
        | true =>
          cases a with
          | tup ps =>
            rw [isHi]
            by_cases h1 : 1 ≤ ps.length
            · have h1' : (1 : Int) ≤ ps.length := by omega
              by_cases h2 : ps.length ≤ 12
              · have h2' : (ps.length : Int) ≤ 12 := by omega
                have key := lcL_filter (gd := gdT) (g := gV 1) (t := tNot (tB (eN F__law_is_page [(eV 1)]))) (e := eV 1) (vs := [1]) (σ := [some (.tup [.tup ps, x]), none]) ps id (fun w => !isPg w) M [] (by simp; omega) (fun _ => rfl) (fun w hw l => by
                    obtain ⟨e, he⟩ := toD_mem ha hw
                    have := pB_eq (p := isPg) (toD_app (g := [.lst l]) 40 w e he)
                    exact ⟨_, rfl, by simp [wipe, F__law_is_page, this], fun _ => by simp [wipe]⟩)
                rw [List.nil_append, List.map_id] at key
                rw [← filter_none]
                have mem : ∀ w ∈ ps.filter (fun w => !isPg w), ∃ d, toD M 40 w = some d := fun w hw => toD_mem ha (List.mem_filter.mp hw).1
                generalize ps.filter (fun w => !isPg w) = ys at *
                refine ⟨[.lst ys, .lst []], ?_⟩
                have q := eqL_nil (M := M ++ [.lst ys, .lst []]) (n := M.length) (m := M.length + 1) (ws := ys) (by simp) (by simp) (fun w hw => by
                  obtain ⟨d, hd⟩ := mem w hw
                  exact ⟨d, toD_app 40 w d hd⟩)
                have ix := within_ok (M := M ++ [.lst ys, .lst []]) 0 ((ps.length : Int) - 1) (toD_app (g := [.lst ys, .lst []]) 40 x dx hx)
                rw [isIx_within] at ix
                cases hb : ys.isEmpty
                · rw [hb] at q
                  simp [c__law_is_history, ge, ga, isT, key, h1, h2, h1', h2', ix, q]
                · rw [hb] at q
                  simp [c__law_is_history, ge, ga, isT, key, h1, h2, h1', h2', ix, q]
              · have h2' : ¬ (ps.length : Int) ≤ 12 := by omega
                refine ⟨[], ?_⟩
                simp [c__law_is_history, ge, ga, isT, h1, h2, h1', h2']
            · have h1' : ¬ (1 : Int) ≤ ps.length := by omega
              refine ⟨[], ?_⟩
              simp [c__law_is_history, ge, ga, isT, h1, h1']
          | _ => cases hb
    · rw [isHi_short hl]
      refine ⟨[], ?_⟩
      have hl' : ¬ (ws.length : Int) = 2 := by omega
      simp [c__law_is_history, ge, hl']
  | _ =>
    refine ⟨[], ?_⟩
    have gs := isi_tup h
    simp [c__law_is_history, gs, isT, isHi]
end BF

set_option Elab.async false
set_option linter.all false
set_option autoImplicit false
set_option maxRecDepth 10000
namespace BF
open PySem Enc
/-! is_action: of any value -/
def onePg : List W → Bool
  | [x] => isPg x
  | _ => false
def isAc : W → Bool
  | .tup (.str s :: r) => if s = ("visit" : Str) then onePg r
    else r.isEmpty && (decide (s = ("back" : Str)) || decide (s = ("forward" : Str)))
  | _ => false
def F_is_action : Fn := pB isAc
abbrev N_is_action : List Str := ["value"]
def c_is_action : CS :=
  (sSeq (sIf (tOr (tNot (tB (e1 (gIsi "tuple") (eV 0)))) (tOr (tB (e2 gEq (eV 0) (eTup []))) (tNot (tB (e1 (gIsi "str") (e2 gIx (eV 0) (eL (.int 0)))))))) (sRet (eL (.bl false))) sNil)
  (sSeq (sIf (tB (e2 gEq (e2 gIx (eV 0) (eL (.int 0))) (eL (.str "visit")))) (sRet (eAnd (e2 gEq (eN pLen [(eV 0)]) (eL (.int 2))) (eN F_is_page [(e2 gIx (eV 0) (eL (.int 1)))]))) sNil)
  (sRet (e2 gInU (eV 0) (eTup [(eTup [(eL (.str "back"))]), (eTup [(eL (.str "forward"))])])))))
theorem isAc_first {a : W} {r : List W} (h : isS a = false) : isAc (.tup (a :: r)) = false := by
  cases a <;> first | rfl | cases h
theorem inU_of {M : Mem} {s : Str} {r : List W} {d : PyData} (h : toD M 40 (.tup (.str s :: r)) = some d) : gInU M (.tup (.str s :: r)) (.tup [.tup [.str "back"], .tup [.str "forward"]]) = some (.bl (r.isEmpty && (decide (s = ("back" : Str)) || decide (s = ("forward" : Str)))), M) := by
  unfold gInU
  obtain ⟨ds, rfl, h2, h3⟩ := toD_tup h
  obtain ⟨e, he, h4⟩ := h3 0 (.str s) rfl
  have : e = .str s := by cases h4; rfl
  subst this
  rw [toD_le (k := 64) (by omega) h, toD_P M 64 (.tup [.tup [.str "back"], .tup [.str "forward"]]) (by decide)]
  match ds, he with
  | _ :: ds, he =>
    cases he
    simp only [dP, dPs, List.any_cons, List.any_nil, Bool.or_false]
    rw [PyData.eqv, PyData.eqv, PyData.eqvAll, PyData.eqvAll, PyData.eqv, PyData.eqv]
    cases ds with
    | nil =>
      cases r with
      | nil =>
        rw [PyData.eqvAll]
        simp only [List.isEmpty_nil, Bool.true_and, Bool.and_true]
        congr 3
        rw [Bool.eq_iff_iff, Bool.or_eq_true, Bool.or_eq_true, beq_iff_eq, beq_iff_eq, decide_eq_true_eq, decide_eq_true_eq]
        exact ⟨fun h => h.elim (fun h => .inl h.symm) (fun h => .inr h.symm), fun h => h.elim (fun h => .inl h.symm) (fun h => .inr h.symm)⟩
      | cons _ _ => simp at h2
    | cons _ _ =>
      cases r with
      | nil => simp at h2
      | cons _ _ =>
        rw [PyData.eqvAll]
        simp
theorem keeps_is_action : Keeps 1 c_is_action F_is_action := by
  refine keepsB fun w M d h => ?_
  cases w with
  | tup ws =>
    have ge : gIsi "tuple" M (.tup ws) = some (.bl true, M) := rfl
    have gn := eqW_nil h
    match ws, h, ge, gn with
    | [], _, ge, gn =>
      refine ⟨[], ?_⟩
      simp [c_is_action, ge, gn, isAc]
    | a :: r, h, ge, gn =>
      obtain ⟨da, ha⟩ := toD_mem h (w := a) (by simp)
      have ga := isi_str ha
      cases hb : isS a with
      | false =>
        rw [isAc_first hb]
        refine ⟨[], ?_⟩
        simp [c_is_action, ge, gn, ga, hb]
      | true =>
        cases a with
        | str s =>
          have u := inU_of h
          rw [isAc]
          refine ⟨[], ?_⟩
          by_cases hs : s = ("visit" : Str)
          · subst hs
            match r, h, ge, gn with
            | [], h, ge, gn => simp [c_is_action, ge, gn, ga, isS, onePg]
            | [x], h, ge, gn =>
              obtain ⟨dx, hx⟩ := toD_mem h (w := x) (by simp)
              have px : F_is_page [x] M = some (.bl (isPg x), M) := pB_eq hx
              simp [c_is_action, ge, gn, ga, isS, onePg, px]
            | x :: y :: r, h, ge, gn =>
              have : ¬ ((r.length : Int) + 1 + 1 + 1 = 2) := by omega
              simp [c_is_action, ge, gn, ga, isS, onePg, this]
          · simp [c_is_action, ge, gn, ga, isS, hs, u]
        | _ => cases hb
  | _ =>
    refine ⟨[], ?_⟩
    have gs := isi_tup h
    simp [c_is_action, gs, isT, isAc]
end BF

set_option Elab.async false
set_option linter.all false
set_option autoImplicit false
set_option maxRecDepth 10000
namespace BF
open PySem Enc
/-! _law_is_action: of any value -/
def F__law_is_action : Fn := pB isAc
abbrev N__law_is_action : List Str := ["item"]
def c__law_is_action : CS :=
  (sSeq (sIf (tOr (tNot (tB (e1 (gIsi "tuple") (eV 0)))) (tOr (tB (e2 gEq (eV 0) (eTup []))) (tNot (tB (e1 (gIsi "str") (e2 gIx (eV 0) (eL (.int 0)))))))) (sRet (eL (.bl false))) sNil)
  (sSeq (sIf (tB (e2 gInD (e2 gIx (eV 0) (eL (.int 0))) (eLst [(eL (.str "back")), (eL (.str "forward"))]))) (sRet (e2 gEq (eN pLen [(eV 0)]) (eL (.int 1)))) sNil)
  (sRet (eAnd (e2 gEq (e2 gIx (eV 0) (eL (.int 0))) (eL (.str "visit"))) (eAnd (e2 gEq (eN pLen [(eV 0)]) (eL (.int 2))) (eN F__law_is_page [(e2 gIx (eV 0) (eL (.int 1)))]))))))
theorem keeps__law_is_action : Keeps 1 c__law_is_action F__law_is_action := by
  refine keepsB fun w M d h => ?_
  cases w with
  | tup ws =>
    have ge : gIsi "tuple" M (.tup ws) = some (.bl true, M) := rfl
    have gn := eqW_nil h
    match ws, h, ge, gn with
    | [], _, ge, gn =>
      refine ⟨[], ?_⟩
      simp [c__law_is_action, ge, gn, isAc]
    | a :: r, h, ge, gn =>
      obtain ⟨da, ha⟩ := toD_mem h (w := a) (by simp)
      have ga := isi_str ha
      cases hb : isS a with
      | false =>
        rw [isAc_first hb]
        refine ⟨[], ?_⟩
        simp [c__law_is_action, ge, gn, ga, hb]
      | true =>
        cases a with
        | str s =>
          have u := gInD_enc (M ++ [.lst [.str "back", .str "forward"]]) M.length [("back" : Str), ("forward" : Str)] s (by simp)
          rw [enc_str] at u
          rw [isAc]
          refine ⟨[.lst [.str "back", .str "forward"]], ?_⟩
          by_cases hs : s = ("visit" : Str)
          · subst hs
            have hd : decide (("visit" : Str) ∈ [("back" : Str), ("forward" : Str)]) = false := by decide
            rw [hd] at u
            match r, h, ge, gn with
            | [], h, ge, gn => simp [c__law_is_action, ge, gn, ga, isS, u, onePg]
            | [x], h, ge, gn =>
              obtain ⟨dx, hx⟩ := toD_mem h (w := x) (by simp)
              have px : F__law_is_page [x] (M ++ [.lst [.str "back", .str "forward"]]) = some (.bl (isPg x), M ++ [.lst [.str "back", .str "forward"]]) := pB_eq (toD_app 40 x dx hx)
              simp [c__law_is_action, ge, gn, ga, isS, u, px, onePg]
            | x :: y :: r, h, ge, gn =>
              have : ¬ ((r.length : Int) + 1 + 1 + 1 = 2) := by omega
              simp [c__law_is_action, ge, gn, ga, isS, u, this, onePg]
          · by_cases hm : s = ("back" : Str) ∨ s = ("forward" : Str)
            · have hd : decide (s ∈ [("back" : Str), ("forward" : Str)]) = true := by simpa using hm
              have hd2 : (decide (s = ("back" : Str)) || decide (s = ("forward" : Str))) = true := by simpa using hm
              rw [hd] at u
              rw [if_neg hs, hd2]
              cases r with
              | nil => simp [c__law_is_action, ge, gn, ga, isS, u]
              | cons x r =>
                have : ¬ ((r.length : Int) + 1 + 1 = 1) := by omega
                simp [c__law_is_action, ge, gn, ga, isS, u, this]
            · have hd : decide (s ∈ [("back" : Str), ("forward" : Str)]) = false := by simpa using hm
              have hd2 : (decide (s = ("back" : Str)) || decide (s = ("forward" : Str))) = false := by simpa using hm
              rw [hd] at u
              rw [if_neg hs, hd2]
              simp [c__law_is_action, ge, gn, ga, isS, u, hs]
        | _ => cases hb
  | _ =>
    refine ⟨[], ?_⟩
    have gs := isi_tup h
    simp [c__law_is_action, gs, isT, isAc]
end BF

set_option Elab.async false
set_option linter.all false
set_option autoImplicit false
set_option maxRecDepth 10000
namespace BF
open PySem Enc
/-! is_script: of any value -/
def isSc : W → Bool
  | .tup ws => decide (ws.length ≤ 40) && ws.all isAc
  | _ => false
def F_is_script : Fn := pB isSc
abbrev N_is_script : List Str := ["value", "action"]
def c_is_script : CS :=
  (sRet (eAnd (e1 (gIsi "tuple") (eV 0)) (eAnd (e2 gLe (eN pLen [(eV 0)]) (eL (.int 40))) (eN pAll [(eLc (iTup (eV 0)) (gV 1) tTrue (eN F_is_action [(eV 1)]) [1])]))))
theorem keeps_is_script : Keeps 2 c_is_script F_is_script := by
  refine keepsB fun w M d h => ?_
  cases w with
  | tup ws =>
    have ge : ∀ s : Option W, (e1 (gIsi "tuple") (eV 0)) [some (.tup ws), s] M = some (.bl true, M) := fun _ => rfl
    rw [isSc]
    by_cases h1 : ws.length ≤ 40
    · have h1' : (ws.length : Int) ≤ 40 := by omega
      have key := lcL_pure (gd := gdT) (g := gV 1) (e := eN F_is_action [(eV 1)]) (vs := [1]) (σ := [some (.tup ws), none]) ws (fun w => .bl (isAc w)) M [] (by simp; omega) (fun _ => rfl) (fun w hw l => by
        obtain ⟨e, he⟩ := toD_mem h hw
        have := pB_eq (p := isAc) (toD_app (g := [.lst l]) 40 w e he)
        exact ⟨_, rfl, by simp [wipe, F_is_action, this]⟩)
      rw [show (ws.map fun w => W.bl (isAc w)) = (ws.map isAc).map W.bl by rw [List.map_map]; rfl, List.nil_append] at key
      have ab := asBls_map (ws.map isAc)
      have ea : (ws.map isAc).all id = ws.all isAc := by rw [List.all_map]; rfl
      rw [← ea]
      generalize ws.map isAc = bs at *
      refine ⟨[.lst (bs.map W.bl)], ?_⟩
      simp [-e1_eq, c_is_script, ge, key, ab, h1, h1']
    · have h1' : ¬ (ws.length : Int) ≤ 40 := by omega
      refine ⟨[], ?_⟩
      simp [-e1_eq, c_is_script, ge, h1, h1']
  | _ =>
    refine ⟨[], ?_⟩
    have gs := isi_tup h
    simp [c_is_script, gs, isT, isSc]
end BF

set_option Elab.async false
set_option linter.all false
set_option autoImplicit false
set_option maxRecDepth 10000
namespace BF
open PySem Enc
/-! _law_is_script: of any value -/
def F__law_is_script : Fn := pB isSc
abbrev N__law_is_script : List Str := ["item", "action"]
def c__law_is_script : CS :=
  (sSeq (sIf (tOr (tNot (tB (e1 (gIsi "tuple") (eV 0)))) (tB (e2 gGt (eN pLen [(eV 0)]) (eL (.int 40))))) (sRet (eL (.bl false))) sNil)
  (sRet (e2 gEq (eLc (iTup (eV 0)) (gV 1) (tNot (tB (eN F__law_is_action [(eV 1)]))) (eV 1) [1]) (eLst []))))
theorem keeps__law_is_script : Keeps 2 c__law_is_script F__law_is_script := by
  refine keepsB fun w M d h => ?_
  cases w with
  | tup ws =>
    have ge : ∀ s : Option W, (e1 (gIsi "tuple") (eV 0)) [some (.tup ws), s] M = some (.bl true, M) := fun _ => rfl
    rw [isSc]
    by_cases h1 : ws.length ≤ 40
    · have h1' : ¬ (40 : Int) < ws.length := by omega
      have key := lcL_filter (gd := gdT) (g := gV 1) (t := tNot (tB (eN F__law_is_action [(eV 1)]))) (e := eV 1) (vs := [1]) (σ := [some (.tup ws), none]) ws id (fun w => !isAc w) M [] (by simp; omega) (fun _ => rfl) (fun w hw l => by
        obtain ⟨e, he⟩ := toD_mem h hw
        have := pB_eq (p := isAc) (toD_app (g := [.lst l]) 40 w e he)
        exact ⟨_, rfl, by simp [wipe, F__law_is_action, this], fun _ => by simp [wipe]⟩)
      rw [List.nil_append, List.map_id] at key
      rw [← filter_none]
      have mem : ∀ w ∈ ws.filter (fun w => !isAc w), ∃ d, toD M 40 w = some d := fun w hw => toD_mem h (List.mem_filter.mp hw).1
      generalize ws.filter (fun w => !isAc w) = ys at *
      refine ⟨[.lst ys, .lst []], ?_⟩
      have q := eqL_nil (M := M ++ [.lst ys, .lst []]) (n := M.length) (m := M.length + 1) (ws := ys) (by simp) (by simp) (fun w hw => by
        obtain ⟨d, hd⟩ := mem w hw
        exact ⟨d, toD_app 40 w d hd⟩)
      simp [-e1_eq, c__law_is_script, ge, key, h1, h1', q]
    · have h1' : (40 : Int) < ws.length := by omega
      refine ⟨[], ?_⟩
      simp [-e1_eq, c__law_is_script, ge, h1, h1']
  | _ =>
    refine ⟨[], ?_⟩
    have gs := isi_tup h
    simp [c__law_is_script, gs, isT, isSc]
end BF

set_option Elab.async false
set_option linter.all false
set_option autoImplicit false
set_option maxRecDepth 10000
namespace BF
open PySem Enc
abbrev b1_law_k01 : CS :=
  (sSeq (sPar [4, 5] [(eN F__law_history [(eV 1), (eL (.int 12)), (eV 2)]), (eN F__law_script [(eV 1), (eL (.int 40)), (eV 2)])])
  (sSeq (sSet (gV 6) (eLst [(eV 4), (eN pList [(eV 4)]), (e1 gRev (eV 4)), (eTup [(e2 gIx (eV 4) (eL (.int 0))), (eL (.bl true))]), (eTup [(eN pList [(e2 gIx (eV 4) (eL (.int 0)))]), (eL (.int 0))])]))
  (sSeq (sExpr (eML mAppend (eV 6) [(eTup [(e2 gIx (eV 4) (eL (.int 0))), (eN pLen [(e2 gIx (eV 4) (eL (.int 0)))])])]))
  (sSeq (sSet (gV 6) (e2 gAdd (eV 6) (eLst [(eTup [(eTup []), (eL (.int 0))]), (eTup [(e2 gRepA (eTup [(eL (.str "a"))]) (eL (.int 12))), (eL (.int 11))]), (eTup [(e2 gRepA (eTup [(eL (.str "a"))]) (eL (.int 13))), (eL (.int 0))]), (eTup [(eTup [(eL (.str "a"))]), (e1 gNeg (eL (.int 1)))]), (eTup [(eTup [(eL (.str "A"))]), (eL (.int 0))]), (eTup [(eTup [(eL (.str ""))]), (eL (.int 0))])])))
  (sSeq (sSet (gV 6) (e2 gAdd (eV 6) (eLst [(eTup [(eTup [(eL (.str "abcdefghi"))]), (eL (.int 0))]), (eTup [(eTup [(eL (.str "a"))]), (eL (.int 0)), (eL (.int 0))]), (eTup [(eTup [(eL (.str "a"))])]), (eL (.str "a")), (eL .non), (eTup [(eL (.str "a")), (eL (.int 0))])])))
  (sSeq (sSet (gV 6) (e2 gAdd (eV 6) (eLst [(eV 5), (eN pList [(eV 5)]), (e2 gRepA (eTup [(eTup [(eL (.str "back"))])]) (eL (.int 40))), (e2 gRepA (eTup [(eTup [(eL (.str "back"))])]) (eL (.int 41)))])))
  (sSeq (sSet (gV 6) (e2 gAdd (eV 6) (eLst [(eTup [(eTup [(eL (.str "back")), (eL (.str "a"))])]), (eTup [(eTup [(eL (.str "visit"))])]), (eTup [(eTup [(eL (.str "visit")), (eL (.str "A"))])]), (eTup [(eTup [(eL (.str "visit")), (eL (.str "a")), (eL (.str "b"))])])])))
  (sSeq (sSet (gV 6) (e2 gAdd (eV 6) (eLst [(eTup [(eTup [(eL (.str "go")), (eL (.int 1))])]), (eTup [(eLst [(eL (.str "back"))])]), (eTup [(eL (.str "back"))]), (eTup []), (eTup [(eTup [])])])))
  (sSeq (sFor (iRange1 (eL (.int 9))) (gV 7) (sSeq (sExpr (eML mAppend (eV 6) [(eN (F__law_spoilt 8) [(eV 1), (eV 4)])]))
  (sSeq (sExpr (eML mAppend (eV 6) [(eN (F__law_spoilt 8) [(eV 1), (eV 5)])]))
  (sExpr (eML mAppend (eV 6) [(eN (F__law_spoilt 8) [(eV 1), (e2 gIx (eV 6) (e1 gNeg (eL (.int 1))))])])))))
  (sFor (iLst (e2 gAdd (eV 6) (eLst [(eN (F__law_any 8) [(eV 1), (eL (.int 2))])]))) (gV 8) (sSeq (sIf (tNot (tB (eN (F__law_like 8) [(eN F_is_history [(eV 8)]), (eN F__law_is_history [(eV 8)])]))) (sRet (eL (.bl false))) sNil)
  (sIf (tNot (tB (eN (F__law_like 8) [(eN F_is_script [(eV 8)]), (eN F__law_is_script [(eV 8)])]))) (sRet (eL (.bl false))) sNil))))))))))))
abbrev b2_law_k01 : CS :=
  (sSeq (sExpr (eML mAppend (eV 6) [(eN (F__law_spoilt 8) [(eV 1), (eV 4)])]))
  (sSeq (sExpr (eML mAppend (eV 6) [(eN (F__law_spoilt 8) [(eV 1), (eV 5)])]))
  (sExpr (eML mAppend (eV 6) [(eN (F__law_spoilt 8) [(eV 1), (e2 gIx (eV 6) (e1 gNeg (eL (.int 1))))])]))))
abbrev b3_law_k01 : CS :=
  (sSeq (sIf (tNot (tB (eN (F__law_like 8) [(eN F_is_history [(eV 8)]), (eN F__law_is_history [(eV 8)])]))) (sRet (eL (.bl false))) sNil)
  (sIf (tNot (tB (eN (F__law_like 8) [(eN F_is_script [(eV 8)]), (eN F__law_is_script [(eV 8)])]))) (sRet (eL (.bl false))) sNil))
abbrev N_law_k01 : List Str := ["script", "tape", "pool", "turn", "history", "actions", "things", "k", "thing"]
def c_law_k01 : CS :=
  (sSeq (sSet (gV 1) (eLst [(eN pList [(eV 0)]), (eL (.int 0)), (eL (.int 0))]))
  (sSeq (sSet (gV 2) (eTup [(eL (.str "a")), (eL (.str "bc")), (eL (.str "zzzzzzzz"))]))
  (sSeq (sFor (iRange1 (eL (.int 4))) (gV 3) (sSeq (sPar [4, 5] [(eN F__law_history [(eV 1), (eL (.int 12)), (eV 2)]), (eN F__law_script [(eV 1), (eL (.int 40)), (eV 2)])])
  (sSeq (sSet (gV 6) (eLst [(eV 4), (eN pList [(eV 4)]), (e1 gRev (eV 4)), (eTup [(e2 gIx (eV 4) (eL (.int 0))), (eL (.bl true))]), (eTup [(eN pList [(e2 gIx (eV 4) (eL (.int 0)))]), (eL (.int 0))])]))
  (sSeq (sExpr (eML mAppend (eV 6) [(eTup [(e2 gIx (eV 4) (eL (.int 0))), (eN pLen [(e2 gIx (eV 4) (eL (.int 0)))])])]))
  (sSeq (sSet (gV 6) (e2 gAdd (eV 6) (eLst [(eTup [(eTup []), (eL (.int 0))]), (eTup [(e2 gRepA (eTup [(eL (.str "a"))]) (eL (.int 12))), (eL (.int 11))]), (eTup [(e2 gRepA (eTup [(eL (.str "a"))]) (eL (.int 13))), (eL (.int 0))]), (eTup [(eTup [(eL (.str "a"))]), (e1 gNeg (eL (.int 1)))]), (eTup [(eTup [(eL (.str "A"))]), (eL (.int 0))]), (eTup [(eTup [(eL (.str ""))]), (eL (.int 0))])])))
  (sSeq (sSet (gV 6) (e2 gAdd (eV 6) (eLst [(eTup [(eTup [(eL (.str "abcdefghi"))]), (eL (.int 0))]), (eTup [(eTup [(eL (.str "a"))]), (eL (.int 0)), (eL (.int 0))]), (eTup [(eTup [(eL (.str "a"))])]), (eL (.str "a")), (eL .non), (eTup [(eL (.str "a")), (eL (.int 0))])])))
  (sSeq (sSet (gV 6) (e2 gAdd (eV 6) (eLst [(eV 5), (eN pList [(eV 5)]), (e2 gRepA (eTup [(eTup [(eL (.str "back"))])]) (eL (.int 40))), (e2 gRepA (eTup [(eTup [(eL (.str "back"))])]) (eL (.int 41)))])))
  (sSeq (sSet (gV 6) (e2 gAdd (eV 6) (eLst [(eTup [(eTup [(eL (.str "back")), (eL (.str "a"))])]), (eTup [(eTup [(eL (.str "visit"))])]), (eTup [(eTup [(eL (.str "visit")), (eL (.str "A"))])]), (eTup [(eTup [(eL (.str "visit")), (eL (.str "a")), (eL (.str "b"))])])])))
  (sSeq (sSet (gV 6) (e2 gAdd (eV 6) (eLst [(eTup [(eTup [(eL (.str "go")), (eL (.int 1))])]), (eTup [(eLst [(eL (.str "back"))])]), (eTup [(eL (.str "back"))]), (eTup []), (eTup [(eTup [])])])))
  (sSeq (sFor (iRange1 (eL (.int 9))) (gV 7) (sSeq (sExpr (eML mAppend (eV 6) [(eN (F__law_spoilt 8) [(eV 1), (eV 4)])]))
  (sSeq (sExpr (eML mAppend (eV 6) [(eN (F__law_spoilt 8) [(eV 1), (eV 5)])]))
  (sExpr (eML mAppend (eV 6) [(eN (F__law_spoilt 8) [(eV 1), (e2 gIx (eV 6) (e1 gNeg (eL (.int 1))))])])))))
  (sFor (iLst (e2 gAdd (eV 6) (eLst [(eN (F__law_any 8) [(eV 1), (eL (.int 2))])]))) (gV 8) (sSeq (sIf (tNot (tB (eN (F__law_like 8) [(eN F_is_history [(eV 8)]), (eN F__law_is_history [(eV 8)])]))) (sRet (eL (.bl false))) sNil)
  (sIf (tNot (tB (eN (F__law_like 8) [(eN F_is_script [(eV 8)]), (eN F__law_is_script [(eV 8)])]))) (sRet (eL (.bl false))) sNil)))))))))))))
  (sRet (eL (.bl true))))))
abbrev pool01 : List Str := ["a", "bc", "zzzzzzzz"]
def mk (p : Nat) (G : Mem) : Mem := G.set p (.dK [])
theorem mk_len (p : Nat) (G : Mem) : (mk p G).length = G.length := List.length_set
theorem sbm_mk (p : Nat) (G : Mem) : Sbm (mk p G) G := by
  intro i ws h
  unfold mk at h
  rw [List.getElem?_set] at h
  split at h
  · split at h <;> cases h
  · exact h
theorem mk_app {p : Nat} {G m : Mem} (h : p < G.length) : mk p (G ++ m) = mk p G ++ m := by
  unfold mk
  rw [List.set_append_left _ _ h]
theorem sbm_mk2 {p p' : Nat} {G m : Mem} (h : G.length ≤ p') : Sbm (mk p G) (mk p' (G ++ m)) := by
  have : mk p' (G ++ m) = G ++ m.set (p' - G.length) (.dK []) := by
    unfold mk
    rw [List.set_append_right _ _ h]
  rw [this]
  exact (sbm_mk p G).more _
/-- the list of things in hand -/
structure Inv (n : Nat) (ns : List Int) (s : Dr) (G : Mem) (p : Nat) (us : List W) : Prop where
  get : G[p]? = some (.lst us)
  len : us.length ≤ n
  ok : ∀ w ∈ us, okV 120 (mk p G) 9 w = true
  cl : Closed (TM ns s G)
theorem Inv.lt {n : Nat} {ns : List Int} {s : Dr} {G : Mem} {p : Nat} {us : List W} (i : Inv n ns s G p us) : p < G.length := (List.getElem?_eq_some_iff.mp i.get).1
theorem Inv.draw {n : Nat} {ns : List Int} {s s' : Dr} {G : Mem} {p : Nat} {us : List W} (i : Inv n ns s G p us) : Inv n ns s' G p us := ⟨i.get, i.len, i.ok, closed_TM i.cl⟩
theorem closed_less {M g : Mem} {w : W} (h : w.closed M.length = true) : w.closed (M ++ g).length = true := W.closed_mono (by simp) w h
/-- things + [..] -/
theorem stage_add {n : Nat} {ns : List Int} {s s' : Dr} {G m1 : Mem} {p : Nat} {us ls : List W} {σ : Sl} {es : List CE} (i : Inv n ns s G p us) (hn : n ≤ 1000) (hσ : σ.getD 6 none = some (.ref (p + 3)))
    (he : eArgs es σ (TM ns s G) = some (ls, TM ns s' (G ++ m1))) (hl : ls.length ≤ 20) (hls : ∀ w ∈ ls, okV 120 (mk p G ++ m1) 9 w = true) (hc : Closed (TM ns s' (G ++ m1))) :
    ∃ G' p', (e2 gAdd (eV 6) (eLst es)) σ (TM ns s G) = some (.ref (p' + 3), TM ns s' G') ∧ Inv (n + 20) ns s' G' p' (us ++ ls) := by
  have hp := i.lt
  have hus := i.len
  refine ⟨G ++ m1 ++ [.lst ls] ++ [.lst (us ++ ls)], (G ++ m1).length + 1, ?_, ?_, ?_, ?_, ?_⟩
  · have q1 : (TM ns s' (G ++ m1 ++ [MO.lst ls]))[p + 3]? = some (.lst us) := by
      rw [TM_get3, List.append_assoc, List.getElem?_append_left hp]; exact i.get
    have q2 : (TM ns s' (G ++ m1 ++ [MO.lst ls]))[(G ++ m1).length + 3]? = some (.lst ls) := by rw [TM_get3]; simp
    have b1 : ls.length ≤ 16777216 := by omega
    have b2 : us.length + ls.length ≤ 16777216 := by omega
    simp only [e2_eq, eV_eq, hσ, Option.bind_some, eLst_eq, he, b1, if_true, TM_append, TM_length, gAdd_ref, q1, q2, b2]
    congr 2
    rw [List.length_append, List.length_singleton]
  · rw [show (G ++ m1).length + 1 = (G ++ m1 ++ [MO.lst ls]).length by rw [List.length_append (bs := [MO.lst ls]), List.length_singleton]]
    exact List.getElem?_concat_length
  · rw [List.length_append]; omega
  · intro w hw
    rw [List.append_assoc (G ++ m1)]
    rcases List.mem_append.mp hw with hw | hw
    · have : Sbm (mk p G) (mk ((G ++ m1).length + 1) (G ++ m1 ++ ([.lst ls] ++ [.lst (us ++ ls)]))) := by
        rw [List.append_assoc G m1]
        exact sbm_mk2 (by simp; omega)
      exact okV_sub (Nat.le_refl _) this _ _ _ (Nat.le_refl _) (i.ok w hw)
    · have : Sbm (mk p G ++ m1) (mk ((G ++ m1).length + 1) (G ++ m1 ++ ([.lst ls] ++ [.lst (us ++ ls)]))) := by
        rw [← mk_app hp]
        exact sbm_mk2 (by omega)
      exact okV_sub (Nat.le_refl _) this _ _ _ (Nat.le_refl _) (hls w hw)
  · have cls : W.closeds ((G ++ m1).length + 3) ls = true := cls_of fun w hw => by
      have := okV_closed (hls w hw)
      rw [← mk_app hp, mk_len] at this
      exact this
    have c1 : Closed (TM ns s' (G ++ m1 ++ [.lst ls])) := cl_new hc cls
    refine cl_new c1 (cls_of fun w hw => ?_)
    rcases List.mem_append.mp hw with hw | hw
    · have := okV_closed (i.ok w hw)
      rw [mk_len] at this
      exact W.closed_mono (by simp) w this
    · exact W.closed_mono (by simp) w (of_closeds cls w hw)
/-- things.append(..) -/
theorem stage_app {n : Nat} {ns : List Int} {s s' : Dr} {G g' : Mem} {p : Nat} {us : List W} {x : W} {σ : Sl} {e : CE} (i : Inv n ns s G p us) (hn : n ≤ 1000) (hσ : σ.getD 6 none = some (.ref (p + 3)))
    (he : e σ (TM ns s G) = some (x, TM ns s' (G ++ g'))) (hx : okV 120 (mk p G ++ g') 9 x = true) (hc : Closed (TM ns s' (G ++ g'))) :
    ∃ G', (sExpr (eML mAppend (eV 6) [e])) σ (TM ns s G) = some (.nx σ (TM ns s' G')) ∧ Inv (n + 1) ns s' G' p (us ++ [x]) ∧ mk p G' = mk p G ++ g' := by
  have hp := i.lt
  have hus := i.len
  have q0 : (TM ns s G)[p + 3]? = some (.lst us) := by rw [TM_get3]; exact i.get
  have q1 : (TM ns s' (G ++ g'))[p + 3]? = some (.lst us) := by rw [TM_get3, List.getElem?_append_left hp]; exact i.get
  have b1 : us.length < 16777216 := by omega
  have em : mk p ((G ++ g').set p (.lst (us ++ [x]))) = mk p G ++ g' := by
    rw [← mk_app hp]
    unfold mk
    rw [List.set_set]
  refine ⟨(G ++ g').set p (.lst (us ++ [x])), ?_, ⟨?_, ?_, ?_, ?_⟩, em⟩
  · simp only [sExpr_eq, eML_eq, eV_eq, hσ, Option.bind_some, isLst_ref, q0, if_true, eArgs_cons, eArgs_nil, he, mAppend_ref, q1, b1, TM_set3]
  · rw [List.getElem?_set_self (by simp; omega)]
  · rw [List.length_append, List.length_singleton]; omega
  · intro w hw
    rw [em]
    rcases List.mem_append.mp hw with hw | hw
    · exact okV_sub (Nat.le_refl _) ((Sbm.refl _).more _) _ _ _ (Nat.le_refl _) (i.ok w hw)
    · rw [List.mem_singleton.mp hw]; exact hx
  · rw [← TM_set3]
    refine cl_set hc (cls_of fun w hw => ?_)
    rcases List.mem_append.mp hw with hw | hw
    · have := okV_closed (i.ok w hw)
      rw [mk_len] at this
      exact W.closed_mono (by simp) w this
    · rw [List.mem_singleton.mp hw]
      have := okV_closed hx
      rw [← mk_app hp, mk_len] at this
      exact this
/-- .. of a spoiled value -/
theorem stage_spoil {n k : Nat} {B : Nat} {ns : List Int} {s : Dr} {G : Mem} {p : Nat} {us : List W} {y : W} {σ : Sl} {c : CE} (i : Inv n ns s G p us) (hn : n ≤ 1000) (hσ : σ.getD 6 none = some (.ref (p + 3))) (h1 : σ.getD 1 none = some (.ref 2))
    (hy : ∀ M, (∃ s, M = TM ns s G) → c σ M = some (y, M)) (hB : 10 ≤ B) (hB2 : B + 10 ≤ 120) (hk : k ≤ 6) (ho : okV B (mk p G) k y = true) :
    ∃ G' s' x, (sExpr (eML mAppend (eV 6) [(eN (F__law_spoilt 8) [(eV 1), c])])) σ (TM ns s G) = some (.nx σ (TM ns s' G')) ∧ Inv (n + 1) ns s' G' p (us ++ [x]) ∧ okV (B + 10) (mk p G') (k + 3) x = true := by
  obtain ⟨x, s', g', e1, e2, e3⟩ := spoilt_ok hB (by omega) ns 8 k s G (mk p G) y (by omega) (by omega) (mk_len p G) (sbm_mk p G) i.cl ho
  obtain ⟨G', f1, f2, f3⟩ := stage_app (e := eN (F__law_spoilt 8) [(eV 1), c]) i hn hσ (by
    simp only [eN_eq, eArgs_cons, eArgs_nil, eV_eq, h1, Option.bind_some, hy _ ⟨s, rfl⟩, e1]) (okV_sub (by omega) (.refl _) _ _ _ (by omega) e2) e3
  exact ⟨G', s', x, f1, f2, by rw [f3]; exact e2⟩

theorem lits (B : Nat) (G m : Mem) (ls : List W) (h : ls.all (plV 100 5) = true) : ∀ w ∈ ls, okV 120 (G ++ m) 9 w = true := fun w hw =>
  okV_sub (by omega) (.refl _) _ _ _ (by omega) (okV_pl (B := 100) 5 w (List.all_eq_true.mp h w hw))
theorem lit1 (σ : Sl) (M : Mem) : eArgs [(eTup [(eTup []), (eL (.int 0))]), (eTup [(e2 gRepA (eTup [(eL (.str "a"))]) (eL (.int 12))), (eL (.int 11))]), (eTup [(e2 gRepA (eTup [(eL (.str "a"))]) (eL (.int 13))), (eL (.int 0))]), (eTup [(eTup [(eL (.str "a"))]), (e1 gNeg (eL (.int 1)))]), (eTup [(eTup [(eL (.str "A"))]), (eL (.int 0))]), (eTup [(eTup [(eL (.str ""))]), (eL (.int 0))])] σ M =
    some ([.tup [.tup [], .int 0], .tup [.tup (List.replicate 12 (.str "a")), .int 11], .tup [.tup (List.replicate 13 (.str "a")), .int 0], .tup [.tup [.str "a"], .int (-1)], .tup [.tup [.str "A"], .int 0], .tup [.tup [.str ""], .int 0]], M) := by
  simp
theorem lit2 (σ : Sl) (M : Mem) : eArgs [(eTup [(eTup [(eL (.str "abcdefghi"))]), (eL (.int 0))]), (eTup [(eTup [(eL (.str "a"))]), (eL (.int 0)), (eL (.int 0))]), (eTup [(eTup [(eL (.str "a"))])]), (eL (.str "a")), (eL .non), (eTup [(eL (.str "a")), (eL (.int 0))])] σ M =
    some ([.tup [.tup [.str "abcdefghi"], .int 0], .tup [.tup [.str "a"], .int 0, .int 0], .tup [.tup [.str "a"]], .str "a", .non, .tup [.str "a", .int 0]], M) := by
  simp
theorem lit3 (σ : Sl) (M : Mem) (ls : List W) (h : σ.getD 5 none = some (.tup ls)) : eArgs [(eV 5), (eN pList [(eV 5)]), (e2 gRepA (eTup [(eTup [(eL (.str "back"))])]) (eL (.int 40))), (e2 gRepA (eTup [(eTup [(eL (.str "back"))])]) (eL (.int 41)))] σ M =
    some ([.tup ls, .ref M.length, .tup (List.replicate 40 (.tup [.str "back"])), .tup (List.replicate 41 (.tup [.str "back"]))], M ++ [.lst ls]) := by
  simp [-List.getD_eq_getElem?_getD, h]
theorem lit4 (σ : Sl) (M : Mem) : eArgs [(eTup [(eTup [(eL (.str "back")), (eL (.str "a"))])]), (eTup [(eTup [(eL (.str "visit"))])]), (eTup [(eTup [(eL (.str "visit")), (eL (.str "A"))])]), (eTup [(eTup [(eL (.str "visit")), (eL (.str "a")), (eL (.str "b"))])])] σ M =
    some ([.tup [.tup [.str "back", .str "a"]], .tup [.tup [.str "visit"]], .tup [.tup [.str "visit", .str "A"]], .tup [.tup [.str "visit", .str "a", .str "b"]]], M) := by
  simp
theorem lit5 (σ : Sl) (M : Mem) : eArgs [(eTup [(eTup [(eL (.str "go")), (eL (.int 1))])]), (eTup [(eLst [(eL (.str "back"))])]), (eTup [(eL (.str "back"))]), (eTup []), (eTup [(eTup [])])] σ M =
    some ([.tup [.tup [.str "go", .int 1]], .tup [.ref M.length], .tup [.str "back"], .tup [], .tup [.tup []]], M ++ [.lst [.str "back"]]) := by
  simp

theorem page01 (ns : List Int) (s : Dr) : (pickD ns pool01 s).1.length ≤ 100 := by
  unfold pickD
  simp only
  generalize (drawD ns pool01.length s).1 = i
  match i with
  | 0 => decide
  | 1 => decide
  | 2 => decide
  | i + 3 => show (default : Str).length ≤ 100; decide
theorem hist01 (ns : List Int) (s : Dr) : plV 100 2 (.tup ((histD ns 12 pool01 s).1.ps.map W.str)) = true := by
  have hl := histD_len ns 12 pool01 s (by omega)
  rw [plV, Bool.and_eq_true, decide_eq_true_eq, List.length_map, List.all_eq_true]
  refine ⟨by omega, fun w hw => ?_⟩
  obtain ⟨x, hx, rfl⟩ := List.mem_map.mp hw
  rw [plV, decide_eq_true_eq]
  exact repD_all (pickD ns pool01) (fun x => x.length ≤ 100) (page01 ns) _ _ x hx
theorem act01 (ns : List Int) (s : Dr) : plV 100 2 (enc (actD ns pool01 s).1) = true := by
  have e : (actD ns pool01 s).1 = .back ∨ (actD ns pool01 s).1 = .forward ∨ ∃ s', (actD ns pool01 s).1 = .visit (pickD ns pool01 s').1 := by
    unfold actD
    simp only
    split
    · exact .inl rfl
    split
    · exact .inr (.inl rfl)
    split
    · exact .inl rfl
    · exact .inr (.inr ⟨_, rfl⟩)
  rcases e with e | e | ⟨s', e⟩
  · rw [e]; decide
  · rw [e]; decide
  · rw [e, enc_visit]
    have := page01 ns s'
    have h5 : ("visit" : Str).length ≤ 100 := by decide
    simp [plV, this, h5]
theorem script01 (ns : List Int) (s : Dr) : plV 100 3 (.tup ((scrD ns 40 pool01 s).1.map enc)) = true := by
  have hl := scrD_length ns 40 pool01 s
  rw [plV, Bool.and_eq_true, decide_eq_true_eq, List.length_map, List.all_eq_true]
  refine ⟨by omega, fun w hw => ?_⟩
  obtain ⟨x, hx, rfl⟩ := List.mem_map.mp hw
  exact repD_all (actD ns pool01) (fun x => plV 100 2 (enc x) = true) (act01 ns) _ _ x hx
theorem ok_of_pl {k : Nat} (hk : k ≤ 9) {G : Mem} {w : W} (h : plV 100 k w = true) : okV 120 G 9 w = true := okV_sub (by omega) (.refl _) _ _ _ hk (okV_pl (B := 100) k w h)
theorem ok_ref {B : Nat} {G : Mem} {k n : Nat} {ls : List W} (hk : k ≤ 8) (h : G[n]? = some (.lst ls)) (hl : ls.length ≤ 120) (hls : ls.all (plV 100 k) = true) : okV 120 G 9 (.ref (n + 3)) = true := by
  rw [okV]
  rw [show n + 3 - 3 = n by omega, h]
  simp only
  rw [Bool.and_eq_true, Bool.and_eq_true, decide_eq_true_eq, decide_eq_true_eq, List.all_eq_true]
  exact ⟨⟨by omega, hl⟩, fun w hw => okV_sub (by omega) (.refl _) _ _ _ hk (okV_pl (B := 100) k w (List.all_eq_true.mp hls w hw))⟩
/-- one thing is told alike -/
theorem one_k01 {ns : List Int} {s : Dr} {G : Mem} {w : W} {σ : Sl} (h8 : σ.getD 8 none = some w) (ho : okV 120 G 9 w = true) : b3_law_k01 σ (TM ns s G) = some (.nx σ (TM ns s G)) := by
  obtain ⟨d, hd⟩ := okV_toD (ns := ns) (s := s) 9 w ho
  have h := toD_le (k := 40) (by omega) hd
  have a1 : F_is_history [w] (TM ns s G) = some (.bl (isHi w), TM ns s G) := pB_eq h
  have a2 : F__law_is_history [w] (TM ns s G) = some (.bl (isHi w), TM ns s G) := pB_eq h
  have a3 : F_is_script [w] (TM ns s G) = some (.bl (isSc w), TM ns s G) := pB_eq h
  have a4 : F__law_is_script [w] (TM ns s G) = some (.bl (isSc w), TM ns s G) := pB_eq h
  have lk : ∀ b : Bool, F__law_like 8 [.bl b, .bl b] (TM ns s G) = some (.bl true, TM ns s G) := fun b => by
    have := like_enc 8 b b (TM ns s G) (by decide) (by decide) rfl rfl
    simpa using this
  unfold b3_law_k01
  simp only [sSeq_eq, sIf_eq, tNot_eq, tB_eq, eN_eq, eArgs_cons, eArgs_nil, eV_eq, h8, Option.bind_some, a1, a2, a3, a4, lk, Bool.not_true, Bool.false_eq_true, if_false, sNil_eq]
theorem spoil_k01 {ns : List Int} {h : Hist} {l : List Act} (hh : plV 100 3 (enc h) = true) (hl : plV 100 3 (enc l) = true) {s : Dr} {G : Mem} {p n : Nat} {us : List W} {σ : Sl} (i : Inv n ns s G p us) (hn : n + 3 ≤ 1000)
    (h1 : σ.getD 1 none = some (.ref 2)) (h4 : σ.getD 4 none = some (enc h)) (h5 : σ.getD 5 none = some (enc l)) (h6 : σ.getD 6 none = some (.ref (p + 3))) :
    ∃ G' s' us', b2_law_k01 σ (TM ns s G) = some (.nx σ (TM ns s' G')) ∧ Inv (n + 3) ns s' G' p us' := by
  obtain ⟨G1, s1, x1, y1, i1, o1⟩ := stage_spoil (c := eV 4) (y := enc h) (B := 100) (k := 3) i (by omega) h6 h1 (fun M _ => by rw [eV_eq, h4]) (by omega) (by omega) (by omega) (okV_pl 3 _ hh)
  obtain ⟨G2, s2, x2, y2, i2, o2⟩ := stage_spoil (c := eV 5) (y := enc l) (B := 100) (k := 3) i1 (by omega) h6 h1 (fun M _ => by rw [eV_eq, h5]) (by omega) (by omega) (by omega) (okV_pl 3 _ hl)
  obtain ⟨G3, s3, x3, y3, i3, o3⟩ := stage_spoil (c := e2 gIx (eV 6) (e1 gNeg (eL (.int 1)))) (y := x2) (B := 110) (k := 6) i2 (by omega) h6 h1 (fun M ⟨s, hM⟩ => by
    subst hM
    have q : (TM ns s G2)[p + 3]? = some (.lst (us ++ [x1] ++ [x2])) := by rw [TM_get3]; exact i2.get
    have ix : ixW (us ++ [x1] ++ [x2]).length (-1) = some (us ++ [x1]).length := by
      unfold ixW
      rw [if_neg (by omega), if_pos (by simp; omega)]
      congr 1
      simp
      omega
    have gx : (us ++ [x1] ++ [x2])[(us ++ [x1]).length]? = some x2 := List.getElem?_concat_length
    simp only [e2_eq, eV_eq, h6, Option.bind_some, e1_eq, eL_eq, gNeg_int, gIx_ref, q, ix, gx, Option.map_some]) (by omega) (by omega) (by omega) o2
  refine ⟨G3, s3, _, ?_, i3⟩
  unfold b2_law_k01
  rw [sSeq_eq, y1, Option.bind_some]
  simp only []
  rw [sSeq_eq, y2, Option.bind_some]
  simp only []
  exact y3

theorem turn_k01 (ns : List Int) (s : Dr) (g : Mem) (s0 s3 s4 s5 s6 s7 s8 : Option W) (hc : Closed (TM ns s g)) :
    ∃ σ2 s' g', b1_law_k01 [s0, some (.ref 2), some (enc pool01), s3, s4, s5, s6, s7, s8] (TM ns s g) = some (.nx σ2 (TM ns s' g')) ∧ σ2.length = 9 ∧ σ2[1]? = some (some (.ref 2)) ∧ σ2[2]? = some (some (enc pool01)) ∧ Closed (TM ns s' g') := by
  have f1 := lhist_ok ns 12 pool01 s g (by omega) (by omega) (by first | decide | simp) (by first | decide | simp)
  have hp := hist01 ns s
  have hp12 := histD_len ns 12 pool01 s (by omega)
  generalize histD ns 12 pool01 s = q at f1 hp hp12
  obtain ⟨h, s1⟩ := q
  simp only at f1 hp hp12
  have f2 := script_ok ns 40 pool01 s1 g (by omega) (by first | decide | simp) (by first | decide | simp)
  have sp := script01 ns s1
  generalize scrD ns 40 pool01 s1 = q at f2 sp
  obtain ⟨l, s2⟩ := q
  simp only at f2 sp
  have eh : (enc h : W) = .tup [.tup (h.ps.map W.str), .int h.at_] := rfl
  have el : (enc l : W) = .tup (l.map enc) := rfl
  have hh : plV 100 3 (enc h) = true := by
    rw [eh, plV, Bool.and_eq_true, decide_eq_true_eq]
    exact ⟨by first | decide | simp, by rw [List.all_cons, hp]; rfl⟩
  have hl : plV 100 3 (enc l) = true := by rw [el]; exact sp
  have z1 : (sPar [4, 5] [(eN F__law_history [(eV 1), (eL (.int 12)), (eV 2)]), (eN F__law_script [(eV 1), (eL (.int 40)), (eV 2)])]) [s0, some (.ref 2), some (enc pool01), s3, s4, s5, s6, s7, s8] (TM ns s g) =
      some (.nx [s0, some (.ref 2), some (enc pool01), s3, some (enc h), some (enc l), s6, s7, s8] (TM ns s2 g)) := by
    have f1' : F__law_history [W.ref 2, W.int 12, enc pool01] (TM ns s g) = some (enc h, TM ns s1 g) := f1
    have f2' : F__law_script [W.ref 2, W.int 40, enc pool01] (TM ns s1 g) = some (enc l, TM ns s2 g) := f2
    simp [f1', f2']
  have c2 : Closed (TM ns s2 g) := closed_TM hc
  -- the first five, and one more
  have hs : plV 100 1 (.int h.at_) = true := rfl
  have ph : ([W.tup (h.ps.map W.str), W.int h.at_]).all (plV 100 2) = true := by rw [List.all_cons, hp]; rfl
  have pp : (h.ps.map W.str).all (plV 100 1) = true := by
    rw [plV, Bool.and_eq_true] at hp; exact hp.2
  obtain ⟨five, h5⟩ : ∃ five : List W, five = [.tup [.tup (h.ps.map W.str), .int h.at_], .ref (g.length + 3), .tup [.int h.at_, .tup (h.ps.map W.str)], .tup [.tup (h.ps.map W.str), .bl true], .tup [.ref (g.length + 4), .int 0]] := ⟨_, rfl⟩
  obtain ⟨G1, hG1⟩ : ∃ G1 : Mem, G1 = g ++ [.lst [.tup (h.ps.map W.str), .int h.at_]] ++ [.lst (h.ps.map W.str)] ++ [.lst five] := ⟨_, rfl⟩
  have z2 : (sSet (gV 6) (eLst [(eV 4), (eN pList [(eV 4)]), (e1 gRev (eV 4)), (eTup [(e2 gIx (eV 4) (eL (.int 0))), (eL (.bl true))]), (eTup [(eN pList [(e2 gIx (eV 4) (eL (.int 0)))]), (eL (.int 0))])])) [s0, some (.ref 2), some (enc pool01), s3, some (enc h), some (enc l), s6, s7, s8] (TM ns s2 g) =
      some (.nx [s0, some (.ref 2), some (enc pool01), s3, some (enc h), some (enc l), some (.ref (g.length + 2 + 3)), s7, s8] (TM ns s2 G1)) := by
    subst hG1 h5
    simp [eh]
  have cps : W.closeds (g.length + 3) (h.ps.map W.str) = true := cls_of fun w hw => by
    obtain ⟨x, _, rfl⟩ := List.mem_map.mp hw; rfl
  have cps2 : ∀ k, W.closeds k (h.ps.map W.str) = true := fun k => cls_of fun w hw => by
    obtain ⟨x, _, rfl⟩ := List.mem_map.mp hw; rfl
  have i1 : Inv 5 ns s2 G1 (g.length + 2) five := by
    have mk1 : mk (g.length + 2) G1 = g ++ [.lst [.tup (h.ps.map W.str), .int h.at_]] ++ [.lst (h.ps.map W.str)] ++ [.dK []] := by
      subst hG1
      unfold mk
      rw [show g.length + 2 = (g ++ [MO.lst [.tup (h.ps.map W.str), .int h.at_]] ++ [MO.lst (h.ps.map W.str)]).length by simp]
      rw [List.set_append_right _ _ (Nat.le_refl _), Nat.sub_self]; rfl
    refine ⟨?_, by subst h5; simp, ?_, ?_⟩
    · subst hG1
      rw [show g.length + 2 = (g ++ [MO.lst [.tup (h.ps.map W.str), .int h.at_]] ++ [MO.lst (h.ps.map W.str)]).length by simp]
      exact List.getElem?_concat_length
    · rw [mk1]
      have r1 : (g ++ [MO.lst [.tup (h.ps.map W.str), .int h.at_]] ++ [MO.lst (h.ps.map W.str)] ++ [MO.dK []])[g.length]? = some (.lst [.tup (h.ps.map W.str), .int h.at_]) := by simp
      have r2 : (g ++ [MO.lst [.tup (h.ps.map W.str), .int h.at_]] ++ [MO.lst (h.ps.map W.str)] ++ [MO.dK []])[g.length + 1]? = some (.lst (h.ps.map W.str)) := by simp
      generalize (g ++ [MO.lst [.tup (h.ps.map W.str), .int h.at_]] ++ [MO.lst (h.ps.map W.str)] ++ [MO.dK []]) = GG at r1 r2
      subst h5
      intro w hw
      simp only [List.mem_cons, List.not_mem_nil, or_false] at hw
      rcases hw with rfl | rfl | rfl | rfl | rfl
      · exact ok_of_pl (k := 3) (by omega) hh
      · exact ok_ref (k := 2) (B := 0) (by omega) r1 (by first | decide | simp) ph
      · refine ok_of_pl (k := 3) (by omega) ?_
        rw [plV, Bool.and_eq_true, decide_eq_true_eq]
        exact ⟨by first | decide | simp, by rw [List.all_cons, List.all_cons, hp]; rfl⟩
      · refine ok_of_pl (k := 3) (by omega) ?_
        rw [plV, Bool.and_eq_true, decide_eq_true_eq]
        exact ⟨by first | decide | simp, by rw [List.all_cons, hp]; rfl⟩
      · rw [okV, Bool.and_eq_true, decide_eq_true_eq]
        refine ⟨by first | decide | simp, ?_⟩
        have : okV 120 GG 8 (.ref (g.length + 1 + 3)) = true := by
          rw [okV, show g.length + 1 + 3 - 3 = g.length + 1 by omega, r2]
          simp only
          rw [Bool.and_eq_true, Bool.and_eq_true, decide_eq_true_eq, decide_eq_true_eq, List.all_eq_true]
          exact ⟨⟨by omega, by rw [List.length_map]; omega⟩, fun w hw => okV_sub (by omega) (.refl _) 1 _ _ (by omega) (okV_pl (B := 100) 1 w (List.all_eq_true.mp pp w hw))⟩
        rw [List.all_cons, show g.length + 4 = g.length + 1 + 3 by omega, this]; rfl
    · subst hG1
      refine cl_new (s := s2) (cl_new (s := s2) (cl_new (s := s2) c2 ?_) (cps2 _)) ?_
      · simp [W.closeds, W.closed, cps2]
      · subst h5
        simp [W.closeds, W.closed, cps2]
  clear hG1 h5
  -- the rest of the fixed ones
  obtain ⟨σ1, hσ1⟩ : ∃ σ1 : Nat → Sl, σ1 = fun p => [s0, some (.ref 2), some (enc pool01), s3, some (enc h), some (enc l), some (.ref (p + 3)), s7, s8] := ⟨_, rfl⟩
  have set6 : ∀ p p', (σ1 p).set 6 (some (.ref (p' + 3))) = σ1 p' := fun p p' => by subst hσ1; rfl
  have g6 : ∀ p, (σ1 p).getD 6 none = some (.ref (p + 3)) := fun p => by subst hσ1; rfl
  have g5 : ∀ p, (σ1 p).getD 5 none = some (enc l) := fun p => by subst hσ1; rfl
  have g4 : ∀ p, (σ1 p).getD 4 none = some (enc h) := fun p => by subst hσ1; rfl
  have g1 : ∀ p, (σ1 p).getD 1 none = some (.ref 2) := fun p => by subst hσ1; rfl
  have l9 : ∀ p, (σ1 p).length = 9 := fun p => by subst hσ1; rfl
  obtain ⟨G2, z3, i2, _⟩ := stage_app (σ := σ1 (g.length + 2)) (g' := []) (x := .tup [.tup (h.ps.map W.str), .int h.ps.length]) (e := eTup [(e2 gIx (eV 4) (eL (.int 0))), (eN pLen [(e2 gIx (eV 4) (eL (.int 0)))])]) (s' := s2) i1 (by omega) (g6 _) (by
      subst hσ1
      simp [eh]) (by
      refine ok_of_pl (k := 3) (by omega) ?_
      rw [plV, Bool.and_eq_true, decide_eq_true_eq]
      exact ⟨by first | decide | simp, by rw [List.all_cons, hp]; rfl⟩) (by rw [List.append_nil]; exact i1.cl)
  generalize g.length + 2 = p at *
  have add : ∀ {n : Nat} {G m1 : Mem} {p : Nat} {us : List W} (es : List CE) (ls : List W), Inv n ns s2 G p us → n ≤ 900 → eArgs es (σ1 p) (TM ns s2 G) = some (ls, TM ns s2 (G ++ m1)) → ls.length ≤ 20 → (∀ w ∈ ls, okV 120 (mk p G ++ m1) 9 w = true) → Closed (TM ns s2 (G ++ m1)) →
      ∃ G' p', (sSet (gV 6) (e2 gAdd (eV 6) (eLst es))) (σ1 p) (TM ns s2 G) = some (.nx (σ1 p') (TM ns s2 G')) ∧ Inv (n + 20) ns s2 G' p' (us ++ ls) := fun {n G m1 p us} es ls i hn he hl hk hc => by
    obtain ⟨G', p', a, b⟩ := stage_add i (by omega) (g6 p) he hl hk hc
    refine ⟨G', p', ?_, b⟩
    rw [sSet_eq, a, Option.bind_some, gV_eq, Option.bind_some, set6]
  have nil : ∀ {G : Mem} {ls : List W} (es : List CE) (p : Nat), (∀ σ M, eArgs es σ M = some (ls, M)) → eArgs es (σ1 p) (TM ns s2 G) = some (ls, TM ns s2 (G ++ [])) := fun es p he => by rw [List.append_nil]; exact he _ _
  have cnil : ∀ {G : Mem}, Closed (TM ns s2 G) → Closed (TM ns s2 (G ++ [])) := fun h => by rw [List.append_nil]; exact h
  obtain ⟨G3, p3, z4, i3⟩ := add _ _ i2 (by omega) (nil _ _ lit1) (by first | decide | simp) (lits 0 _ _ _ (by first | decide | simp)) (cnil i2.cl)
  obtain ⟨G4, p4, z5, i4⟩ := add _ _ i3 (by omega) (nil _ _ lit2) (by first | decide | simp) (lits 0 _ _ _ (by first | decide | simp)) (cnil i3.cl)
  obtain ⟨G5, p5, z6, i5⟩ := add (m1 := [.lst (l.map enc)]) _ _ i4 (by omega) (by
      have := lit3 (σ1 p4) (TM ns s2 G4) (l.map enc) (by rw [g5, el])
      exact this) (by first | decide | simp) (by
      have r : (mk p4 G4 ++ [MO.lst (l.map enc)])[G4.length]? = some (.lst (l.map enc)) := by
        rw [← mk_len p4 G4]; exact List.getElem?_concat_length
      intro w hw
      simp only [List.mem_cons, List.not_mem_nil, or_false] at hw
      rcases hw with rfl | rfl | rfl | rfl
      · exact ok_of_pl (k := 3) (by omega) sp
      · rw [plV, Bool.and_eq_true, decide_eq_true_eq] at sp
        exact ok_ref (k := 2) (B := 0) (by omega) r (by omega) sp.2
      · exact ok_of_pl (k := 3) (by omega) (by first | decide | simp)
      · exact ok_of_pl (k := 3) (by omega) (by first | decide | simp)) (cl_new i4.cl (cls_of fun w hw => by
        obtain ⟨x, _, rfl⟩ := List.mem_map.mp hw
        exact enc_closed x _))
  obtain ⟨G6, p6, z7, i6⟩ := add _ _ i5 (by omega) (nil _ _ lit4) (by first | decide | simp) (lits 0 _ _ _ (by first | decide | simp)) (cnil i5.cl)
  obtain ⟨G7, p7, z8, i7⟩ := add (m1 := [.lst [.str "back"]]) _ _ i6 (by omega) (lit5 (σ1 p6) (TM ns s2 G6)) (by first | decide | simp) (by
      have r : (mk p6 G6 ++ [MO.lst [W.str "back"]])[G6.length]? = some (.lst [.str "back"]) := by
        rw [← mk_len p6 G6]; exact List.getElem?_concat_length
      intro w hw
      simp only [List.mem_cons, List.not_mem_nil, or_false] at hw
      rcases hw with rfl | rfl | rfl | rfl | rfl
      · exact ok_of_pl (k := 3) (by omega) (by first | decide | simp)
      · rw [okV, Bool.and_eq_true, decide_eq_true_eq]
        refine ⟨by first | decide | simp, ?_⟩
        have : okV 120 (mk p6 G6 ++ [MO.lst [W.str "back"]]) 8 (.ref (G6.length + 3)) = true := by
          rw [okV, show G6.length + 3 - 3 = G6.length by omega, r]
          simp only
          rw [Bool.and_eq_true, Bool.and_eq_true, decide_eq_true_eq, decide_eq_true_eq]
          exact ⟨⟨by omega, by simp⟩, by show (decide (Str.length "back" ≤ 120) && true) = true; decide⟩
        rw [List.all_cons, TM_length, this]; rfl
      · exact ok_of_pl (k := 3) (by omega) (by first | decide | simp)
      · exact ok_of_pl (k := 3) (by omega) (by first | decide | simp)
      · exact ok_of_pl (k := 3) (by omega) (by first | decide | simp)) (cl_new i6.cl rfl)
  -- nine times three spoiled ones
  have key := forL_ind (gd := gdT) (g := gV 7) (body := b2_law_k01) (rangeW 0 9) (fun i σ M => ∃ s G us, M = TM ns s G ∧ Inv (106 + 3 * i) ns s G p7 us ∧ ∃ v, σ = (σ1 p7).set 7 v)
    (σ := σ1 p7) (M := TM ns s2 G7) ⟨s2, G7, _, rfl, ⟨i7.get, i7.len, i7.ok, i7.cl⟩, s7, by subst hσ1; rfl⟩ (fun _ _ _ _ => rfl) (by
      intro i w σ M hw ⟨s, G, us, hM, hi, v, hσ⟩
      subst hM hσ
      have hi9 := (rangeW_get hw).1
      have gs : ∀ j, j ≠ 7 → (((σ1 p7).set 7 v).set 7 (some w)).getD j none = (σ1 p7).getD j none := fun j hj => by
        rw [List.set_set, List.getD_eq_getElem?_getD, List.getElem?_set_ne (by omega), ← List.getD_eq_getElem?_getD]
      obtain ⟨G', s', us', e, i'⟩ := spoil_k01 hh hl (σ := ((σ1 p7).set 7 v).set 7 (some w)) hi (by omega) (by rw [gs 1 (by omega), g1]) (by rw [gs 4 (by omega), g4]) (by rw [gs 5 (by omega), g5]) (by rw [gs 6 (by omega), g6])
      refine ⟨_, gV_eq 7 w, _, _, .inl e, s', G', us', rfl, ?_, some w, List.set_set _⟩
      rw [show 106 + 3 * (i + 1) = 106 + 3 * i + 3 by omega]; exact i')
  obtain ⟨σ8, M8, z9, s8', G8, us8, hM8, i8, v, hσ8⟩ := key
  subst hM8 hσ8
  rw [rangeW_length] at i8
  have sm9 : small62 9 = true := by first | decide | simp
  have z9' : (sFor (iRange1 (eL (.int 9))) (gV 7) b2_law_k01) (σ1 p7) (TM ns s2 G7) = some (.nx ((σ1 p7).set 7 v) (TM ns s8' G8)) := by
    simp only [sFor_eq, iRange1_eq, eL_eq, Option.bind_some, sm9, if_true]
    exact z9
  -- one arbitrary, and all are asked
  have gs : ∀ j, j ≠ 7 → ((σ1 p7).set 7 v).getD j none = (σ1 p7).getD j none := fun j hj => by
    rw [List.getD_eq_getElem?_getD, List.getElem?_set_ne (by omega), ← List.getD_eq_getElem?_getD]
  obtain ⟨x, s9, g9, y1, y2, y3⟩ := any_ok (B := 120) (by omega) ns 8 2 s8' G8 (mk p7 G8) (by omega) (mk_len _ _) i8.cl
  obtain ⟨G9, p9, z10, i9⟩ := stage_add (σ := (σ1 p7).set 7 v) (es := [(eN (F__law_any 8) [(eV 1), (eL (.int 2))])]) (ls := [x]) (m1 := g9) (s' := s9) i8 (by omega) (by rw [gs 6 (by omega), g6]) (by
      have y1' : F__law_any 8 [W.ref 2, W.int 2] (TM ns s8' G8) = some (x, TM ns s9 (G8 ++ g9)) := y1
      simp only [eArgs_cons, eArgs_nil, eN_eq, eV_eq, gs 1 (by omega), g1, eL_eq, Option.bind_some, y1']) (by first | decide | simp) (fun w hw => by
      rw [List.mem_singleton.mp hw]; exact okV_sub (by omega) (.refl _) _ _ _ (by omega) y2) y3
  have ok9 : ∀ w ∈ us8 ++ [x], okV 120 G9 9 w = true := fun w hw => okV_sub (by omega) (sbm_mk p9 G9) _ _ _ (by omega) (i9.ok w hw)
  have q9 : (TM ns s9 G9)[p9 + 3]? = some (.lst (us8 ++ [x])) := by rw [TM_get3]; exact i9.get
  have keyB := forL_ind (gd := fun M' => decide (M'[p9 + 3]? = some (.lst (us8 ++ [x])))) (g := gV 8) (body := b3_law_k01) (us8 ++ [x]) (fun i σ M => M = TM ns s9 G9 ∧ ∃ u, σ = ((σ1 p7).set 7 v).set 8 u)
    (σ := (σ1 p7).set 7 v) (M := TM ns s9 G9) ⟨rfl, s8, by subst hσ1; rfl⟩ (fun i σ M ⟨hM, _⟩ => by subst hM; exact decide_eq_true q9) (by
      intro i w σ M hw ⟨hM, u, hσ⟩
      subst hM hσ
      refine ⟨_, gV_eq 8 w, _, _, .inl (one_k01 ?_ (ok9 w (List.mem_of_getElem? hw))), rfl, some w, List.set_set _⟩
      rw [List.set_set, List.getD_eq_getElem?_getD, List.getElem?_set_self (by rw [List.length_set, l9]; omega)]; rfl)
  obtain ⟨σ9, M9, z11, hM9, u, hσ9⟩ := keyB
  subst hM9 hσ9
  have z11' : (sFor (iLst (e2 gAdd (eV 6) (eLst [(eN (F__law_any 8) [(eV 1), (eL (.int 2))])]))) (gV 8) b3_law_k01) ((σ1 p7).set 7 v) (TM ns s8' G8) = some (.nx (((σ1 p7).set 7 v).set 8 u) (TM ns s9 G9)) := by
    rw [sFor_eq, iLst_eq, z10]
    simp only [Option.bind_some, q9]
    exact z11
  refine ⟨((σ1 p7).set 7 v).set 8 u, s9, G9, ?_, ?_, ?_, ?_, i9.cl⟩
  rotate_left
  · rw [List.length_set, List.length_set, l9]
  · subst hσ1; rfl
  · subst hσ1; rfl
  · unfold b1_law_k01
    have eσ : ([s0, some (.ref 2), some (enc pool01), s3, some (enc h), some (enc l), some (.ref (p + 3)), s7, s8] : Sl) = σ1 p := by subst hσ1; rfl
    rw [eσ] at z2
    rw [sSeq_eq, z1, Option.bind_some]
    simp only []
    rw [sSeq_eq, z2, Option.bind_some]
    simp only []
    rw [sSeq_eq, z3, Option.bind_some]
    simp only []
    rw [sSeq_eq, z4, Option.bind_some]
    simp only []
    rw [sSeq_eq, z5, Option.bind_some]
    simp only []
    rw [sSeq_eq, z6, Option.bind_some]
    simp only []
    rw [sSeq_eq, z7, Option.bind_some]
    simp only []
    rw [sSeq_eq, z8, Option.bind_some]
    simp only []
    rw [sSeq_eq, z9', Option.bind_some]
    exact z11'

theorem keeps_law_k01 : Keeps 9 c_law_k01 lawF := by
  refine keeps_lawT fun ns hl => ?_
  have c0 : Closed (TM ns (0, 0) []) := by
    intro mo hm
    rcases List.mem_cons.mp hm with rfl | hm
    · exact closeds_ints ns _
    rcases List.mem_cons.mp hm with rfl | hm
    · exact closeds_ints ns _
    rcases List.mem_cons.mp hm with rfl | hm
    · show W.closeds _ [.ref 1, .int 0, .int 0] = true
      simp [W.closeds, W.closed, TM]
    · cases hm
  have key := forL_ind (gd := gdT) (g := gV 3) (body := b1_law_k01) (rangeW 0 4) (fun _ σ M => ∃ s g, M = TM ns s g ∧ σ.length = 9 ∧ σ[1]? = some (some (.ref 2)) ∧ σ[2]? = some (some (enc pool01)) ∧ Closed (TM ns s g))
    (σ := [some (.ref 0), some (.ref 2), some (enc pool01), none, none, none, none, none, none]) (M := TM ns (0, 0) []) ⟨_, _, rfl, rfl, rfl, rfl, c0⟩ (fun _ _ _ _ => rfl) (by
    intro i w σ M _ ⟨s, g, hM, hl, h1, h2, hc⟩
    subst hM
    match σ, hl, h1, h2 with
    | [s0, s1, s2, s3, s4, s5, s6, s7, s8], _, h1, h2 =>
      cases h1; cases h2
      obtain ⟨σ2, s', g', e, l1, l2, l3, l4⟩ := turn_k01 ns s g s0 (some w) s4 s5 s6 s7 s8 hc
      exact ⟨_, rfl, σ2, _, .inl e, s', g', rfl, l1, l2, l3, l4⟩)
  obtain ⟨σ', M', e, s, g, hM, _⟩ := key
  subst hM
  refine ⟨s, g, ?_⟩
  have kl : ns.length ≤ 16777216 := by omega
  have sm4 : small62 4 = true := by decide
  have e0 : List.replicate (9 - 1) (none : Option W) = [none, none, none, none, none, none, none, none] := rfl
  rw [e0]
  have z0 := law_tape (R := sSeq (sSet (gV 2) (eTup [(eL (.str "a")), (eL (.str "bc")), (eL (.str "zzzzzzzz"))])) (sSeq (sFor (iRange1 (eL (.int 4))) (gV 3) b1_law_k01) (sRet (eL (.bl true))))) (n := 7) (ns := ns) hl
  have e7 : List.replicate 7 (none : Option W) = [none, none, none, none, none, none, none] := rfl
  rw [e7] at z0
  have z1 : (sSet (gV 2) (eTup [(eL (.str "a")), (eL (.str "bc")), (eL (.str "zzzzzzzz"))])) [some (.ref 0), some (.ref 2), none, none, none, none, none, none, none] (TM ns (0, 0) []) = some (.nx [some (.ref 0), some (.ref 2), some (enc pool01), none, none, none, none, none, none] (TM ns (0, 0) [])) := by
    simp [enc_list]
  have z2 : (sFor (iRange1 (eL (.int 4))) (gV 3) b1_law_k01) [some (.ref 0), some (.ref 2), some (enc pool01), none, none, none, none, none, none] (TM ns (0, 0) []) = some (.nx σ' (TM ns s g)) := by
    simp only [sFor_eq, iRange1_eq, eL_eq, Option.bind_some, sm4, if_true]
    exact e
  unfold c_law_k01
  refine z0.trans ?_
  rw [sSeq_eq, z1, Option.bind_some]
  simp only []
  rw [sSeq_eq, z2, Option.bind_some]
  rfl
end BF

namespace BF
open PySem PySem.Spec
open PyProof.Rows L2
/-! ### the text of k01 -/
def topS (i : Nat) : Stmt := PySem.Challenge.pw_backforward_k01_history_and_script_value.main.body.getD i (.Pass ⟨0, 0, 0, 0⟩)
abbrev s__law_draw : Stmt := topS 10
theorem sc__law_draw : FnScope N__law_draw ["tape", "many"] (defScope s__law_draw) := ⟨rfl, rfl, rfl, by decide +kernel, rfl, by decide +kernel, by decide +kernel⟩
theorem bi__law_draw : BindsAll "_law_draw" s__law_draw ["tape", "many"] := fun _ _ _ _ _ _ us hl => match us, hl with | [_, _], _ => rfl
abbrev s__law_history : Stmt := topS 16
theorem sc__law_history : FnScope N__law_history ["tape", "most", "pool"] (defScope s__law_history) := ⟨rfl, rfl, rfl, by decide +kernel, rfl, by decide +kernel, by decide +kernel⟩
theorem bi__law_history : BindsAll "_law_history" s__law_history ["tape", "most", "pool"] := fun _ _ _ _ _ _ us hl => match us, hl with | [_, _, _], _ => rfl
abbrev s__law_action : Stmt := topS 17
theorem sc__law_action : FnScope N__law_action ["tape", "pool"] (defScope s__law_action) := ⟨rfl, rfl, rfl, by decide +kernel, rfl, by decide +kernel, by decide +kernel⟩
theorem bi__law_action : BindsAll "_law_action" s__law_action ["tape", "pool"] := fun _ _ _ _ _ _ us hl => match us, hl with | [_, _], _ => rfl
abbrev s__law_script : Stmt := topS 18
theorem sc__law_script : FnScope N__law_script ["tape", "most", "pool"] (defScope s__law_script) := ⟨rfl, rfl, rfl, by decide +kernel, rfl, by decide +kernel, by decide +kernel⟩
theorem bi__law_script : BindsAll "_law_script" s__law_script ["tape", "most", "pool"] := fun _ _ _ _ _ _ us hl => match us, hl with | [_, _, _], _ => rfl
abbrev s__law_any : Stmt := topS 15
theorem sc__law_any : FnScope N__law_any ["tape", "deep"] (defScope s__law_any) := ⟨rfl, rfl, rfl, by decide +kernel, rfl, by decide +kernel, by decide +kernel⟩
theorem bi__law_any : BindsAll "_law_any" s__law_any ["tape", "deep"] := fun _ _ _ _ _ _ us hl => match us, hl with | [_, _], _ => rfl
abbrev s__law_whole : Stmt := topS 11
theorem sc__law_whole : FnScope N__law_whole ["item"] (defScope s__law_whole) := ⟨rfl, rfl, rfl, by decide +kernel, rfl, by decide +kernel, by decide +kernel⟩
theorem bi__law_whole : BindsAll "_law_whole" s__law_whole ["item"] := fun _ _ _ _ _ _ us hl => match us, hl with | [_], _ => rfl
abbrev s__law_spoilt : Stmt := topS 14
theorem sc__law_spoilt : FnScope N__law_spoilt ["tape", "item"] (defScope s__law_spoilt) := ⟨rfl, rfl, rfl, by decide +kernel, rfl, by decide +kernel, by decide +kernel⟩
theorem bi__law_spoilt : BindsAll "_law_spoilt" s__law_spoilt ["tape", "item"] := fun _ _ _ _ _ _ us hl => match us, hl with | [_, _], _ => rfl
abbrev s__law_like : Stmt := topS 13
theorem sc__law_like : FnScope N__law_like ["one", "two"] (defScope s__law_like) := ⟨rfl, rfl, rfl, by decide +kernel, rfl, by decide +kernel, by decide +kernel⟩
theorem bi__law_like : BindsAll "_law_like" s__law_like ["one", "two"] := fun _ _ _ _ _ _ us hl => match us, hl with | [_, _], _ => rfl
abbrev s_is_page : Stmt := topS 4
theorem sc_is_page : FnScope N_is_page ["value"] (defScope s_is_page) := ⟨rfl, rfl, rfl, by decide +kernel, rfl, by decide +kernel, by decide +kernel⟩
theorem bi_is_page : BindsAll "is_page" s_is_page ["value"] := fun _ _ _ _ _ _ us hl => match us, hl with | [_], _ => rfl
abbrev s_is_index : Stmt := topS 5
theorem sc_is_index : FnScope N_is_index ["value", "count"] (defScope s_is_index) := ⟨rfl, rfl, rfl, by decide +kernel, rfl, by decide +kernel, by decide +kernel⟩
theorem bi_is_index : BindsAll "is_index" s_is_index ["value", "count"] := fun _ _ _ _ _ _ us hl => match us, hl with | [_, _], _ => rfl
abbrev s_is_history : Stmt := topS 6
theorem sc_is_history : FnScope N_is_history ["value"] (defScope s_is_history) := ⟨rfl, rfl, rfl, by decide +kernel, rfl, by decide +kernel, by decide +kernel⟩
theorem bi_is_history : BindsAll "is_history" s_is_history ["value"] := fun _ _ _ _ _ _ us hl => match us, hl with | [_], _ => rfl
abbrev s__law_is_page : Stmt := topS 19
theorem sc__law_is_page : FnScope N__law_is_page ["item"] (defScope s__law_is_page) := ⟨rfl, rfl, rfl, by decide +kernel, rfl, by decide +kernel, by decide +kernel⟩
theorem bi__law_is_page : BindsAll "_law_is_page" s__law_is_page ["item"] := fun _ _ _ _ _ _ us hl => match us, hl with | [_], _ => rfl
abbrev s__law_within : Stmt := topS 12
theorem sc__law_within : FnScope N__law_within ["item", "low", "high"] (defScope s__law_within) := ⟨rfl, rfl, rfl, by decide +kernel, rfl, by decide +kernel, by decide +kernel⟩
theorem bi__law_within : BindsAll "_law_within" s__law_within ["item", "low", "high"] := fun _ _ _ _ _ _ us hl => match us, hl with | [_, _, _], _ => rfl
abbrev s__law_is_history : Stmt := topS 20
theorem sc__law_is_history : FnScope N__law_is_history ["item"] (defScope s__law_is_history) := ⟨rfl, rfl, rfl, by decide +kernel, rfl, by decide +kernel, by decide +kernel⟩
theorem bi__law_is_history : BindsAll "_law_is_history" s__law_is_history ["item"] := fun _ _ _ _ _ _ us hl => match us, hl with | [_], _ => rfl
abbrev s_is_action : Stmt := topS 7
theorem sc_is_action : FnScope N_is_action ["value"] (defScope s_is_action) := ⟨rfl, rfl, rfl, by decide +kernel, rfl, by decide +kernel, by decide +kernel⟩
theorem bi_is_action : BindsAll "is_action" s_is_action ["value"] := fun _ _ _ _ _ _ us hl => match us, hl with | [_], _ => rfl
abbrev s_is_script : Stmt := topS 8
theorem sc_is_script : FnScope N_is_script ["value"] (defScope s_is_script) := ⟨rfl, rfl, rfl, by decide +kernel, rfl, by decide +kernel, by decide +kernel⟩
theorem bi_is_script : BindsAll "is_script" s_is_script ["value"] := fun _ _ _ _ _ _ us hl => match us, hl with | [_], _ => rfl
abbrev s__law_is_action : Stmt := topS 21
theorem sc__law_is_action : FnScope N__law_is_action ["item"] (defScope s__law_is_action) := ⟨rfl, rfl, rfl, by decide +kernel, rfl, by decide +kernel, by decide +kernel⟩
theorem bi__law_is_action : BindsAll "_law_is_action" s__law_is_action ["item"] := fun _ _ _ _ _ _ us hl => match us, hl with | [_], _ => rfl
abbrev s__law_is_script : Stmt := topS 22
theorem sc__law_is_script : FnScope N__law_is_script ["item"] (defScope s__law_is_script) := ⟨rfl, rfl, rfl, by decide +kernel, rfl, by decide +kernel, by decide +kernel⟩
theorem bi__law_is_script : BindsAll "_law_is_script" s__law_is_script ["item"] := fun _ _ _ _ _ _ us hl => match us, hl with | [_], _ => rfl
abbrev s_law : Stmt := topS 23
theorem sc_law : FnScope N_law_k01 ["script"] (defScope s_law) := ⟨rfl, rfl, rfl, by decide +kernel, rfl, by decide +kernel, by decide +kernel⟩
theorem bi_law : BindsAll "law" s_law ["script"] := fun _ _ _ _ _ _ us hl => match us, hl with | [_], _ => rfl
section
variable {P : Program} {w : World} {K : PySem.W.Frag} {mg : Str → Option Value} {base : Heap}
theorem kn__law_draw (D : DefAt K mg "_law_draw" s__law_draw) (z_len : mg "len" = none) : Known P w K mg base 1 "_law_draw" ["tape", "many"] F__law_draw :=
  known D sc__law_draw bi__law_draw keeps__law_draw fun f cdv A outer s H E hr =>
  (ss_cons (s_set 2 sc__law_draw.nd r_int)
  (ss_cons (s_if (t_cmp op_lt l_lt (r_ix ix_seq l_ix (r_var 0) r_int) (r_var 1) (nomark _)) (ss_cons (s_set 3 sc__law_draw.nd r_int)
  (ss_cons (s_if (t_cmp op_gt l_gt (r_callB call_len_seq n_len (by rfl) z_len (by decide +kernel) (a_cons (r_ix ix_seq l_ix (r_var 0) r_int) a_nil)) r_int (nomark _)) (ss_one (s_set 3 sc__law_draw.nd (r_ix ix_seq l_ix (r_ix ix_seq l_ix (r_var 0) r_int) (r_op op_mod l_mod (r_ix ix_seq l_ix (r_var 0) r_int) (r_callB call_len_seq n_len (by rfl) z_len (by decide +kernel) (a_cons (r_ix ix_seq l_ix (r_var 0) r_int) a_nil)))))) ss_nil)
  (ss_cons (s_if (t_w (w_or (t_cmp op_ge l_ge (r_ix ix_seq l_ix (r_var 0) r_int) (r_callB call_len_seq n_len (by rfl) z_len (by decide +kernel) (a_cons (r_ix ix_seq l_ix (r_var 0) r_int) a_nil)) (nomark _)) (w_one (t_cmp op_lt l_lt (r_var 3) (r_op op_pow l_pow r_int r_int) (nomark _))))) (ss_cons (s_set 3 sc__law_draw.nd (r_op op_mod l_mod (r_op o_add l_add (r_var 3) (r_op op_mul l_mul r_int (r_ix ix_seq l_ix (r_var 0) r_int))) (r_var 2)))
  (ss_cons (s_set 3 sc__law_draw.nd (r_op op_mod l_mod (r_op o_add l_add (r_op o_add l_add (r_op op_mul l_mul (r_var 3) (r_var 3)) (r_op op_mul l_mul r_int (r_var 3))) r_int) (r_var 2)))
  (ss_one (s_set 3 sc__law_draw.nd (r_op op_mod l_mod (r_op o_add l_add (r_op op_mul l_mul (r_var 3) (r_var 3)) r_int) (r_var 2)))))) ss_nil)
  (ss_cons (s_put set_list p_lst (r_op o_add l_add (r_ix ix_seq l_ix (r_var 0) r_int) r_int) (r_var 0) r_int)
  (ss_one (s_put set_list p_lst (r_var 3) (r_var 0) r_int)))))) ss_nil)
  (ss_cons (s_set 4 sc__law_draw.nd (r_op op_mod l_mod (r_ix ix_seq l_ix (r_var 0) r_int) (r_var 1)))
  (ss_cons (s_put set_list p_lst (r_op op_fdivW l_div (r_ix ix_seq l_ix (r_var 0) r_int) (r_var 1)) (r_var 0) r_int)
  (ss_one (s_ret (r_var 4)))))))
theorem kn__law_history (D : DefAt K mg "_law_history" s__law_history) (G__law_draw : Known P w K mg base 1 "_law_draw" ["tape", "many"] F__law_draw) (z_tuple : mg "tuple" = none) (z_range : mg "range" = none) (z_len : mg "len" = none) : Known P w K mg base 2 "_law_history" ["tape", "most", "pool"] F__law_history :=
  known D sc__law_history bi__law_history keeps__law_history fun f cdv A outer s H E hr =>
  (ss_cons (s_set 3 sc__law_history.nd (r_op o_add l_add r_int (r_callK G__law_draw (hr.mono (by decide)) (by rfl) (a_cons (r_var 0) (a_cons (r_var 1) a_nil)))))
  (ss_cons (s_set 4 sc__law_history.nd (r_callTy call_tuple_of n_tuple (by rfl) z_tuple (by decide +kernel) (a_cons (r_lc (own := [("k", 5)]) sc__law_history.nd (i_range1 (by rfl) z_range (a_cons (r_var 3) a_nil)) (by kernel_rfl) (fun _ _ _ _ _ => (gw_name 5 sc__law_history.nd)) (fun _ _ _ _ _ => ts_nil) (fun _ _ _ _ _ => (r_ix ix_seq l_ix (r_var 2) (r_callK G__law_draw (hr.mono (by decide)) (by rfl) (a_cons (r_var 0) (a_cons (r_callB call_len_seq n_len (by rfl) z_len (by decide +kernel) (a_cons (r_var 2) a_nil)) a_nil)))))) a_nil)))
  (ss_one (s_ret (r_tup (a_cons (r_var 4) (a_cons (r_callK G__law_draw (hr.mono (by decide)) (by rfl) (a_cons (r_var 0) (a_cons (r_var 3) a_nil))) a_nil)))))))
theorem kn__law_action (D : DefAt K mg "_law_action" s__law_action) (G__law_draw : Known P w K mg base 1 "_law_draw" ["tape", "many"] F__law_draw) (z_len : mg "len" = none) : Known P w K mg base 2 "_law_action" ["tape", "pool"] F__law_action :=
  known D sc__law_action bi__law_action keeps__law_action fun f cdv A outer s H E hr =>
  (ss_cons (s_set 2 sc__law_action.nd (r_callK G__law_draw (hr.mono (by decide)) (by rfl) (a_cons (r_var 0) (a_cons r_int a_nil))))
  (ss_one (s_ret (r_ix ix_seq l_ix (r_lst (a_cons (r_tup (a_cons r_str a_nil)) (a_cons (r_tup (a_cons r_str a_nil)) (a_cons (r_tup (a_cons r_str a_nil)) (a_cons (r_tup (a_cons r_str (a_cons (r_ix ix_seq l_ix (r_var 1) (r_callK G__law_draw (hr.mono (by decide)) (by rfl) (a_cons (r_var 0) (a_cons (r_callB call_len_seq n_len (by rfl) z_len (by decide +kernel) (a_cons (r_var 1) a_nil)) a_nil)))) a_nil))) a_nil))))) (r_var 2)))))
theorem kn__law_script (D : DefAt K mg "_law_script" s__law_script) (G__law_draw : Known P w K mg base 1 "_law_draw" ["tape", "many"] F__law_draw) (G__law_action : Known P w K mg base 2 "_law_action" ["tape", "pool"] F__law_action) (z_tuple : mg "tuple" = none) (z_range : mg "range" = none) : Known P w K mg base 3 "_law_script" ["tape", "most", "pool"] F__law_script :=
  known D sc__law_script bi__law_script keeps__law_script fun f cdv A outer s H E hr =>
  (ss_one (s_ret (r_callTy call_tuple_of n_tuple (by rfl) z_tuple (by decide +kernel) (a_cons (r_lc (own := [("k", 3)]) sc__law_script.nd (i_range1 (by rfl) z_range (a_cons (r_callK G__law_draw (hr.mono (by decide)) (by rfl) (a_cons (r_var 0) (a_cons (r_op o_add l_add (r_var 1) r_int) a_nil))) a_nil)) (by kernel_rfl) (fun _ _ _ _ _ => (gw_name 3 sc__law_script.nd)) (fun _ _ _ _ _ => ts_nil) (fun _ _ _ _ _ => (r_callK G__law_action (hr.mono (by decide)) (by rfl) (a_cons (r_var 0) (a_cons (r_var 2) a_nil))))) a_nil))))
theorem kn__law_any (D : DefAt K mg "_law_any" s__law_any) (G__law_draw : Known P w K mg base 1 "_law_draw" ["tape", "many"] F__law_draw) (z_range : mg "range" = none) (z_tuple : mg "tuple" = none) (z_max : mg "max" = none) : ∀ d : Nat, Known P w K mg base (d + 2) "_law_any" ["tape", "deep"] (F__law_any d)
  | 0 => known0 D sc__law_any bi__law_any (fun ws M => F0__law_any ws M)
  | d + 1 => by
    have R := kn__law_any D G__law_draw z_range z_tuple z_max d
    exact known D sc__law_any bi__law_any (keeps__law_any d) fun f cdv A outer s H E hr =>
  (ss_cons (s_set 2 sc__law_any.nd (r_callK G__law_draw (hr.mono (by omega)) (by rfl) (a_cons (r_var 0) (a_cons r_int a_nil))))
  (ss_cons (s_if (t_w (w_and (t_cmp op_lt l_lt (r_var 2) r_int (nomark _)) (w_one (t_cmp op_gt l_gt (r_var 1) r_int (nomark _))))) (ss_cons (s_setLc 3 (own := [("k", 4)]) sc__law_any.nd (i_range1 (by rfl) z_range (a_cons (r_callK G__law_draw (hr.mono (by omega)) (by rfl) (a_cons (r_var 0) (a_cons r_int a_nil))) a_nil)) (by kernel_rfl) (fun _ _ _ _ _ => (gw_name 4 sc__law_any.nd)) (fun _ _ _ _ _ => ts_nil) (fun _ _ _ _ _ => (r_callK R (hr.mono (by omega)) (by rfl) (a_cons (r_var 0) (a_cons (r_op op_sub l_sub (r_var 1) r_int) a_nil)))))
  (ss_one (s_ret (r_ix ix_seq l_ix (r_lst (a_cons (r_var 3) (a_cons (r_callTy call_tuple_of n_tuple (by rfl) z_tuple (by decide +kernel) (a_cons (r_var 3) a_nil)) (a_cons (r_callTy call_tuple_of n_tuple (by rfl) z_tuple (by decide +kernel) (a_cons (r_var 3) a_nil)) (a_cons (r_callTy call_tuple_of n_tuple (by rfl) z_tuple (by decide +kernel) (a_cons (r_var 3) a_nil)) a_nil))))) (r_var 2))))) ss_nil)
  (ss_cons (s_if (t_cmp op_lt l_lt (r_var 2) r_int (nomark _)) (ss_one (s_ret (r_ix ix_seq l_ix (r_lst (a_cons (r_op op_sub l_sub (r_callK G__law_draw (hr.mono (by omega)) (by rfl) (a_cons (r_var 0) (a_cons r_int a_nil))) r_int) (a_cons (r_callK G__law_draw (hr.mono (by omega)) (by rfl) (a_cons (r_var 0) (a_cons (r_op op_pow l_pow r_int r_int) a_nil))) (a_cons r_int (a_cons r_int a_nil))))) (r_callB (call_max2 rfl) n_max (by rfl) z_max (by decide +kernel) (a_cons r_int (a_cons (r_op op_sub l_sub (r_var 2) r_int) a_nil)))))) ss_nil)
  (ss_cons (s_set 3 sc__law_any.nd (r_lst (a_cons r_str (a_cons r_str (a_cons r_str (a_cons r_str (a_cons r_str (a_cons r_str (a_cons r_str a_nil)))))))))
  (ss_one (s_ret (r_ix ix_seq l_ix (r_lst (a_cons r_bl (a_cons r_bl (a_cons r_non (a_cons (r_ix ix_seq l_ix (r_var 3) (r_callK G__law_draw (hr.mono (by omega)) (by rfl) (a_cons (r_var 0) (a_cons r_int a_nil)))) (a_cons (r_tup (a_cons r_int (a_cons r_int a_nil))) a_nil)))))) (r_op op_sub l_sub (r_var 2) r_int))))))))
theorem kn__law_whole (D : DefAt K mg "_law_whole" s__law_whole) (z_isinstance : mg "isinstance" = none) (z_int : mg "int" = none) (z_bool : mg "bool" = none) : Known P w K mg base 1 "_law_whole" ["item"] F__law_whole :=
  known D sc__law_whole bi__law_whole keeps__law_whole fun f cdv A outer s H E hr =>
  (ss_one (s_ret (r_and (r_isi "int" (by simp) (by rfl) z_isinstance (by rfl) z_int (by decide +kernel) (r_var 0)) (r_one (r_not (r_isi "bool" (by simp) (by rfl) z_isinstance (by rfl) z_bool (by decide +kernel) (r_var 0)))))))
theorem kn__law_spoilt (D : DefAt K mg "_law_spoilt" s__law_spoilt) (G__law_draw : Known P w K mg base 1 "_law_draw" ["tape", "many"] F__law_draw) (G__law_any : Known P w K mg base 10 "_law_any" ["tape", "deep"] (F__law_any 8)) (G__law_whole : Known P w K mg base 1 "_law_whole" ["item"] F__law_whole) (z_isinstance : mg "isinstance" = none) (z_tuple : mg "tuple" = none) (z_list : mg "list" = none) (z_len : mg "len" = none) (z_str : mg "str" = none) : ∀ d : Nat, Known P w K mg base (d + 11) "_law_spoilt" ["tape", "item"] (F__law_spoilt d)
  | 0 => known0 D sc__law_spoilt bi__law_spoilt (fun ws M => F0__law_spoilt ws M)
  | d + 1 => by
    have R := kn__law_spoilt D G__law_draw G__law_any G__law_whole z_isinstance z_tuple z_list z_len z_str d
    exact known D sc__law_spoilt bi__law_spoilt (keeps__law_spoilt d) fun f cdv A outer s H E hr =>
  (ss_cons (s_if (t_w (w_and (t_val (r_isi2 "tuple" "list" (by simp) (by simp) (by rfl) z_isinstance (by rfl) z_tuple (by decide +kernel) (by rfl) z_list (by decide +kernel) (r_var 1))) (w_and (t_cmp op_gt l_gt (r_callB call_len_seq n_len (by rfl) z_len (by decide +kernel) (a_cons (r_var 1) a_nil)) r_int (nomark _)) (w_one (t_cmp op_gt l_gt (r_callK G__law_draw (hr.mono (by omega)) (by rfl) (a_cons (r_var 0) (a_cons r_int a_nil))) r_int (nomark _)))))) (ss_cons (s_set 2 sc__law_spoilt.nd (r_callK G__law_draw (hr.mono (by omega)) (by rfl) (a_cons (r_var 0) (a_cons (r_callB call_len_seq n_len (by rfl) z_len (by decide +kernel) (a_cons (r_var 1) a_nil)) a_nil))))
  (ss_cons (s_set 3 sc__law_spoilt.nd (r_callTy call_list_of n_list (by rfl) z_list (by decide +kernel) (a_cons (r_var 1) a_nil)))
  (ss_cons (s_set 4 sc__law_spoilt.nd (r_callK G__law_draw (hr.mono (by omega)) (by rfl) (a_cons (r_var 0) (a_cons r_int a_nil))))
  (ss_cons (s_if (t_cmp op_lt l_lt (r_var 4) r_int (nomark _)) (ss_one (s_put set_list p_lst (r_callK R (hr.mono (by omega)) (by rfl) (a_cons (r_var 0) (a_cons (r_ix ix_seq l_ix (r_var 3) (r_var 2)) a_nil))) (r_var 3) (r_var 2))) (ss_one (s_if (t_cmp (op_eqD (hu64 hr)) l_eq (r_var 4) r_int (nomark _)) (ss_one (s_expr (r_meth PySem.F.slot_list_pop PySem.F.type_list_pop mt_popAt m_popAt (r_var 3) (a_cons (r_var 2) a_nil)))) (ss_one (s_if (t_cmp (op_eqD (hu64 hr)) l_eq (r_var 4) r_int (nomark _)) (ss_one (s_expr (r_meth PySem.F.slot_list_insert PySem.F.type_list_insert mt_insertW m_insert (r_var 3) (a_cons (r_var 2) (a_cons (r_ix ix_seq l_ix (r_var 3) (r_callK G__law_draw (hr.mono (by omega)) (by rfl) (a_cons (r_var 0) (a_cons (r_callB call_len_seq n_len (by rfl) z_len (by decide +kernel) (a_cons (r_var 3) a_nil)) a_nil)))) a_nil))))) (ss_one (s_if (t_cmp (op_eqD (hu64 hr)) l_eq (r_var 4) r_int (nomark _)) (ss_one (s_set 3 sc__law_spoilt.nd (r_rev (r_var 3)))) (ss_one (s_expr (r_meth PySem.F.slot_list_insert PySem.F.type_list_insert mt_insertW m_insert (r_var 3) (a_cons (r_var 2) (a_cons (r_callK G__law_any (hr.mono (by omega)) (by rfl) (a_cons (r_var 0) (a_cons r_int a_nil))) a_nil))))))))))))
  (ss_one (s_ret (r_if (t_val (r_isi "tuple" (by simp) (by rfl) z_isinstance (by rfl) z_tuple (by decide +kernel) (r_var 1))) (r_callTy call_tuple_of n_tuple (by rfl) z_tuple (by decide +kernel) (a_cons (r_var 3) a_nil)) (r_var 3)))))))) ss_nil)
  (ss_cons (s_if (t_w (w_and (t_val (r_callK G__law_whole (hr.mono (by omega)) (by rfl) (a_cons (r_var 1) a_nil))) (w_one (t_cmp op_gt l_gt (r_callK G__law_draw (hr.mono (by omega)) (by rfl) (a_cons (r_var 0) (a_cons r_int a_nil))) r_int (nomark _))))) (ss_one (s_ret (r_op o_add l_add (r_var 1) (r_ix ix_seq l_ix (r_lst (a_cons r_int (a_cons (r_un un_neg l_neg r_int) (a_cons r_int (a_cons (r_un un_neg l_neg r_int) (a_cons r_int (a_cons r_int a_nil))))))) (r_callK G__law_draw (hr.mono (by omega)) (by rfl) (a_cons (r_var 0) (a_cons r_int a_nil))))))) ss_nil)
  (ss_cons (s_if (t_w (w_and (t_val (r_isi "str" (by simp) (by rfl) z_isinstance (by rfl) z_str (by decide +kernel) (r_var 1))) (w_one (t_cmp op_gt l_gt (r_callK G__law_draw (hr.mono (by omega)) (by rfl) (a_cons (r_var 0) (a_cons r_int a_nil))) r_int (nomark _))))) (ss_cons (s_set 5 sc__law_spoilt.nd (r_callK G__law_draw (hr.mono (by omega)) (by rfl) (a_cons (r_var 0) (a_cons (r_op o_add l_add (r_callB call_len_str n_lenS (by rfl) z_len (by decide +kernel) (a_cons (r_var 1) a_nil)) r_int) a_nil))))
  (ss_one (s_ret (r_op o_add l_add (r_op o_add l_add (r_slS (r_var 1) o_none (o_some (r_var 5))) (r_ix ix_seq l_ix (r_lst (a_cons r_str (a_cons r_str (a_cons r_str (a_cons r_str (a_cons r_str (a_cons r_str a_nil))))))) (r_callK G__law_draw (hr.mono (by omega)) (by rfl) (a_cons (r_var 0) (a_cons r_int a_nil))))) (r_slS (r_var 1) (o_some (r_var 5)) o_none))))) ss_nil)
  (ss_cons (s_if (t_w (w_and (t_val (r_isi2 "tuple" "list" (by simp) (by simp) (by rfl) z_isinstance (by rfl) z_tuple (by decide +kernel) (by rfl) z_list (by decide +kernel) (r_var 1))) (w_one (t_cmp (op_eqD (hu64 hr)) l_eq (r_callK G__law_draw (hr.mono (by omega)) (by rfl) (a_cons (r_var 0) (a_cons r_int a_nil))) r_int (nomark _))))) (ss_one (s_ret (r_if (t_val (r_isi "tuple" (by simp) (by rfl) z_isinstance (by rfl) z_tuple (by decide +kernel) (r_var 1))) (r_callTy call_list_of n_list (by rfl) z_list (by decide +kernel) (a_cons (r_var 1) a_nil)) (r_callTy call_tuple_of n_tuple (by rfl) z_tuple (by decide +kernel) (a_cons (r_var 1) a_nil))))) ss_nil)
  (ss_one (s_ret (r_callK G__law_any (hr.mono (by omega)) (by rfl) (a_cons (r_var 0) (a_cons r_int a_nil)))))))))
theorem kn__law_like (D : DefAt K mg "_law_like" s__law_like) (z_isinstance : mg "isinstance" = none) (z_list : mg "list" = none) (z_tuple : mg "tuple" = none) (z_len : mg "len" = none) (z_range : mg "range" = none) (z_bool : mg "bool" = none) : ∀ d : Nat, Known P w K mg base (d + 1) "_law_like" ["one", "two"] (F__law_like d)
  | 0 => known0 D sc__law_like bi__law_like (fun ws M => F0__law_like ws M)
  | d + 1 => by
    have R := kn__law_like D z_isinstance z_list z_tuple z_len z_range z_bool d
    exact known D sc__law_like bi__law_like (keeps__law_like d) fun f cdv A outer s H E hr =>
  (ss_cons (s_if (t_val (r_isi2 "list" "tuple" (by simp) (by simp) (by rfl) z_isinstance (by rfl) z_list (by decide +kernel) (by rfl) z_tuple (by decide +kernel) (r_var 0))) (ss_cons (s_if (t_w (w_or (t_cmp (op_neD (hu64 hr)) l_ne (r_isi "list" (by simp) (by rfl) z_isinstance (by rfl) z_list (by decide +kernel) (r_var 0)) (r_isi "list" (by simp) (by rfl) z_isinstance (by rfl) z_list (by decide +kernel) (r_var 1)) (nomark _)) (w_one (t_cmp (op_neD (hu64 hr)) l_ne (r_isi "tuple" (by simp) (by rfl) z_isinstance (by rfl) z_tuple (by decide +kernel) (r_var 0)) (r_isi "tuple" (by simp) (by rfl) z_isinstance (by rfl) z_tuple (by decide +kernel) (r_var 1)) (nomark _))))) (ss_one (s_ret r_bl)) ss_nil)
  (ss_cons (s_if (t_cmp (op_neD (hu64 hr)) l_ne (r_callB call_len_seq n_len (by rfl) z_len (by decide +kernel) (a_cons (r_var 0) a_nil)) (r_callB call_len_seq n_len (by rfl) z_len (by decide +kernel) (a_cons (r_var 1) a_nil)) (nomark _)) (ss_one (s_ret r_bl)) ss_nil)
  (ss_one (s_ret (r_cmp (op_eqD (hu64 hr)) l_eq (r_lc (own := [("k", 2)]) sc__law_like.nd (i_range1 (by rfl) z_range (a_cons (r_callB call_len_seq n_len (by rfl) z_len (by decide +kernel) (a_cons (r_var 0) a_nil)) a_nil)) (by kernel_rfl) (fun _ _ _ _ _ => (gw_name 2 sc__law_like.nd)) (fun _ _ _ _ _ => (ts_one (t_not (t_val (r_callK R (hr.mono (by omega)) (by rfl) (a_cons (r_ix ix_seq l_ix (r_var 0) (r_var 2)) (a_cons (r_ix ix_seq l_ix (r_var 1) (r_var 2)) a_nil))))))) (fun _ _ _ _ _ => (r_var 2))) (r_lst a_nil) (nomark _)))))) ss_nil)
  (ss_cons (s_if (t_val (r_isi2 "list" "tuple" (by simp) (by simp) (by rfl) z_isinstance (by rfl) z_list (by decide +kernel) (by rfl) z_tuple (by decide +kernel) (r_var 1))) (ss_one (s_ret r_bl)) ss_nil)
  (ss_one (s_ret (r_and (r_cmp (op_eqD (hu64 hr)) l_eq (r_isi "bool" (by simp) (by rfl) z_isinstance (by rfl) z_bool (by decide +kernel) (r_var 0)) (r_isi "bool" (by simp) (by rfl) z_isinstance (by rfl) z_bool (by decide +kernel) (r_var 1)) (nomark _)) (r_one (r_cmp (op_eqD (hu64 hr)) l_eq (r_var 0) (r_var 1) (nomark _))))))))
theorem kn_is_page (D : DefAt K mg "is_page" s_is_page) (z_isinstance : mg "isinstance" = none) (z_str : mg "str" = none) (z_len : mg "len" = none) (z_all : mg "all" = none) (m_LETTERS : GlobV mg "LETTERS" (.str "abcdefghijklmnopqrstuvwxyz")) : Known P w K mg base 1 "is_page" ["value"] F_is_page :=
  known D sc_is_page bi_is_page keeps_is_page fun f cdv A outer s H E hr =>
  (ss_one (s_ret (r_and (r_isi "str" (by simp) (by rfl) z_isinstance (by rfl) z_str (by decide +kernel) (r_var 0)) (r_and (r_chain op_le l_le op_le l_le r_int (r_callB call_len_str n_lenS (by rfl) z_len (by decide +kernel) (a_cons (r_var 0) a_nil)) r_int) (r_one (r_callB (cr_all rfl) n_all (by rfl) z_all (by decide +kernel) (a_cons (r_lc (own := [("letter", 1)]) sc_is_page.nd (i_str (r_var 0)) (by kernel_rfl) (fun _ _ _ _ _ => (gw_name 1 sc_is_page.nd)) (fun _ _ _ _ _ => ts_nil) (fun _ _ _ _ _ => (r_cmp op_inS l_inS (r_var 1) (r_globS (by rfl) m_LETTERS) (by rfl)))) a_nil)))))))
theorem kn_is_index (D : DefAt K mg "is_index" s_is_index) (z_isinstance : mg "isinstance" = none) (z_int : mg "int" = none) (z_bool : mg "bool" = none) : Known P w K mg base 1 "is_index" ["value", "count"] F_is_index :=
  known D sc_is_index bi_is_index keeps_is_index fun f cdv A outer s H E hr =>
  (ss_one (s_ret (r_and (r_isi "int" (by simp) (by rfl) z_isinstance (by rfl) z_int (by decide +kernel) (r_var 0)) (r_and (r_not (r_isi "bool" (by simp) (by rfl) z_isinstance (by rfl) z_bool (by decide +kernel) (r_var 0))) (r_one (r_chain op_le l_le op_lt l_lt r_int (r_var 0) (r_var 1)))))))
theorem kn_is_history (D : DefAt K mg "is_history" s_is_history) (G_is_page : Known P w K mg base 1 "is_page" ["value"] F_is_page) (G_is_index : Known P w K mg base 1 "is_index" ["value", "count"] F_is_index) (z_isinstance : mg "isinstance" = none) (z_tuple : mg "tuple" = none) (z_len : mg "len" = none) (z_all : mg "all" = none) (m_MAX_PAGES : GlobV mg "MAX_PAGES" (.int 12)) : Known P w K mg base 2 "is_history" ["value"] F_is_history :=
  known D sc_is_history bi_is_history keeps_is_history fun f cdv A outer s H E hr =>
  (ss_cons (s_if (t_w (w_or (t_not (t_val (r_isi "tuple" (by simp) (by rfl) z_isinstance (by rfl) z_tuple (by decide +kernel) (r_var 0)))) (w_or (t_cmp (op_neD (hu64 hr)) l_ne (r_callB call_len_seq n_len (by rfl) z_len (by decide +kernel) (a_cons (r_var 0) a_nil)) r_int (nomark _)) (w_one (t_not (t_val (r_isi "tuple" (by simp) (by rfl) z_isinstance (by rfl) z_tuple (by decide +kernel) (r_ix ix_seq l_ix (r_var 0) r_int)))))))) (ss_one (s_ret r_bl)) ss_nil)
  (ss_cons (s_if (t_w (w_or (t_not (t_chain op_le l_le op_le l_le r_int (r_callB call_len_seq n_len (by rfl) z_len (by decide +kernel) (a_cons (r_ix ix_seq l_ix (r_var 0) r_int) a_nil)) (r_globI (by rfl) m_MAX_PAGES))) (w_one (t_not (t_val (r_callB (cr_all rfl) n_all (by rfl) z_all (by decide +kernel) (a_cons (r_lc (own := [("page", 1)]) sc_is_history.nd (i_tup (r_ix ix_seq l_ix (r_var 0) r_int)) (by kernel_rfl) (fun _ _ _ _ _ => (gw_name 1 sc_is_history.nd)) (fun _ _ _ _ _ => ts_nil) (fun _ _ _ _ _ => (r_callK G_is_page (hr.mono (by decide)) (by rfl) (a_cons (r_var 1) a_nil)))) a_nil))))))) (ss_one (s_ret r_bl)) ss_nil)
  (ss_one (s_ret (r_callK G_is_index (hr.mono (by decide)) (by rfl) (a_cons (r_ix ix_seq l_ix (r_var 0) r_int) (a_cons (r_callB call_len_seq n_len (by rfl) z_len (by decide +kernel) (a_cons (r_ix ix_seq l_ix (r_var 0) r_int) a_nil)) a_nil)))))))
theorem kn__law_is_page (D : DefAt K mg "_law_is_page" s__law_is_page) (z_isinstance : mg "isinstance" = none) (z_str : mg "str" = none) (z_len : mg "len" = none) : Known P w K mg base 1 "_law_is_page" ["item"] F__law_is_page :=
  known D sc__law_is_page bi__law_is_page keeps__law_is_page fun f cdv A outer s H E hr =>
  (ss_cons (s_if (t_w (w_or (t_not (t_val (r_isi "str" (by simp) (by rfl) z_isinstance (by rfl) z_str (by decide +kernel) (r_var 0)))) (w_one (t_not (t_chain op_le l_le op_le l_le r_int (r_callB call_len_str n_lenS (by rfl) z_len (by decide +kernel) (a_cons (r_var 0) a_nil)) r_int))))) (ss_one (s_ret r_bl)) ss_nil)
  (ss_one (s_ret (r_cmp (op_eqD (hu64 hr)) l_eq (r_lc (own := [("letter", 1)]) sc__law_is_page.nd (i_str (r_var 0)) (by kernel_rfl) (fun _ _ _ _ _ => (gw_name 1 sc__law_is_page.nd)) (fun _ _ _ _ _ => (ts_one (t_cmp op_notInS l_notInS (r_var 1) r_str (by rfl)))) (fun _ _ _ _ _ => (r_var 1))) (r_lst a_nil) (nomark _)))))
theorem kn__law_within (D : DefAt K mg "_law_within" s__law_within) (G__law_whole : Known P w K mg base 1 "_law_whole" ["item"] F__law_whole) : Known P w K mg base 2 "_law_within" ["item", "low", "high"] F__law_within :=
  known D sc__law_within bi__law_within keeps__law_within fun f cdv A outer s H E hr =>
  (ss_one (s_ret (r_and (r_callK G__law_whole (hr.mono (by decide)) (by rfl) (a_cons (r_var 0) a_nil)) (r_one (r_chain op_le l_le op_le l_le (r_var 1) (r_var 0) (r_var 2))))))
theorem kn__law_is_history (D : DefAt K mg "_law_is_history" s__law_is_history) (G__law_is_page : Known P w K mg base 1 "_law_is_page" ["item"] F__law_is_page) (G__law_within : Known P w K mg base 2 "_law_within" ["item", "low", "high"] F__law_within) (z_isinstance : mg "isinstance" = none) (z_tuple : mg "tuple" = none) (z_len : mg "len" = none) : Known P w K mg base 3 "_law_is_history" ["item"] F__law_is_history :=
  known D sc__law_is_history bi__law_is_history keeps__law_is_history fun f cdv A outer s H E hr =>
  (ss_cons (s_if (t_w (w_or (t_not (t_val (r_isi "tuple" (by simp) (by rfl) z_isinstance (by rfl) z_tuple (by decide +kernel) (r_var 0)))) (w_or (t_cmp (op_neD (hu64 hr)) l_ne (r_callB call_len_seq n_len (by rfl) z_len (by decide +kernel) (a_cons (r_var 0) a_nil)) r_int (nomark _)) (w_one (t_not (t_val (r_isi "tuple" (by simp) (by rfl) z_isinstance (by rfl) z_tuple (by decide +kernel) (r_ix ix_seq l_ix (r_var 0) r_int)))))))) (ss_one (s_ret r_bl)) ss_nil)
  (ss_cons (s_if (t_w (w_or (t_not (t_chain op_le l_le op_le l_le r_int (r_callB call_len_seq n_len (by rfl) z_len (by decide +kernel) (a_cons (r_ix ix_seq l_ix (r_var 0) r_int) a_nil)) r_int)) (w_one (t_cmp (op_neD (hu64 hr)) l_ne (r_lc (own := [("page", 1)]) sc__law_is_history.nd (i_tup (r_ix ix_seq l_ix (r_var 0) r_int)) (by kernel_rfl) (fun _ _ _ _ _ => (gw_name 1 sc__law_is_history.nd)) (fun _ _ _ _ _ => (ts_one (t_not (t_val (r_callK G__law_is_page (hr.mono (by decide)) (by rfl) (a_cons (r_var 1) a_nil)))))) (fun _ _ _ _ _ => (r_var 1))) (r_lst a_nil) (nomark _))))) (ss_one (s_ret r_bl)) ss_nil)
  (ss_one (s_ret (r_callK G__law_within (hr.mono (by decide)) (by rfl) (a_cons (r_ix ix_seq l_ix (r_var 0) r_int) (a_cons r_int (a_cons (r_op op_sub l_sub (r_callB call_len_seq n_len (by rfl) z_len (by decide +kernel) (a_cons (r_ix ix_seq l_ix (r_var 0) r_int) a_nil)) r_int) a_nil))))))))
theorem kn_is_action (D : DefAt K mg "is_action" s_is_action) (G_is_page : Known P w K mg base 1 "is_page" ["value"] F_is_page) (z_isinstance : mg "isinstance" = none) (z_tuple : mg "tuple" = none) (z_str : mg "str" = none) (z_len : mg "len" = none) : Known P w K mg base 2 "is_action" ["value"] F_is_action :=
  known D sc_is_action bi_is_action keeps_is_action fun f cdv A outer s H E hr =>
  (ss_cons (s_if (t_w (w_or (t_not (t_val (r_isi "tuple" (by simp) (by rfl) z_isinstance (by rfl) z_tuple (by decide +kernel) (r_var 0)))) (w_or (t_cmp (op_eqD (hu64 hr)) l_eq (r_var 0) (r_tup a_nil) (nomark _)) (w_one (t_not (t_val (r_isi "str" (by simp) (by rfl) z_isinstance (by rfl) z_str (by decide +kernel) (r_ix ix_seq l_ix (r_var 0) r_int)))))))) (ss_one (s_ret r_bl)) ss_nil)
  (ss_cons (s_if (t_cmp (op_eqD (hu64 hr)) l_eq (r_ix ix_seq l_ix (r_var 0) r_int) r_str (nomark _)) (ss_one (s_ret (r_and (r_cmp (op_eqD (hu64 hr)) l_eq (r_callB call_len_seq n_len (by rfl) z_len (by decide +kernel) (a_cons (r_var 0) a_nil)) r_int (nomark _)) (r_one (r_callK G_is_page (hr.mono (by decide)) (by rfl) (a_cons (r_ix ix_seq l_ix (r_var 0) r_int) a_nil)))))) ss_nil)
  (ss_one (s_ret (r_cmp (op_inU (hu65 hr)) l_inU (r_var 0) (r_tup (a_cons (r_tup (a_cons r_str a_nil)) (a_cons (r_tup (a_cons r_str a_nil)) a_nil))) (by rfl))))))
theorem kn_is_script (D : DefAt K mg "is_script" s_is_script) (G_is_action : Known P w K mg base 2 "is_action" ["value"] F_is_action) (z_isinstance : mg "isinstance" = none) (z_tuple : mg "tuple" = none) (z_len : mg "len" = none) (z_all : mg "all" = none) (m_MAX_ACTIONS : GlobV mg "MAX_ACTIONS" (.int 40)) : Known P w K mg base 3 "is_script" ["value"] F_is_script :=
  known D sc_is_script bi_is_script keeps_is_script fun f cdv A outer s H E hr =>
  (ss_one (s_ret (r_and (r_isi "tuple" (by simp) (by rfl) z_isinstance (by rfl) z_tuple (by decide +kernel) (r_var 0)) (r_and (r_cmp op_le l_le (r_callB call_len_seq n_len (by rfl) z_len (by decide +kernel) (a_cons (r_var 0) a_nil)) (r_globI (by rfl) m_MAX_ACTIONS) (nomark _)) (r_one (r_callB (cr_all rfl) n_all (by rfl) z_all (by decide +kernel) (a_cons (r_lc (own := [("action", 1)]) sc_is_script.nd (i_tup (r_var 0)) (by kernel_rfl) (fun _ _ _ _ _ => (gw_name 1 sc_is_script.nd)) (fun _ _ _ _ _ => ts_nil) (fun _ _ _ _ _ => (r_callK G_is_action (hr.mono (by decide)) (by rfl) (a_cons (r_var 1) a_nil)))) a_nil)))))))
theorem kn__law_is_action (D : DefAt K mg "_law_is_action" s__law_is_action) (G__law_is_page : Known P w K mg base 1 "_law_is_page" ["item"] F__law_is_page) (z_isinstance : mg "isinstance" = none) (z_tuple : mg "tuple" = none) (z_str : mg "str" = none) (z_len : mg "len" = none) : Known P w K mg base 2 "_law_is_action" ["item"] F__law_is_action :=
  known D sc__law_is_action bi__law_is_action keeps__law_is_action fun f cdv A outer s H E hr =>
  (ss_cons (s_if (t_w (w_or (t_not (t_val (r_isi "tuple" (by simp) (by rfl) z_isinstance (by rfl) z_tuple (by decide +kernel) (r_var 0)))) (w_or (t_cmp (op_eqD (hu64 hr)) l_eq (r_var 0) (r_tup a_nil) (nomark _)) (w_one (t_not (t_val (r_isi "str" (by simp) (by rfl) z_isinstance (by rfl) z_str (by decide +kernel) (r_ix ix_seq l_ix (r_var 0) r_int)))))))) (ss_one (s_ret r_bl)) ss_nil)
  (ss_cons (s_if (t_cmp (op_inD (hu65 hr)) l_inD (r_ix ix_seq l_ix (r_var 0) r_int) (r_lst (a_cons r_str (a_cons r_str a_nil))) (by rfl)) (ss_one (s_ret (r_cmp (op_eqD (hu64 hr)) l_eq (r_callB call_len_seq n_len (by rfl) z_len (by decide +kernel) (a_cons (r_var 0) a_nil)) r_int (nomark _)))) ss_nil)
  (ss_one (s_ret (r_and (r_cmp (op_eqD (hu64 hr)) l_eq (r_ix ix_seq l_ix (r_var 0) r_int) r_str (nomark _)) (r_and (r_cmp (op_eqD (hu64 hr)) l_eq (r_callB call_len_seq n_len (by rfl) z_len (by decide +kernel) (a_cons (r_var 0) a_nil)) r_int (nomark _)) (r_one (r_callK G__law_is_page (hr.mono (by decide)) (by rfl) (a_cons (r_ix ix_seq l_ix (r_var 0) r_int) a_nil)))))))))
theorem kn__law_is_script (D : DefAt K mg "_law_is_script" s__law_is_script) (G__law_is_action : Known P w K mg base 2 "_law_is_action" ["item"] F__law_is_action) (z_isinstance : mg "isinstance" = none) (z_tuple : mg "tuple" = none) (z_len : mg "len" = none) : Known P w K mg base 3 "_law_is_script" ["item"] F__law_is_script :=
  known D sc__law_is_script bi__law_is_script keeps__law_is_script fun f cdv A outer s H E hr =>
  (ss_cons (s_if (t_w (w_or (t_not (t_val (r_isi "tuple" (by simp) (by rfl) z_isinstance (by rfl) z_tuple (by decide +kernel) (r_var 0)))) (w_one (t_cmp op_gt l_gt (r_callB call_len_seq n_len (by rfl) z_len (by decide +kernel) (a_cons (r_var 0) a_nil)) r_int (nomark _))))) (ss_one (s_ret r_bl)) ss_nil)
  (ss_one (s_ret (r_cmp (op_eqD (hu64 hr)) l_eq (r_lc (own := [("action", 1)]) sc__law_is_script.nd (i_tup (r_var 0)) (by kernel_rfl) (fun _ _ _ _ _ => (gw_name 1 sc__law_is_script.nd)) (fun _ _ _ _ _ => (ts_one (t_not (t_val (r_callK G__law_is_action (hr.mono (by decide)) (by rfl) (a_cons (r_var 1) a_nil)))))) (fun _ _ _ _ _ => (r_var 1))) (r_lst a_nil) (nomark _)))))
theorem kn_law {f : Addr} {fd : FuncData} (D : Fun K "law" "law" s_law f fd) (G__law_history : Known P w K mg base 2 "_law_history" ["tape", "most", "pool"] F__law_history) (G__law_script : Known P w K mg base 3 "_law_script" ["tape", "most", "pool"] F__law_script) (G__law_spoilt : Known P w K mg base 19 "_law_spoilt" ["tape", "item"] (F__law_spoilt 8)) (G__law_any : Known P w K mg base 10 "_law_any" ["tape", "deep"] (F__law_any 8)) (G__law_like : Known P w K mg base 9 "_law_like" ["one", "two"] (F__law_like 8)) (G_is_history : Known P w K mg base 2 "is_history" ["value"] F_is_history) (G__law_is_history : Known P w K mg base 3 "_law_is_history" ["item"] F__law_is_history) (G_is_script : Known P w K mg base 3 "is_script" ["value"] F_is_script) (G__law_is_script : Known P w K mg base 3 "_law_is_script" ["item"] F__law_is_script) (z_list : mg "list" = none) (z_range : mg "range" = none) (z_len : mg "len" = none) : FnOk P w K mg base CX0 20 f fd ["script"] (spF ⟨K, w⟩ (["script"] : List Str).length lawF) :=
  fn_ok D sc_law keeps_law_k01 fun cdv A outer s H E hr =>
  (ss_cons (s_set 1 sc_law.nd (r_lst (a_cons (r_callTy call_list_of n_list (by rfl) z_list (by decide +kernel) (a_cons (r_var 0) a_nil)) (a_cons r_int (a_cons r_int a_nil)))))
  (ss_cons (s_set 2 sc_law.nd (r_tup (a_cons r_str (a_cons r_str (a_cons r_str a_nil)))))
  (ss_cons (s_for (i_range1 (by rfl) z_range (a_cons r_int a_nil)) (g_name 3 sc_law.nd) (ss_cons (s_par2 4 5 rfl sc_law.nd (a_cons (r_callK G__law_history (hr.mono (by decide)) (by rfl) (a_cons (r_var 1) (a_cons r_int (a_cons (r_var 2) a_nil)))) (a_cons (r_callK G__law_script (hr.mono (by decide)) (by rfl) (a_cons (r_var 1) (a_cons r_int (a_cons (r_var 2) a_nil)))) a_nil)))
  (ss_cons (s_set 6 sc_law.nd (r_lst (a_cons (r_var 4) (a_cons (r_callTy call_list_of n_list (by rfl) z_list (by decide +kernel) (a_cons (r_var 4) a_nil)) (a_cons (r_rev (r_var 4)) (a_cons (r_tup (a_cons (r_ix ix_seq l_ix (r_var 4) r_int) (a_cons r_bl a_nil))) (a_cons (r_tup (a_cons (r_callTy call_list_of n_list (by rfl) z_list (by decide +kernel) (a_cons (r_ix ix_seq l_ix (r_var 4) r_int) a_nil)) (a_cons r_int a_nil))) a_nil)))))))
  (ss_cons (s_expr (r_meth PySem.F.slot_list_append PySem.F.type_list_append mt_append m_append (r_var 6) (a_cons (r_tup (a_cons (r_ix ix_seq l_ix (r_var 4) r_int) (a_cons (r_callB call_len_seq n_len (by rfl) z_len (by decide +kernel) (a_cons (r_ix ix_seq l_ix (r_var 4) r_int) a_nil)) a_nil))) a_nil)))
  (ss_cons (s_set 6 sc_law.nd (r_op o_add l_add (r_var 6) (r_lst (a_cons (r_tup (a_cons (r_tup a_nil) (a_cons r_int a_nil))) (a_cons (r_tup (a_cons (r_op op_repA l_rep (r_tup (a_cons r_str a_nil)) r_int) (a_cons r_int a_nil))) (a_cons (r_tup (a_cons (r_op op_repA l_rep (r_tup (a_cons r_str a_nil)) r_int) (a_cons r_int a_nil))) (a_cons (r_tup (a_cons (r_tup (a_cons r_str a_nil)) (a_cons (r_un un_neg l_neg r_int) a_nil))) (a_cons (r_tup (a_cons (r_tup (a_cons r_str a_nil)) (a_cons r_int a_nil))) (a_cons (r_tup (a_cons (r_tup (a_cons r_str a_nil)) (a_cons r_int a_nil))) a_nil)))))))))
  (ss_cons (s_set 6 sc_law.nd (r_op o_add l_add (r_var 6) (r_lst (a_cons (r_tup (a_cons (r_tup (a_cons r_str a_nil)) (a_cons r_int a_nil))) (a_cons (r_tup (a_cons (r_tup (a_cons r_str a_nil)) (a_cons r_int (a_cons r_int a_nil)))) (a_cons (r_tup (a_cons (r_tup (a_cons r_str a_nil)) a_nil)) (a_cons r_str (a_cons r_non (a_cons (r_tup (a_cons r_str (a_cons r_int a_nil))) a_nil)))))))))
  (ss_cons (s_set 6 sc_law.nd (r_op o_add l_add (r_var 6) (r_lst (a_cons (r_var 5) (a_cons (r_callTy call_list_of n_list (by rfl) z_list (by decide +kernel) (a_cons (r_var 5) a_nil)) (a_cons (r_op op_repA l_rep (r_tup (a_cons (r_tup (a_cons r_str a_nil)) a_nil)) r_int) (a_cons (r_op op_repA l_rep (r_tup (a_cons (r_tup (a_cons r_str a_nil)) a_nil)) r_int) a_nil)))))))
  (ss_cons (s_set 6 sc_law.nd (r_op o_add l_add (r_var 6) (r_lst (a_cons (r_tup (a_cons (r_tup (a_cons r_str (a_cons r_str a_nil))) a_nil)) (a_cons (r_tup (a_cons (r_tup (a_cons r_str a_nil)) a_nil)) (a_cons (r_tup (a_cons (r_tup (a_cons r_str (a_cons r_str a_nil))) a_nil)) (a_cons (r_tup (a_cons (r_tup (a_cons r_str (a_cons r_str (a_cons r_str a_nil)))) a_nil)) a_nil)))))))
  (ss_cons (s_set 6 sc_law.nd (r_op o_add l_add (r_var 6) (r_lst (a_cons (r_tup (a_cons (r_tup (a_cons r_str (a_cons r_int a_nil))) a_nil)) (a_cons (r_tup (a_cons (r_lst (a_cons r_str a_nil)) a_nil)) (a_cons (r_tup (a_cons r_str a_nil)) (a_cons (r_tup a_nil) (a_cons (r_tup (a_cons (r_tup a_nil) a_nil)) a_nil))))))))
  (ss_cons (s_for (i_range1 (by rfl) z_range (a_cons r_int a_nil)) (g_name 7 sc_law.nd) (ss_cons (s_expr (r_meth PySem.F.slot_list_append PySem.F.type_list_append mt_append m_append (r_var 6) (a_cons (r_callK G__law_spoilt (hr.mono (by decide)) (by rfl) (a_cons (r_var 1) (a_cons (r_var 4) a_nil))) a_nil)))
  (ss_cons (s_expr (r_meth PySem.F.slot_list_append PySem.F.type_list_append mt_append m_append (r_var 6) (a_cons (r_callK G__law_spoilt (hr.mono (by decide)) (by rfl) (a_cons (r_var 1) (a_cons (r_var 5) a_nil))) a_nil)))
  (ss_one (s_expr (r_meth PySem.F.slot_list_append PySem.F.type_list_append mt_append m_append (r_var 6) (a_cons (r_callK G__law_spoilt (hr.mono (by decide)) (by rfl) (a_cons (r_var 1) (a_cons (r_ix ix_seq l_ix (r_var 6) (r_un un_neg l_neg r_int)) a_nil))) a_nil)))))))
  (ss_one (s_for (i_lst (r_op o_add l_add (r_var 6) (r_lst (a_cons (r_callK G__law_any (hr.mono (by decide)) (by rfl) (a_cons (r_var 1) (a_cons r_int a_nil))) a_nil)))) (g_name 8 sc_law.nd) (ss_cons (s_if (t_not (t_val (r_callK G__law_like (hr.mono (by decide)) (by rfl) (a_cons (r_callK G_is_history (hr.mono (by decide)) (by rfl) (a_cons (r_var 8) a_nil)) (a_cons (r_callK G__law_is_history (hr.mono (by decide)) (by rfl) (a_cons (r_var 8) a_nil)) a_nil))))) (ss_one (s_ret r_bl)) ss_nil)
  (ss_one (s_if (t_not (t_val (r_callK G__law_like (hr.mono (by decide)) (by rfl) (a_cons (r_callK G_is_script (hr.mono (by decide)) (by rfl) (a_cons (r_var 8) a_nil)) (a_cons (r_callK G__law_is_script (hr.mono (by decide)) (by rfl) (a_cons (r_var 8) a_nil)) a_nil))))) (ss_one (s_ret r_bl)) ss_nil)))))))))))))))
  (ss_one (s_ret r_bl)))))
end
theorem all_k01 {l : PySem.W.OpenLaw} {w : World} {K : PySem.W.Frag} {h : Heap} {mg : Str → Option Value} {fa f : Addr} {oc : Value} {od an : Option Addr} {osl : Array (Option Value)} {kV doc pm cdv ct : Value} (X : K.In h) (G : h.Ns mainGlobals mg) (hfa : mg "law" = some (.ref fa))
    (a : PySem.W.nsIn K mainGlobals "law" = some (some (.ref f))) (lk : K.lookup f = some ⟨oc, od, .func (PySem.W.fnOf "law" "law" (defArgs s_law) (defBody s_law) (defScope s_law) .none kV doc pm an cdv ct), osl⟩) (c : PySem.W.codeIn K cdv "law" = true) (kp : PySem.W.keepIn K (.ref f) = true)
    (D__law_draw : DefAt K mg "_law_draw" s__law_draw) (D__law_history : DefAt K mg "_law_history" s__law_history) (D__law_action : DefAt K mg "_law_action" s__law_action) (D__law_script : DefAt K mg "_law_script" s__law_script) (D__law_any : DefAt K mg "_law_any" s__law_any) (D__law_whole : DefAt K mg "_law_whole" s__law_whole) (D__law_spoilt : DefAt K mg "_law_spoilt" s__law_spoilt) (D__law_like : DefAt K mg "_law_like" s__law_like) (D_is_page : DefAt K mg "is_page" s_is_page) (D_is_index : DefAt K mg "is_index" s_is_index) (D_is_history : DefAt K mg "is_history" s_is_history) (D__law_is_page : DefAt K mg "_law_is_page" s__law_is_page) (D__law_within : DefAt K mg "_law_within" s__law_within) (D__law_is_history : DefAt K mg "_law_is_history" s__law_is_history) (D_is_action : DefAt K mg "is_action" s_is_action) (D_is_script : DefAt K mg "is_script" s_is_script) (D__law_is_action : DefAt K mg "_law_is_action" s__law_is_action) (D__law_is_script : DefAt K mg "_law_is_script" s__law_is_script) (z_all : mg "all" = none) (z_bool : mg "bool" = none) (z_int : mg "int" = none) (z_isinstance : mg "isinstance" = none) (z_len : mg "len" = none) (z_list : mg "list" = none) (z_max : mg "max" = none) (z_range : mg "range" = none) (z_str : mg "str" = none) (z_tuple : mg "tuple" = none) (m_LETTERS : GlobV mg "LETTERS" (.str "abcdefghijklmnopqrstuvwxyz")) (m_MAX_ACTIONS : GlobV mg "MAX_ACTIONS" (.int 40)) (m_MAX_PAGES : GlobV mg "MAX_PAGES" (.int 12)) :
    ∃ fd : FuncData, (∀ (s : Shared) (v : Value), BindsTo s fd ⟨[v], []⟩ [("script", v)]) ∧ ∀ base : Heap, K.In base → base.Ns mainGlobals mg → FnOk l.prog w K mg base CX0 20 fa fd ["script"] (spLaw K) :=
  law_head X G hfa a lk c kp bi_law fun base fd D => by
    have G__law_draw := kn__law_draw (P := l.prog) (w := w) (base := base) D__law_draw z_len
    have G__law_history := kn__law_history (P := l.prog) (w := w) (base := base) D__law_history G__law_draw z_tuple z_range z_len
    have G__law_action := kn__law_action (P := l.prog) (w := w) (base := base) D__law_action G__law_draw z_len
    have G__law_script := kn__law_script (P := l.prog) (w := w) (base := base) D__law_script G__law_draw G__law_action z_tuple z_range
    have G__law_any := kn__law_any (P := l.prog) (w := w) (base := base) D__law_any G__law_draw z_range z_tuple z_max 8
    have G__law_whole := kn__law_whole (P := l.prog) (w := w) (base := base) D__law_whole z_isinstance z_int z_bool
    have G__law_spoilt := kn__law_spoilt (P := l.prog) (w := w) (base := base) D__law_spoilt G__law_draw G__law_any G__law_whole z_isinstance z_tuple z_list z_len z_str 8
    have G__law_like := kn__law_like (P := l.prog) (w := w) (base := base) D__law_like z_isinstance z_list z_tuple z_len z_range z_bool 8
    have G_is_page := kn_is_page (P := l.prog) (w := w) (base := base) D_is_page z_isinstance z_str z_len z_all m_LETTERS
    have G_is_index := kn_is_index (P := l.prog) (w := w) (base := base) D_is_index z_isinstance z_int z_bool
    have G_is_history := kn_is_history (P := l.prog) (w := w) (base := base) D_is_history G_is_page G_is_index z_isinstance z_tuple z_len z_all m_MAX_PAGES
    have G__law_is_page := kn__law_is_page (P := l.prog) (w := w) (base := base) D__law_is_page z_isinstance z_str z_len
    have G__law_within := kn__law_within (P := l.prog) (w := w) (base := base) D__law_within G__law_whole
    have G__law_is_history := kn__law_is_history (P := l.prog) (w := w) (base := base) D__law_is_history G__law_is_page G__law_within z_isinstance z_tuple z_len
    have G_is_action := kn_is_action (P := l.prog) (w := w) (base := base) D_is_action G_is_page z_isinstance z_tuple z_str z_len
    have G_is_script := kn_is_script (P := l.prog) (w := w) (base := base) D_is_script G_is_action z_isinstance z_tuple z_len z_all m_MAX_ACTIONS
    have G__law_is_action := kn__law_is_action (P := l.prog) (w := w) (base := base) D__law_is_action G__law_is_page z_isinstance z_tuple z_str z_len
    have G__law_is_script := kn__law_is_script (P := l.prog) (w := w) (base := base) D__law_is_script G__law_is_action z_isinstance z_tuple z_len
    exact kn_law D G__law_history G__law_script G__law_spoilt G__law_any G__law_like G_is_history G__law_is_history G_is_script G__law_is_script z_list z_range z_len
end BF
open PySem PySem.W PyProof.Rows
set_option maxHeartbeats 0 in
theorem PySem.Challenge.cw_backforward_k01_history_and_script_value_holds : PySem.Challenge.rw_backforward_k01_history_and_script_value.Holds := by
  w_on; o_law; k_head; (case hw => w_witness2)
  k_fill
  refine L2.walk_of (l := PySem.Challenge.rw_backforward_k01_history_and_script_value) (n := 63) (k := 20) (x := "script") (CX := fun _ => L2.CX0) (sp := fun w => BF.spLaw _) rfl (by decide) rfl ⟨rfl, by decide, by decide⟩ (fun w h Y => PySem.W.kIn_of Y) ?F (fun _ H a ns hl ho hS => ⟨a, ns, rfl, ho, hS, hl, fun _ => rfl⟩) (fun _ _ _ _ _ h => h)
  case F =>
    intro w mg fa h KX G hmg
    refine' BF.all_k01 KX G hmg ?a0 ?l0 ?c0 ?k0 (BF.defAt KX G ?a1 ?l1 ?c1 ?k1) (BF.defAt KX G ?a2 ?l2 ?c2 ?k2) (BF.defAt KX G ?a3 ?l3 ?c3 ?k3) (BF.defAt KX G ?a4 ?l4 ?c4 ?k4) (BF.defAt KX G ?a5 ?l5 ?c5 ?k5) (BF.defAt KX G ?a6 ?l6 ?c6 ?k6) (BF.defAt KX G ?a7 ?l7 ?c7 ?k7) (BF.defAt KX G ?a8 ?l8 ?c8 ?k8) (BF.defAt KX G ?a9 ?l9 ?c9 ?k9) (BF.defAt KX G ?a10 ?l10 ?c10 ?k10) (BF.defAt KX G ?a11 ?l11 ?c11 ?k11) (BF.defAt KX G ?a12 ?l12 ?c12 ?k12) (BF.defAt KX G ?a13 ?l13 ?c13 ?k13) (BF.defAt KX G ?a14 ?l14 ?c14 ?k14) (BF.defAt KX G ?a15 ?l15 ?c15 ?k15) (BF.defAt KX G ?a16 ?l16 ?c16 ?k16) (BF.defAt KX G ?a17 ?l17 ?c17 ?k17) (BF.defAt KX G ?a18 ?l18 ?c18 ?k18) (PySem.W.mg_none_of KX G ?z_all) (PySem.W.mg_none_of KX G ?z_bool) (PySem.W.mg_none_of KX G ?z_int) (PySem.W.mg_none_of KX G ?z_isinstance) (PySem.W.mg_none_of KX G ?z_len) (PySem.W.mg_none_of KX G ?z_list) (PySem.W.mg_none_of KX G ?z_max) (PySem.W.mg_none_of KX G ?z_range) (PySem.W.mg_none_of KX G ?z_str) (PySem.W.mg_none_of KX G ?z_tuple) ⟨_, PySem.W.mg_of KX G ?m_LETTERS, ⟨_, ?r_LETTERS⟩⟩ ⟨_, PySem.W.mg_of KX G ?m_MAX_ACTIONS, ⟨_, ?r_MAX_ACTIONS⟩⟩ ⟨_, PySem.W.mg_of KX G ?m_MAX_PAGES, ⟨_, ?r_MAX_PAGES⟩⟩
    (case a0 => k_is); (case l0 => k_is); (case c0 => k_is); (case k0 => k_is); (case a1 => k_is); (case l1 => k_is); (case c1 => k_is); (case k1 => k_is); (case a2 => k_is); (case l2 => k_is); (case c2 => k_is); (case k2 => k_is); (case a3 => k_is); (case l3 => k_is); (case c3 => k_is); (case k3 => k_is); (case a4 => k_is); (case l4 => k_is); (case c4 => k_is); (case k4 => k_is); (case a5 => k_is); (case l5 => k_is); (case c5 => k_is); (case k5 => k_is); (case a6 => k_is); (case l6 => k_is); (case c6 => k_is); (case k6 => k_is); (case a7 => k_is); (case l7 => k_is); (case c7 => k_is); (case k7 => k_is); (case a8 => k_is); (case l8 => k_is); (case c8 => k_is); (case k8 => k_is); (case a9 => k_is); (case l9 => k_is); (case c9 => k_is); (case k9 => k_is); (case a10 => k_is); (case l10 => k_is); (case c10 => k_is); (case k10 => k_is); (case a11 => k_is); (case l11 => k_is); (case c11 => k_is); (case k11 => k_is); (case a12 => k_is); (case l12 => k_is); (case c12 => k_is); (case k12 => k_is); (case a13 => k_is); (case l13 => k_is); (case c13 => k_is); (case k13 => k_is); (case a14 => k_is); (case l14 => k_is); (case c14 => k_is); (case k14 => k_is); (case a15 => k_is); (case l15 => k_is); (case c15 => k_is); (case k15 => k_is); (case a16 => k_is); (case l16 => k_is); (case c16 => k_is); (case k16 => k_is); (case a17 => k_is); (case l17 => k_is); (case c17 => k_is); (case k17 => k_is); (case a18 => k_is); (case l18 => k_is); (case c18 => k_is); (case k18 => k_is); (case z_all => k_is); (case z_bool => k_is); (case z_int => k_is); (case z_isinstance => k_is); (case z_len => k_is); (case z_list => k_is); (case z_max => k_is); (case z_range => k_is); (case z_str => k_is); (case z_tuple => k_is); (case m_LETTERS => k_is); (case m_MAX_ACTIONS => k_is); (case m_MAX_PAGES => k_is); (case r_LETTERS => exact rfl); (case r_MAX_ACTIONS => exact rfl); (case r_MAX_PAGES => exact rfl)
