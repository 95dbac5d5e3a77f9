import PyProof.Rows.All
import Wide.All
import OpenK.AllK
import Wide.FinOn
import HandS.ForMost
import HandS.TupAny
import HandS.TupMul
import HandS.Zip
import HandS.Wide
import HandS.IsInst
import HandS.Flow
import HandS.Style
import HandS.Steps
import HandS.Conv
import KE.KTupSum
import HandS.Dict
import KE.KDictKeyed
import KE.KDictDisplayH
import HandS.Iter
import HandS.Flt
import HandS.More
import HandS.Deep
import KE.GoesEnum
import PySem.Challenge.RW_backforward_k03_whole_distances_by_searc
set_option Elab.async false
set_option linter.all false
set_option autoImplicit false
/-! The plain reading: values, memory, and what each construct computes. -/
namespace BF
open PySem

inductive W where
  | non
  | bl (b : Bool)
  | int (i : Int)
  | str (x : Str)
  | tup (ws : List W)
  | ref (n : Nat)

instance : Inhabited W := ⟨.non⟩

mutual
def W.beq : W → W → Bool
  | .non, .non => true
  | .bl a, .bl b => a == b
  | .int a, .int b => decide (a = b)
  | .str a, .str b => decide (a = b)
  | .tup a, .tup b => W.beqs a b
  | .ref a, .ref b => decide (a = b)
  | .non, .bl _ | .non, .int _ | .non, .str _ | .non, .tup _ | .non, .ref _ => false
  | .bl _, .non | .bl _, .int _ | .bl _, .str _ | .bl _, .tup _ | .bl _, .ref _ => false
  | .int _, .non | .int _, .bl _ | .int _, .str _ | .int _, .tup _ | .int _, .ref _ => false
  | .str _, .non | .str _, .bl _ | .str _, .int _ | .str _, .tup _ | .str _, .ref _ => false
  | .tup _, .non | .tup _, .bl _ | .tup _, .int _ | .tup _, .str _ | .tup _, .ref _ => false
  | .ref _, .non | .ref _, .bl _ | .ref _, .int _ | .ref _, .str _ | .ref _, .tup _ => false
def W.beqs : List W → List W → Bool
  | [], [] => true
  | a :: as, b :: bs => W.beq a b && W.beqs as bs
  | [], _ :: _ => false
  | _ :: _, [] => false
end
mutual
theorem W.beq_self : ∀ a : W, W.beq a a = true
  | .non => rfl
  | .bl a => by simp [W.beq]
  | .int a => by simp [W.beq]
  | .str a => by simp [W.beq]
  | .tup a => by rw [W.beq]; exact W.beqs_self a
  | .ref a => by simp [W.beq]
theorem W.beqs_self : ∀ a : List W, W.beqs a a = true
  | [] => rfl
  | a :: as => by rw [W.beqs, W.beq_self a, W.beqs_self as]; rfl
end
mutual
theorem W.eq_of_beq : ∀ a b : W, W.beq a b = true → a = b
  | .non, b, h => by cases b <;> simp [W.beq] at h; rfl
  | .bl a, b, h => by cases b <;> simp [W.beq] at h; rw [h]
  | .int a, b, h => by cases b <;> simp [W.beq] at h; rw [h]
  | .str a, b, h => by cases b <;> simp [W.beq] at h; rw [h]
  | .tup a, b, h => by
    cases b with
    | tup b => rw [W.beq] at h; rw [W.eq_of_beqs a b h]
    | _ => simp [W.beq] at h
  | .ref a, b, h => by cases b <;> simp [W.beq] at h; rw [h]
theorem W.eq_of_beqs : ∀ a b : List W, W.beqs a b = true → a = b
  | [], b, h => by
    cases b with
    | nil => rfl
    | cons _ _ => simp [W.beqs] at h
  | a :: as, b, h => by
    cases b with
    | nil => simp [W.beqs] at h
    | cons b bs =>
      rw [W.beqs, Bool.and_eq_true] at h
      rw [W.eq_of_beq a b h.1, W.eq_of_beqs as bs h.2]
end
instance : DecidableEq W := fun a b =>
  if h : W.beq a b = true then .isTrue (W.eq_of_beq a b h) else .isFalse fun e => h (e ▸ W.beq_self a)

/-- a dict keyed by nested tuples; a dict that is walked (keys: numbers and texts; nested tuples) -/
inductive DM where
  | nest
  | lockF
  | lockN
  deriving DecidableEq
/-- what stands at an id: a list (made here), a list that is only read, a dict, one with int and text keys -/
inductive MO where
  | lst (ws : List W)
  | ro (ws : List W)
  | dT (m : DM) (kvs : List (W × W))
  | dK (kvs : List (W × W))
  deriving DecidableEq

abbrev Mem := List MO
abbrev Sl := List (Option W)
abbrev CE := Sl → Mem → Option (W × Mem)
abbrev CA := Sl → Mem → Option (List W × Mem)
abbrev CT := Sl → Mem → Option (Bool × Mem)
abbrev Fn := List W → Mem → Option (W × Mem)
inductive Out where
  | nx (σ : Sl) (M : Mem)
  | rt (w : W) (M : Mem)
  | bk (σ : Sl) (M : Mem)
  | ct (σ : Sl) (M : Mem)
abbrev CS := Sl → Mem → Option Out
abbrev CG := W → Sl → Option Sl
/-- what a loop walks: the items, and what must stay true of the memory meanwhile -/
abbrev CI := Sl → Mem → Option (List W × (Mem → Bool) × Mem)


/-! ### expressions -/
def eV (i : Nat) : CE := fun σ M => match σ.getD i none with
  | some w => some (w, M)
  | none => none
def eL (w : W) : CE := fun _ M => some (w, M)
def e1 (f : Mem → W → Option (W × Mem)) (a : CE) : CE := fun σ M => (a σ M).bind fun p => f p.2 p.1
def e2 (f : Mem → W → W → Option (W × Mem)) (a b : CE) : CE := fun σ M =>
  (a σ M).bind fun p => (b σ p.2).bind fun q => f q.2 p.1 q.1
def eArgs : List CE → CA
  | [] => fun _ M => some ([], M)
  | a :: as => fun σ M => (a σ M).bind fun p => (eArgs as σ p.2).bind fun q => some (p.1 :: q.1, q.2)
def eN (f : Fn) (as : List CE) : CE := fun σ M => (eArgs as σ M).bind fun p => f p.1 p.2
def eTup (as : List CE) : CE := fun σ M => (eArgs as σ M).bind fun p =>
  if p.1.length ≤ 16777216 then some (.tup p.1, p.2) else none
def eLst (as : List CE) : CE := fun σ M => (eArgs as σ M).bind fun p =>
  if p.1.length ≤ 16777216 then some (.ref p.2.length, p.2 ++ [.lst p.1]) else none
def eIf (t : CT) (a b : CE) : CE := fun σ M => (t σ M).bind fun p => if p.1 = true then a σ p.2 else b σ p.2
/-- a and b, a or b, not a: of truth values -/
def eAnd (a b : CE) : CE := fun σ M => (a σ M).bind fun p => match p.1 with
  | .bl true => b σ p.2
  | .bl false => some (.bl false, p.2)
  | _ => none
def eOr (a b : CE) : CE := fun σ M => (a σ M).bind fun p => match p.1 with
  | .bl true => some (.bl true, p.2)
  | .bl false => b σ p.2
  | _ => none
def eNot (a : CE) : CE := fun σ M => (a σ M).bind fun p => match p.1 with
  | .bl c => some (.bl (!c), p.2)
  | _ => none
/-- a op b op' c -/
def eChain (f g : Mem → W → W → Option (W × Mem)) (a b c : CE) : CE := fun σ M =>
  (a σ M).bind fun p => (b σ p.2).bind fun q => (f q.2 p.1 q.1).bind fun r => match r.1 with
    | .bl true => (c σ r.2).bind fun t => g t.2 q.1 t.1
    | .bl false => some (.bl false, r.2)
    | _ => none

/-! ### tests -/
def tB (e : CE) : CT := fun σ M => (e σ M).bind fun p => match p.1 with
  | .bl c => some (c, p.2)
  | _ => none
def tAnd (a b : CT) : CT := fun σ M => (a σ M).bind fun p => if p.1 = true then b σ p.2 else some (false, p.2)
def tOr (a b : CT) : CT := fun σ M => (a σ M).bind fun p => if p.1 = true then some (true, p.2) else b σ p.2
def tNot (a : CT) : CT := fun σ M => (a σ M).bind fun p => some (!p.1, p.2)
def tTrue : CT := fun _ M => some (true, M)

/-! ### targets -/
def gV (i : Nat) : CG := fun w σ => some (σ.set i (some w))
def gAll : List CG → List W → Sl → Option Sl
  | [], [], σ => some σ
  | g :: gs, w :: ws, σ => (g w σ).bind fun σ1 => gAll gs ws σ1
  | _, _, _ => none
def gT (gs : List CG) : CG := fun w σ => match w with
  | .tup ws => gAll gs ws σ
  | _ => none

/-! ### statements -/
def sSet (g : CG) (e : CE) : CS := fun σ M => (e σ M).bind fun p => (g p.1 σ).bind fun σ1 => some (.nx σ1 p.2)
/-- a, b = x, y of plain names -/
def sPar (is : List Nat) (as : List CE) : CS := fun σ M => (eArgs as σ M).bind fun p =>
  if p.1.length = is.length then some (.nx ((is.zip p.1).foldl (fun σ q => σ.set q.1 (some q.2)) σ) p.2) else none
def sAug (i : Nat) (f : Mem → W → W → Option (W × Mem)) (e : CE) : CS := fun σ M => match σ.getD i none with
  | some w => (e σ M).bind fun p => (f p.2 w p.1).bind fun q => some (.nx (σ.set i (some q.1)) q.2)
  | none => none
/-- o[k] = e -/
def sPut (f : Mem → W → W → W → Option Mem) (o k e : CE) : CS := fun σ M =>
  (e σ M).bind fun p => (o σ p.2).bind fun q => (k σ q.2).bind fun r => (f r.2 q.1 r.1 p.1).bind fun M' => some (.nx σ M')
def sExpr (e : CE) : CS := fun σ M => (e σ M).bind fun p => some (.nx σ p.2)
def sRet (e : CE) : CS := fun σ M => (e σ M).bind fun p => some (.rt p.1 p.2)
def sNil : CS := fun σ M => some (.nx σ M)
def sBreak : CS := fun σ M => some (.bk σ M)
def sSeq (a b : CS) : CS := fun σ M => (a σ M).bind fun o => match o with
  | .nx σ' M' => b σ' M'
  | .rt w M' => some (.rt w M')
  | .bk σ' M' => some (.bk σ' M')
  | .ct σ' M' => some (.ct σ' M')
def sIf (t : CT) (a b : CS) : CS := fun σ M => (t σ M).bind fun p => if p.1 = true then a σ p.2 else b σ p.2
def forL (gd : Mem → Bool) (g : CG) (body : CS) : List W → CS
  | [], σ, M => if gd M = true then some (.nx σ M) else none
  | w :: ws, σ, M => if gd M = true then (g w σ).bind fun σ1 => (body σ1 M).bind fun o => match o with
      | .nx σ' M' => forL gd g body ws σ' M'
      | .ct σ' M' => forL gd g body ws σ' M'
      | .bk σ' M' => some (.nx σ' M')
      | .rt w M' => some (.rt w M')
    else none
def sFor (it : CI) (g : CG) (body : CS) : CS := fun σ M => (it σ M).bind fun p => forL p.2.1 g body p.1 σ p.2.2
def whileL (t : CT) (body : CS) : Nat → CS
  | 0, _, _ => none
  | n + 1, σ, M => (t σ M).bind fun p => if p.1 = true then (body σ p.2).bind fun o => match o with
      | .nx σ' M' => whileL t body n σ' M'
      | .ct σ' M' => whileL t body n σ' M'
      | .bk σ' M' => some (.nx σ' M')
      | .rt w M' => some (.rt w M')
    else some (.nx σ p.2)
def sWhile (n : Nat) (t : CT) (body : CS) : CS := whileL t body n

/-! ### what is walked -/
def gdT : Mem → Bool := fun _ => true
def iTup (e : CE) : CI := fun σ M => (e σ M).bind fun p => match p.1 with
  | .tup ws => some (ws, gdT, p.2)
  | _ => none
def iLst (e : CE) : CI := fun σ M => (e σ M).bind fun p => match p.1 with
  | .ref n => match p.2[n]? with
    | some (.lst ws) => some (ws, fun M' => decide (M'[n]? = some (.lst ws)), p.2)
    | some (.ro ws) => some (ws, fun M' => decide (M'[n]? = some (.ro ws)), p.2)
    | _ => none
  | _ => none
def rangeW (lo : Int) (n : Nat) : List W := (List.range n).map fun i => .int (lo + (i : Nat))
def small62 (i : Int) : Bool := Nat.ble i.natAbs 4611686018427387903
theorem small62_of {i : Int} (h : i.natAbs ≤ 4611686018427387903) : small62 i = true := Nat.ble_eq_true_of_le h
def iRange1 (e : CE) : CI := fun σ M => (e σ M).bind fun p => match p.1 with
  | .int j => if small62 j = true then some (rangeW 0 j.toNat, gdT, p.2) else none
  | _ => none
def iRange2 (a b : CE) : CI := fun σ M => (a σ M).bind fun p => (b σ p.2).bind fun q => match p.1, q.1 with
  | .int i, .int j => if small62 i = true ∧ small62 j = true then some (rangeW i (j - i).toNat, gdT, q.2) else none
  | _, _ => none
def enumW (ws : List W) : List W := ws.zipIdx.map fun p => .tup [.int (p.2 : Nat), p.1]
def iEnumT (e : CE) : CI := fun σ M => (e σ M).bind fun p => match p.1 with
  | .tup ws => some (enumW ws, gdT, p.2)
  | _ => none
def iEnumL (e : CE) : CI := fun σ M => (e σ M).bind fun p => match p.1 with
  | .ref n => match p.2[n]? with
    | some (.lst ws) => some (enumW ws, fun M' => decide (M'[n]? = some (.lst ws)), p.2)
    | _ => none
  | _ => none
def zipW (xs ys : List W) : List W := (xs.zip ys).map fun p => .tup [p.1, p.2]
def iZipT (a b : CE) : CI := fun σ M => (a σ M).bind fun p => (b σ p.2).bind fun q => match p.1, q.1 with
  | .tup xs, .tup ys => some (zipW xs ys, gdT, q.2)
  | _, _ => none

/-! ### a list comprehension -/
def wipe (σ : Sl) : List Nat → Sl
  | [] => σ
  | v :: vs => (wipe σ vs).set v none
def lcL (gd : Mem → Bool) (g : CG) (t : CT) (e : CE) (vs : List Nat) (σ : Sl) (D : Nat) : List W → Mem → Option Mem
  | [], M => if gd M = true then some M else none
  | w :: ws, M => if gd M = true then (g w (wipe σ vs)).bind fun σ1 => (t σ1 M).bind fun p => if p.1 = true then
        (e σ1 p.2).bind fun q => match q.2[D]? with
          | some (.lst acc) => if acc.length < 16777216 then lcL gd g t e vs σ D ws (q.2.set D (.lst (acc ++ [q.1]))) else none
          | _ => none
      else lcL gd g t e vs σ D ws p.2
    else none
def eLc (it : CI) (g : CG) (t : CT) (e : CE) (vs : List Nat) : CE := fun σ M => (it σ M).bind fun p =>
  (lcL p.2.1 g t e vs σ p.2.2.length p.1 (p.2.2 ++ [.lst []])).bind fun M' => some (.ref p.2.2.length, M')

/-! ### data -/
def mapO {α β : Type} (f : α → Option β) : List α → Option (List β)
  | [] => some []
  | a :: as => match f a, mapO f as with
    | some b, some bs => some (b :: bs)
    | _, _ => none
def toD (M : Mem) : Nat → W → Option PyData
  | 0, _ => none
  | _ + 1, .non => some .none
  | _ + 1, .bl b => some (.bool b)
  | _ + 1, .int i => some (.int i)
  | _ + 1, .str x => some (.str x)
  | k + 1, .tup ws => (mapO (toD M k) ws).map .tuple
  | k + 1, .ref n => match M[n]? with
    | some (.lst ws) => (mapO (toD M k) ws).map .list
    | some (.ro ws) => (mapO (toD M k) ws).map .list
    | _ => none
/-- x == y of data -/
def eqW (M : Mem) (x y : W) : Option Bool := match toD M 64 x, toD M 64 y with
  | some d, some e => some (PyData.eqv d e)
  | _, _ => none

/-! ### operations -/
def gAdd (M : Mem) (x y : W) : Option (W × Mem) := match x, y with
  | .int i, .int j => some (.int (i + j), M)
  | .str a, .str b => if a.length + b.length ≤ 16777216 then some (.str (a ++ b), M) else none
  | .tup a, .tup b => if a.length + b.length ≤ 16777216 then some (.tup (a ++ b), M) else none
  | .ref a, .ref b => match M[a]?, M[b]? with
    | some (.lst xs), some (.lst ys) => if xs.length + ys.length ≤ 16777216 then some (.ref M.length, M ++ [.lst (xs ++ ys)]) else none
    | _, _ => none
  | _, _ => none
def gSub (M : Mem) (x y : W) : Option (W × Mem) := match x, y with
  | .int i, .int j => some (.int (i - j), M)
  | _, _ => none
def small64 (i : Int) : Bool := Nat.ble i.natAbs 18446744073709551615
theorem small64_of {i : Int} (h : i.natAbs ≤ 18446744073709551615) : small64 i = true := Nat.ble_eq_true_of_le h
/-- products of ints, one of them small; a tuple k times -/
def gMul (M : Mem) (x y : W) : Option (W × Mem) := match x, y with
  | .int i, .int j => if small64 i = true ∨ small64 j = true then some (.int (i * j), M) else none
  | _, _ => none
def gRep (M : Mem) (x y : W) : Option (W × Mem) := match x, y with
  | .tup a, .int k => if a.length ≤ 1000 ∧ k ≤ 1000 then some (.tup (List.replicate k.toNat a).flatten, M) else none
  | _, _ => none
def gMod (M : Mem) (x y : W) : Option (W × Mem) := match x, y with
  | .int i, .int j => if 0 < j then some (.int (i % j), M) else none
  | _, _ => none
def gDiv (M : Mem) (x y : W) : Option (W × Mem) := match x, y with
  | .int i, .int j => if 0 < j ∧ small64 j = true then some (.int (i / j), M) else none
  | _, _ => none
def gPow (M : Mem) (x y : W) : Option (W × Mem) := match x, y with
  | .int i, .int j => if 0 ≤ j ∧ j ≤ 1000 ∧ small62 i = true then some (.int (i ^ j.toNat), M) else none
  | _, _ => none
def gNeg (M : Mem) (x : W) : Option (W × Mem) := match x with
  | .int i => some (.int (-i), M)
  | _ => none
def gLt (M : Mem) (x y : W) : Option (W × Mem) := match x, y with
  | .int i, .int j => some (.bl (decide (i < j)), M)
  | _, _ => none
def gLe (M : Mem) (x y : W) : Option (W × Mem) := match x, y with
  | .int i, .int j => some (.bl (decide (i ≤ j)), M)
  | _, _ => none
def gGt (M : Mem) (x y : W) : Option (W × Mem) := match x, y with
  | .int i, .int j => some (.bl (decide (j < i)), M)
  | _, _ => none
def gGe (M : Mem) (x y : W) : Option (W × Mem) := match x, y with
  | .int i, .int j => some (.bl (decide (j ≤ i)), M)
  | _, _ => none
def gEq (M : Mem) (x y : W) : Option (W × Mem) := (eqW M x y).map fun b => (.bl b, M)
def gNe (M : Mem) (x y : W) : Option (W × Mem) := (eqW M x y).map fun b => (.bl (!b), M)
def isN : W → Bool
  | .non => true
  | _ => false
def gIsN (M : Mem) (x : W) : Option (W × Mem) := some (.bl (isN x), M)
def gNotN (M : Mem) (x : W) : Option (W × Mem) := some (.bl (!isN x), M)
/-- the place that an index means -/
def ixW (n : Nat) (i : Int) : Option Nat := if 0 ≤ i then (if i < n then some i.toNat else none) else if -(n : Int) ≤ i then some (i + n).toNat else none
def gIx (M : Mem) (x y : W) : Option (W × Mem) := match x, y with
  | .tup a, .int i => ((ixW a.length i).bind fun j => a[j]?).map fun w => (w, M)
  | .ref n, .int i => match M[n]? with
    | some (.lst a) => ((ixW a.length i).bind fun j => a[j]?).map fun w => (w, M)
    | some (.ro a) => ((ixW a.length i).bind fun j => a[j]?).map fun w => (w, M)
    | _ => none
  | _, _ => none
/-- a slice's bound -/
def sIx (n d : Nat) : Option Int → Nat
  | none => d
  | some v => if v < 0 then (v + (n : Int)).toNat else min v.toNat n
def cutW {α : Type} (xs : List α) (lo hi : Option Int) : List α := (xs.drop (sIx xs.length 0 lo)).take (sIx xs.length xs.length hi - sIx xs.length 0 lo)
def partW : Option W → Option (Option Int)
  | none => some none
  | some (.int i) => some (some i)
  | _ => none
def gSl (M : Mem) (x : W) (lo hi : Option Int) : Option (W × Mem) := match x with
  | .tup a => some (.tup (cutW a lo hi), M)
  | .ref n => match M[n]? with
    | some (.lst a) => some (.ref M.length, M ++ [.lst (cutW a lo hi)])
    | _ => none
  | _ => none
def ePart (e : Option CE) : Sl → Mem → Option (Option Int × Mem) := fun σ M => match e with
  | none => some (none, M)
  | some c => (c σ M).bind fun p => match p.1 with
    | .int i => some (some i, p.2)
    | _ => none
def eSl (e : CE) (lo hi : Option CE) : CE := fun σ M => (e σ M).bind fun p => (ePart lo σ p.2).bind fun q => (ePart hi σ q.2).bind fun r => gSl r.2 p.1 q.1 r.1

/-! ### calls of built-ins -/
def pLen : Fn := fun ws M => match ws with
  | [.tup a] => some (.int a.length, M)
  | [.ref n] => match M[n]? with
    | some (.lst a) => some (.int a.length, M)
    | some (.ro a) => some (.int a.length, M)
    | _ => none
  | _ => none
def pMin : Fn := fun ws M => match ws with
  | [.int i, .int j] => some (.int (if j < i then j else i), M)
  | _ => none
def pMax : Fn := fun ws M => match ws with
  | [.int i, .int j] => some (.int (if j > i then j else i), M)
  | _ => none
def pAbs : Fn := fun ws M => match ws with
  | [.int i] => some (.int (if i < 0 then -i else i), M)
  | _ => none
def pList : Fn := fun ws M => match ws with
  | [.tup a] => some (.ref M.length, M ++ [.lst a])
  | [.ref n] => match M[n]? with
    | some (.lst a) => some (.ref M.length, M ++ [.lst a])
    | some (.ro a) => some (.ref M.length, M ++ [.lst a])
    | _ => none
  | _ => none
def pTuple : Fn := fun ws M => match ws with
  | [.tup a] => some (.tup a, M)
  | [.ref n] => match M[n]? with
    | some (.lst a) => some (.tup a, M)
    | some (.ro a) => some (.tup a, M)
    | _ => none
  | _ => none
/-- a value's built-in class -/
def tyW (M : Mem) (w : W) : Option String := match w with
  | .non => some "NoneType"
  | .bl _ => some "bool"
  | .int _ => some "int"
  | .str _ => some "str"
  | .tup _ => some "tuple"
  | .ref n => match M[n]? with
    | some (.lst _) => some "list"
    | some (.ro _) => some "list"
    | _ => none
def isTy (C T : String) : Bool := T == C || (T == "bool" && C == "int")
def gIsi (C : String) (M : Mem) (x : W) : Option (W × Mem) := (tyW M x).map fun T => (.bl (isTy C T), M)
def gIsi2 (C D : String) (M : Mem) (x : W) : Option (W × Mem) := (tyW M x).map fun T => (.bl (isTy C T || isTy D T), M)
/-! ### methods of lists -/
def mAppend : Fn := fun ws M => match ws with
  | [.ref n, w] => match M[n]? with
    | some (.lst a) => if a.length < 16777216 then some (.non, M.set n (.lst (a ++ [w]))) else none
    | _ => none
  | _ => none
def mPop : Fn := fun ws M => match ws with
  | [.ref n] => match M[n]? with
    | some (.lst a) => a[a.length - 1]?.map fun w => (w, M.set n (.lst a.dropLast))
    | _ => none
  | _ => none
def mPopAt : Fn := fun ws M => match ws with
  | [.ref n, .int i] => match M[n]? with
    | some (.lst a) => if small62 i = true then (ixW a.length i).bind fun j => a[j]?.map fun w => (w, M.set n (.lst (a.eraseIdx j))) else none
    | _ => none
  | _ => none
def isLst (M : Mem) (w : W) : Bool := match w with
  | .ref n => match M[n]? with
    | some (.lst _) => true
    | _ => false
  | _ => false
/-- o.m(..), o a list -/
def eML (f : Fn) (o : CE) (as : List CE) : CE := fun σ M => (o σ M).bind fun p => if isLst p.2 p.1 = true then (eArgs as σ p.2).bind fun q => f (p.1 :: q.1) q.2 else none
/-- xs[i] = w -/
def putL (M : Mem) (o k w : W) : Option Mem := match o, k with
  | .ref n, .int i => match M[n]? with
    | some (.lst a) => (ixW a.length i).map fun j => M.set n (.lst (a.set j w))
    | _ => none
  | _, _ => none

/-! ### lists of ints -/
def asInts : List W → Option (List Int)
  | [] => some []
  | .int i :: ws => (asInts ws).map (i :: ·)
  | _ :: _ => none
theorem asInts_map (ns : List Int) : asInts (ns.map W.int) = some ns := by
  induction ns with
  | nil => rfl
  | cons n ns ih => rw [List.map_cons, asInts, ih]; rfl
theorem asInts_some : ∀ {ws : List W} {ns : List Int}, asInts ws = some ns → ws = ns.map W.int
  | [], _, h => by cases h; rfl
  | .int i :: ws, ns, h => by
    rw [asInts] at h
    obtain ⟨ms, h1, rfl⟩ := Option.map_eq_some_iff.mp h
    rw [asInts_some h1]; rfl
  | .non :: _, _, h => by cases h
  | .bl _ :: _, _, h => by cases h
  | .str _ :: _, _, h => by cases h
  | .tup _ :: _, _, h => by cases h
  | .ref _ :: _, _, h => by cases h

theorem rangeW_get {lo : Int} {n i : Nat} {w : W} (h : (rangeW lo n)[i]? = some w) : i < n ∧ w = .int (lo + (i : Nat)) := by
  unfold rangeW at h
  rw [List.getElem?_map] at h
  by_cases hi : i < n
  · rw [List.getElem?_range hi] at h
    cases h
    exact ⟨hi, rfl⟩
  · rw [List.getElem?_eq_none (by simpa using hi)] at h
    cases h
theorem rangeW_length {lo : Int} {n : Nat} : (rangeW lo n).length = n := by simp [rangeW]

/-! ### ids that stand -/
mutual
def W.closed (k : Nat) : W → Bool
  | .ref n => decide (n < k)
  | .tup ws => W.closeds k ws
  | .non | .bl _ | .int _ | .str _ => true
def W.closeds (k : Nat) : List W → Bool
  | [] => true
  | w :: ws => W.closed k w && W.closeds k ws
end
def MO.closed (k : Nat) : MO → Bool
  | .lst ws | .ro ws => W.closeds k ws
  | .dT _ kvs | .dK kvs => kvs.all fun p => p.1.closed k && p.2.closed k
def Closed (M : Mem) : Prop := ∀ mo ∈ M, mo.closed M.length = true
/-- a def's body keeps the promise F: n slots; what it laid besides is forgotten -/
def KeepsP (n : Nat) (body : CS) (F : Fn) : Prop := ∀ ws M w M', Closed M → (∀ x ∈ ws, x.closed M.length = true) → F ws M = some (w, M') →
  ∃ g, (body (ws.map some ++ List.replicate (n - ws.length) none) M = some (.rt w (M' ++ g)) ∨
      w = .non ∧ ∃ σ', body (ws.map some ++ List.replicate (n - ws.length) none) M = some (.nx σ' (M' ++ g))) ∧
    M.length ≤ M'.length ∧ Closed M' ∧ w.closed M'.length = true
/-! ### other ids for the same things -/
mutual
def W.ren (r : Nat → Nat) : W → W
  | .ref n => .ref (r n)
  | .tup ws => .tup (W.rens r ws)
  | .non => .non
  | .bl b => .bl b
  | .int i => .int i
  | .str x => .str x
def W.rens (r : Nat → Nat) : List W → List W
  | [] => []
  | w :: ws => W.ren r w :: W.rens r ws
end
def MO.ren (r : Nat → Nat) : MO → MO
  | .lst ws => .lst (W.rens r ws)
  | .ro ws => .ro (W.rens r ws)
  | .dT m kvs => .dT m (kvs.map fun p => (p.1.ren r, p.2.ren r))
  | .dK kvs => .dK (kvs.map fun p => (p.1.ren r, p.2.ren r))
/-- .. up to the new things' ids -/
def Keeps (n : Nat) (body : CS) (F : Fn) : Prop := ∀ ws M w M', Closed M → (∀ x ∈ ws, x.closed M.length = true) → F ws M = some (w, M') →
  ∃ (r : Nat → Nat) (M2 : Mem), (body (ws.map some ++ List.replicate (n - ws.length) none) M = some (.rt (w.ren r) M2) ∨
      w = .non ∧ ∃ σ', body (ws.map some ++ List.replicate (n - ws.length) none) M = some (.nx σ' M2)) ∧
    (∀ i < M.length, r i = i) ∧ (∀ (i : Nat) (mo : MO), M'[i]? = some mo → M2[r i]? = some (mo.ren r)) ∧ (∀ i j, i < M'.length → j < M'.length → r i = r j → i = j) ∧
    M.length ≤ M'.length ∧ Closed M' ∧ w.closed M'.length = true
mutual
theorem W.ren_id {r : Nat → Nat} (h : ∀ i, r i = i) : ∀ w : W, w.ren r = w
  | .ref n => by rw [W.ren, h]
  | .tup ws => by rw [W.ren, W.rens_id h ws]
  | .non => rfl
  | .bl _ => rfl
  | .int _ => rfl
  | .str _ => rfl
theorem W.rens_id {r : Nat → Nat} (h : ∀ i, r i = i) : ∀ ws : List W, W.rens r ws = ws
  | [] => rfl
  | w :: ws => by rw [W.rens, W.ren_id h w, W.rens_id h ws]
end
theorem MO.ren_id (mo : MO) : mo.ren id = mo := by
  have h : ∀ i : Nat, (id i : Nat) = i := fun _ => rfl
  cases mo with
  | lst ws => rw [MO.ren, W.rens_id h]
  | ro ws => rw [MO.ren, W.rens_id h]
  | dT m kvs => rw [MO.ren]; simp [W.ren_id h]
  | dK kvs => rw [MO.ren]; simp [W.ren_id h]
theorem KeepsP.keeps {n : Nat} {body : CS} {F : Fn} (h : KeepsP n body F) : Keeps n body F := by
  intro ws M w M' hc hw e
  obtain ⟨g, h1, h2, h3, h4⟩ := h ws M w M' hc hw e
  refine ⟨id, M' ++ g, by rw [W.ren_id (r := id) fun _ => rfl]; exact h1, fun _ _ => rfl, fun i mo hi => ?_, fun _ _ _ _ e => e, h2, h3, h4⟩
  rw [MO.ren_id]
  show (M' ++ g)[i]? = _
  rw [List.getElem?_append_left (List.getElem?_eq_some_iff.mp hi).1]; exact hi
mutual
theorem W.ren_eq {r : Nat → Nat} {k : Nat} (h : ∀ i < k, r i = i) : ∀ w : W, w.closed k = true → w.ren r = w
  | .ref n, c => by rw [W.closed] at c; rw [W.ren, h n (of_decide_eq_true c)]
  | .tup ws, c => by rw [W.closed] at c; rw [W.ren, W.rens_eq h ws c]
  | .non, _ => rfl
  | .bl _, _ => rfl
  | .int _, _ => rfl
  | .str _, _ => rfl
theorem W.rens_eq {r : Nat → Nat} {k : Nat} (h : ∀ i < k, r i = i) : ∀ ws : List W, W.closeds k ws = true → W.rens r ws = ws
  | [], _ => rfl
  | w :: ws, c => by
    rw [W.closeds, Bool.and_eq_true] at c
    rw [W.rens, W.ren_eq h w c.1, W.rens_eq h ws c.2]
end
theorem MO.ren_eq {r : Nat → Nat} {k : Nat} (h : ∀ i < k, r i = i) {mo : MO} (c : mo.closed k = true) : mo.ren r = mo := by
  cases mo with
  | lst ws => rw [MO.ren, W.rens_eq h ws c]
  | ro ws => rw [MO.ren, W.rens_eq h ws c]
  | dT m kvs =>
    rw [MO.ren]
    congr 1
    rw [MO.closed, List.all_eq_true] at c
    refine (List.map_congr_left fun p hp => ?_).trans (List.map_id _)
    have := c p hp
    rw [Bool.and_eq_true] at this
    rw [W.ren_eq h _ this.1, W.ren_eq h _ this.2]; rfl
  | dK kvs =>
    rw [MO.ren]
    congr 1
    rw [MO.closed, List.all_eq_true] at c
    refine (List.map_congr_left fun p hp => ?_).trans (List.map_id _)
    have := c p hp
    rw [Bool.and_eq_true] at this
    rw [W.ren_eq h _ this.1, W.ren_eq h _ this.2]; rfl
end BF

set_option Elab.async false
set_option linter.all false
set_option autoImplicit false
set_option maxRecDepth 100000
/-! The plain reading is kept by the program: one rule a construct, lifted from the hand layer's. -/
namespace BF
open PySem PySem.Spec
open PyProof.Rows L2

/-- the known objects, and the world -/
structure KW where
  fr : PySem.W.Frag
  wd : World
instance : Coe KW PySem.W.Frag := ⟨KW.fr⟩
abbrev _root_.L2.Cx.KW (X : L2.Cx) : KW := ⟨X.K, X.w⟩
/-! ### reading values off the abstract heap -/
mutual
inductive Rd (K : KW) (H : Hp) (loc : List Addr) : V → W → Prop
  | non : Rd K H loc .non .non
  | bl (b : Bool) : Rd K H loc (.bl b) (.bl b)
  | int (i : Int) : Rd K H loc (.int i) (.int i)
  | str (x : Str) : PyData.strOk x = true → x.length ≤ 16777216 → Rd K H loc (.str x) (.str x)
  | tup {a : Addr} {xs : List V} {ws : List W} : SqT K H a xs → Rds K H loc xs ws → Rd K H loc (.ref a) (.tup ws)
  | ref {a : Addr} {n : Nat} : loc[n]? = some a → Rd K H loc (.ref a) (.ref n)
inductive Rds (K : KW) (H : Hp) (loc : List Addr) : List V → List W → Prop
  | nil : Rds K H loc [] []
  | cons {v : V} {vs : List V} {w : W} {ws : List W} : Rd K H loc v w → Rds K H loc vs ws → Rds K H loc (v :: vs) (w :: ws)
end

/-- what stays: tuples, and what is locked -/
structure Ext (K : KW) (H H' : Hp) : Prop where
  tup : ∀ a xs, SqT K H a xs → SqT K H' a xs
  frz : ∀ a o u, H a = some (.frz o u) → H' a = some (.frz o u)
theorem Ext.refl {K : KW} {H : Hp} : Ext K H H := ⟨fun _ _ h => h, fun _ _ _ h => h⟩
theorem Ext.trans {K : KW} {H H1 H2 : Hp} (a : Ext K H H1) (b : Ext K H1 H2) : Ext K H H2 := ⟨fun _ _ h => b.tup _ _ (a.tup _ _ h), fun _ _ _ h => b.frz _ _ _ (a.frz _ _ _ h)⟩
theorem Ext.new {K : KW} {H : Hp} {p : Addr} {o : HO} (hp : H p = none) : Ext K H (upd H p o) := ⟨fun a xs h => by
  rcases h with (h | ⟨u, h⟩) | h
  · exact .inl (.inl (by rw [upd_ne (ne_of_none h hp)]; exact h))
  · exact .inl (.inr ⟨u, by rw [upd_ne (ne_of_none h hp)]; exact h⟩)
  · exact .inr h, fun a o u h => by rw [upd_ne (ne_of_none h hp)]; exact h⟩
/-- what is changed is no tuple, and not locked -/
theorem Ext.upd {K : KW} {H : Hp} {p : Addr} {o u : HO} (hp : H p = some u) (m : Mut (some u)) : Ext K H (upd H p o) := ⟨fun a xs h => by
  rcases h with (h | ⟨v, h⟩) | h
  · refine .inl (.inl ?_)
    rw [upd_ne fun e => ?_]
    · exact h
    · subst e; rw [hp] at h; cases h; exact m
  · refine .inl (.inr ⟨v, ?_⟩)
    rw [upd_ne fun e => ?_]
    · exact h
    · subst e; rw [hp] at h; cases h; exact m
  · exact .inr h, fun a o u h => by
  rw [upd_ne fun e => ?_]
  · exact h
  · subst e; rw [hp] at h; cases h; exact m⟩

section
variable {K : KW} {H H' : Hp} {loc loc' : List Addr}
theorem pre_get {α : Type} {l l' : List α} (h : l <+: l') {n : Nat} {a : α} (e : l[n]? = some a) : l'[n]? = some a := by
  obtain ⟨r, rfl⟩ := h
  rw [List.getElem?_append_left (List.getElem?_eq_some_iff.mp e).1]; exact e
mutual
theorem Rd.mono (e : Ext K H H') (l : loc <+: loc') : ∀ {v : V} {w : W}, Rd K H loc v w → Rd K H' loc' v w
  | _, _, .non => .non
  | _, _, .bl b => .bl b
  | _, _, .int i => .int i
  | _, _, .str x h h2 => .str x h h2
  | _, _, .tup h r => .tup (e.tup _ _ h) (Rds.mono e l r)
  | _, _, .ref h => .ref (pre_get l h)
theorem Rds.mono (e : Ext K H H') (l : loc <+: loc') : ∀ {vs : List V} {ws : List W}, Rds K H loc vs ws → Rds K H' loc' vs ws
  | _, _, .nil => .nil
  | _, _, .cons r rs => .cons (Rd.mono e l r) (Rds.mono e l rs)
end
theorem Rds.length : ∀ {vs : List V} {ws : List W}, Rds K H loc vs ws → vs.length = ws.length
  | _, _, .nil => rfl
  | _, _, .cons _ r => by rw [List.length_cons, List.length_cons, r.length]
theorem Rds.get : ∀ {vs : List V} {ws : List W} {i : Nat} {w : W}, Rds K H loc vs ws → ws[i]? = some w → ∃ v, vs[i]? = some v ∧ Rd K H loc v w
  | _, _, _, _, .nil, e => by simp at e
  | _, _, 0, _, .cons r _, e => ⟨_, rfl, by simp at e; subst e; exact r⟩
  | _, _, i + 1, _, .cons _ r, e => by
    obtain ⟨v, h1, h2⟩ := r.get (i := i) (by simpa using e)
    exact ⟨v, by simpa using h1, h2⟩
theorem Rds.get' : ∀ {vs : List V} {ws : List W} {i : Nat} {v : V}, Rds K H loc vs ws → vs[i]? = some v → ∃ w, ws[i]? = some w ∧ Rd K H loc v w
  | _, _, _, _, .nil, e => by simp at e
  | _, _, 0, _, .cons r _, e => ⟨_, rfl, by simp at e; subst e; exact r⟩
  | _, _, i + 1, _, .cons _ r, e => by
    obtain ⟨v, h1, h2⟩ := r.get' (i := i) (by simpa using e)
    exact ⟨v, by simpa using h1, h2⟩
theorem Rds.append : ∀ {vs us : List V} {ws zs : List W}, Rds K H loc vs ws → Rds K H loc us zs → Rds K H loc (vs ++ us) (ws ++ zs)
  | _, _, _, _, .nil, s => s
  | _, _, _, _, .cons r rs, s => .cons r (rs.append s)
theorem Rds.take : ∀ {vs : List V} {ws : List W} (n : Nat), Rds K H loc vs ws → Rds K H loc (vs.take n) (ws.take n)
  | _, _, 0, _ => .nil
  | _, _, _ + 1, .nil => .nil
  | _, _, n + 1, .cons r rs => .cons r (rs.take n)
theorem Rds.drop : ∀ {vs : List V} {ws : List W} (n : Nat), Rds K H loc vs ws → Rds K H loc (vs.drop n) (ws.drop n)
  | _, _, 0, r => r
  | _, _, _ + 1, .nil => .nil
  | _, _, n + 1, .cons _ rs => rs.drop n
theorem Rds.set {v : V} {w : W} (r : Rd K H loc v w) : ∀ {vs : List V} {ws : List W} (i : Nat), Rds K H loc vs ws → Rds K H loc (vs.set i v) (ws.set i w)
  | _, _, _, .nil => .nil
  | _, _, 0, .cons _ rs => .cons r rs
  | _, _, i + 1, .cons q rs => .cons q (Rds.set r i rs)
theorem Rds.erase : ∀ {vs : List V} {ws : List W} (i : Nat), Rds K H loc vs ws → Rds K H loc (vs.eraseIdx i) (ws.eraseIdx i)
  | _, _, _, .nil => .nil
  | _, _, 0, .cons _ rs => rs
  | _, _, i + 1, .cons q rs => .cons q (Rds.erase i rs)
theorem Rds.dropLast {vs : List V} {ws : List W} (h : Rds K H loc vs ws) : Rds K H loc vs.dropLast ws.dropLast := by
  rw [List.dropLast_eq_take, List.dropLast_eq_take, h.length]; exact h.take _
theorem Rds.rep {vs : List V} {ws : List W} (h : Rds K H loc vs ws) : ∀ k : Nat, Rds K H loc (List.replicate k vs).flatten (List.replicate k ws).flatten
  | 0 => .nil
  | k + 1 => by rw [List.replicate_succ, List.replicate_succ, List.flatten_cons, List.flatten_cons]; exact h.append (Rds.rep h k)
theorem Rds.rev : ∀ {vs : List V} {ws : List W}, Rds K H loc vs ws → Rds K H loc vs.reverse ws.reverse
  | _, _, .nil => .nil
  | _, _, .cons r rs => by rw [List.reverse_cons, List.reverse_cons]; exact rs.rev.append (.cons r .nil)

/-! ### the memory -/
/-- a list that nobody writes -/
def RO (K : KW) (H : Hp) (a : Addr) (xs : List V) : Prop := (∃ o, H a = some (.frz o (.lst xs))) ∨
  ∃ (o : Obj) (its : Array Value) (n : Nat), K.fr.lookup a = some o ∧ o.cls = .type "list" ∧ o.dict = none ∧ o.data = .seq its n ∧ its.size ≤ sizeLine ∧ Vals xs its.toList
theorem RO.sq {a : Addr} {xs : List V} (h : RO K H a xs) : SqL K H a xs := by
  rcases h with ⟨o, h⟩ | h
  · exact .inl (.inr ⟨o, h⟩)
  · exact .inr h
/-- a key that is a number or a text -/
def keyW : Key → W
  | .inl i => .int i
  | .inr x => .str x
def KeyOk : Key → Prop
  | .inl _ => True
  | .inr x => PyData.strOk x = true ∧ x.length ≤ 16777216
mutual
/-- a value as a key of a dict keyed by nested tuples -/
def keyN : W → Option NestedKey
  | .non => some .none
  | .bl b => some (.num (if b = true then 1 else 0))
  | .int i => some (.num i)
  | .str x => some (.text x)
  | .tup ws => (keyNs ws).map .tup
  | .ref _ => none
def keyNs : List W → Option (List NestedKey)
  | [] => some []
  | w :: ws => match keyN w, keyNs ws with
    | some k, some ks => some (k :: ks)
    | _, _ => none
end
/-- the dict at a, keyed by nested tuples: keys, where their tuples stand, values -/
abbrev NE := List (NestedKey × Addr × V)
def entryN (w : World) (x : NestedKey × Addr × Value) : DictEntry := ⟨x.1.hash w, .ref x.2.1, x.2.2⟩
abbrev NP : NE → List (NestedKey × Addr × Value) → Prop := Paired fun p q => p.1 = q.1 ∧ p.2.1 = q.2.1 ∧ RelV p.2.2 q.2.2
def nestO (w : World) (a : Addr) (es : NE) : HO := .ext fun h => es.length ≤ sizeLine ∧ (a == sysModules) = false ∧ ∃ xs : List (NestedKey × Addr × Value), NP es xs ∧
  ∃ o en ep, h.get? a = some o ∧ o.ExactDict ∧ o.data = .dict en ep ∧ en.toList = xs.map (entryN w) ∧ (xs.map (·.1)).Nodup
structure NestOk (K : KW) (H : Hp) (loc : List Addr) (es : NE) (ws : List (W × W)) : Prop where
  keys : es.map (fun e => some e.1) = ws.map (fun p => keyN p.1)
  dep : ∀ e ∈ es, e.1.depth ≤ 8
  ks : Rds K H loc (es.map fun e => V.ref e.2.1) (ws.map (·.1))
  vs : Rds K H loc (es.map fun e => e.2.2) (ws.map (·.2))
theorem NestOk.mono {es : NE} {ws : List (W × W)} (e : Ext K H H') (l : loc <+: loc') (h : NestOk K H loc es ws) : NestOk K H' loc' es ws := ⟨h.keys, h.dep, h.ks.mono e l, h.vs.mono e l⟩
structure FlatOk (K : KW) (H : Hp) (loc : List Addr) (kvs : List (Key × V)) (ws : List (W × W)) : Prop where
  keys : kvs.map (fun p => keyW p.1) = ws.map (·.1)
  ok : ∀ p ∈ kvs, KeyOk p.1
  vs : Rds K H loc (kvs.map (·.2)) (ws.map (·.2))
theorem FlatOk.mono {kvs : List (Key × V)} {ws : List (W × W)} (e : Ext K H H') (l : loc <+: loc') (h : FlatOk K H loc kvs ws) : FlatOk K H' loc' kvs ws := ⟨h.keys, h.ok, h.vs.mono e l⟩
def MOk (K : KW) (H : Hp) (loc : List Addr) (a : Addr) : MO → Prop
  | .lst ws => ∃ xs, H a = some (.lst xs) ∧ Rds K H loc xs ws
  | .ro ws => ∃ xs, RO K H a xs ∧ Rds K H loc xs ws
  | .dK ws => ∃ kvs : List (Key × V), H a = some (.dK kvs) ∧ kvs.map (fun p => keyW p.1) = ws.map (·.1) ∧ (∀ p ∈ kvs, KeyOk p.1) ∧ Rds K H loc (kvs.map (·.2)) (ws.map (·.2))
  | .dT .nest ws => ∃ es, H a = some (nestO K.wd a es) ∧ NestOk K H loc es ws
  | .dT .lockF ws => ∃ o kvs, H a = some (.frz o (.dK kvs)) ∧ FlatOk K H loc kvs ws
  | .dT .lockN ws => ∃ o es, H a = some (.frz o (nestO K.wd a es)) ∧ NestOk K H loc es ws
/-- written while it stands so -/
def isMut : MO → Bool
  | .ro _ => false
  | .dT .lockF _ => false
  | .dT .lockN _ => false
  | _ => true
/-- one id alone for it -/
def isOwn : MO → Bool
  | .ro _ => false
  | _ => true
theorem own_of {mo : MO} (h : isMut mo = true) : isOwn mo = true := by
  cases mo with
  | ro _ => cases h
  | _ => rfl
structure Store (K : KW) (H : Hp) (loc : List Addr) (M : Mem) : Prop where
  len : loc.length = M.length
  ok : ∀ (i : Nat) (a : Addr) (mo : MO), loc[i]? = some a → M[i]? = some mo → MOk K H loc a mo
  apart : ∀ (i j : Nat) (a : Addr) (m n : MO), loc[i]? = some a → loc[j]? = some a → M[i]? = some m → M[j]? = some n → isOwn m = true → isOwn n = true → i = j
theorem Store.at {M : Mem} (s : Store K H loc M) {i : Nat} {mo : MO} (h : M[i]? = some mo) : ∃ a, loc[i]? = some a ∧ MOk K H loc a mo := by
  have hi : i < loc.length := by rw [s.len]; exact (List.getElem?_eq_some_iff.mp h).1
  exact ⟨loc[i], List.getElem?_eq_getElem hi, s.ok i _ mo (List.getElem?_eq_getElem hi) h⟩
theorem RO.same {a : Addr} {xs : List V} (h : RO K H a xs) (hH : ∀ o, H a = some (.frz o (.lst xs)) → H' a = some (.frz o (.lst xs))) : RO K H' a xs := by
  rcases h with ⟨o, h⟩ | h
  · exact .inl ⟨o, hH o h⟩
  · exact .inr h
theorem MOk.mono {a : Addr} {mo : MO} (e : Ext K H H') (l : loc <+: loc') (hH : ∀ o, H a = some o → H' a = some o) (h : MOk K H loc a mo) : MOk K H' loc' a mo := by
  cases mo with
  | lst ws => obtain ⟨xs, h1, h2⟩ := h; exact ⟨xs, hH _ h1, h2.mono e l⟩
  | ro ws => obtain ⟨xs, h1, h2⟩ := h; exact ⟨xs, h1.same fun o q => hH _ q, h2.mono e l⟩
  | dK ws => obtain ⟨kvs, h1, h2, h3, h4⟩ := h; exact ⟨kvs, hH _ h1, h2, h3, h4.mono e l⟩
  | dT m ws =>
    cases m with
    | nest => obtain ⟨es, h1, h2⟩ := h; exact ⟨es, hH _ h1, h2.mono e l⟩
    | lockF => obtain ⟨o, es, h1, h2⟩ := h; exact ⟨o, es, hH _ h1, h2.mono e l⟩
    | lockN => obtain ⟨o, es, h1, h2⟩ := h; exact ⟨o, es, hH _ h1, h2.mono e l⟩
/-- a mutable thing is tracked as such -/
theorem MOk.there {a : Addr} {mo : MO} (m : isMut mo = true) (h : MOk K H loc a mo) : ∃ o, H a = some o ∧ Mut (some o) := by
  cases mo with
  | lst ws => obtain ⟨xs, h1, h2⟩ := h; exact ⟨_, h1, trivial⟩
  | ro ws => cases m
  | dK ws => obtain ⟨kvs, h1, _⟩ := h; exact ⟨_, h1, trivial⟩
  | dT q ws =>
    cases q with
    | nest => obtain ⟨es, h1, h2⟩ := h; exact ⟨_, h1, trivial⟩
    | lockF => cases m
    | lockN => cases m
theorem MOk.thereO {a : Addr} {mo : MO} (m : isOwn mo = true) (h : MOk K H loc a mo) : ∃ o, H a = some o := by
  cases mo with
  | lst ws => obtain ⟨xs, h1, h2⟩ := h; exact ⟨_, h1⟩
  | ro ws => cases m
  | dK ws => obtain ⟨kvs, h1, _⟩ := h; exact ⟨_, h1⟩
  | dT q ws =>
    cases q with
    | nest => obtain ⟨es, h1, h2⟩ := h; exact ⟨_, h1⟩
    | lockF => obtain ⟨o, es, h1, h2⟩ := h; exact ⟨_, h1⟩
    | lockN => obtain ⟨o, es, h1, h2⟩ := h; exact ⟨_, h1⟩
theorem ro_of {mo : MO} (h : isOwn mo = false) : isMut mo = false := by
  cases mo with
  | ro _ => rfl
  | _ => cases h
/-- what nobody writes stands while mutable things change -/
theorem MOk.calm {a : Addr} {mo : MO} {u v : HO} (z : isMut mo = false) (hu : H a = some u) (mu : Mut (some u)) (h : MOk K H loc a mo) : MOk K (upd H a v) loc a mo := by
  cases mo with
  | lst _ => cases z
  | ro ws =>
    obtain ⟨xs, r1, r2⟩ := h
    rcases r1 with ⟨o, r1⟩ | r1
    · rw [hu] at r1; cases r1; exact mu.elim
    · exact ⟨xs, .inr r1, r2.mono (.upd hu mu) (List.prefix_refl _)⟩
  | dK _ => cases z
  | dT q ws =>
    cases q with
    | nest => cases z
    | lockF => obtain ⟨o, es, r1, _⟩ := h; rw [hu] at r1; cases r1; exact mu.elim
    | lockN => obtain ⟨o, es, r1, _⟩ := h; rw [hu] at r1; cases r1; exact mu.elim
theorem Store.ext {M : Mem} (s : Store K H loc M) (e : Ext K H H') (hH : ∀ a o, H a = some o → H' a = some o) : Store K H' loc M :=
  ⟨s.len, fun i a mo h1 h2 => (s.ok i a mo h1 h2).mono e (List.prefix_refl _) (hH a), s.apart⟩
/-- a tuple is laid -/
theorem Store.newT {M : Mem} {p : Addr} {o : HO} (s : Store K H loc M) (hp : H p = none) : Store K (upd H p o) loc M :=
  s.ext (.new hp) fun a u h => by rw [upd_ne (ne_of_none h hp)]; exact h
/-- a list is laid -/
theorem Store.new {M : Mem} {p : Addr} {o : HO} {mo : MO} (s : Store K H loc M) (hp : H p = none) (hm : MOk K (upd H p o) (loc ++ [p]) p mo) : Store K (upd H p o) (loc ++ [p]) (M ++ [mo]) := by
  have hlt : ∀ {i : Nat} {a : Addr} {m : MO}, (loc ++ [p])[i]? = some a → (M ++ [mo])[i]? = some m → (loc[i]? = some a ∧ M[i]? = some m) ∨ (i = M.length ∧ a = p ∧ m = mo) := fun {i a m} h1 h2 => by
    by_cases hi : i < M.length
    · rw [List.getElem?_append_left (by rw [s.len]; exact hi)] at h1
      rw [List.getElem?_append_left hi] at h2
      exact .inl ⟨h1, h2⟩
    · rw [List.getElem?_append_right (by rw [s.len]; omega)] at h1
      rw [List.getElem?_append_right (by omega)] at h2
      have e := (List.getElem?_eq_some_iff.mp h2).1
      simp only [List.length_cons, List.length_nil] at e
      have e0 : i = M.length := by omega
      subst e0
      rw [s.len] at h1
      simp at h1 h2
      exact .inr ⟨rfl, h1.symm, h2.symm⟩
  refine ⟨by simp [s.len], fun i a m h1 h2 => ?_, fun i j a m n h1 h2 h3 h4 m1 m2 => ?_⟩
  · rcases hlt h1 h2 with ⟨h1, h2⟩ | ⟨_, rfl, rfl⟩
    · exact (s.ok i a m h1 h2).mono (.new hp) (List.prefix_append _ _) fun o h => by rw [upd_ne (ne_of_none h hp)]; exact h
    · exact hm
  · rcases hlt h1 h3 with ⟨g1, g3⟩ | ⟨e1, e2, _⟩
    · rcases hlt h2 h4 with ⟨g2, g4⟩ | ⟨_, e2, _⟩
      · exact s.apart i j a m n g1 g2 g3 g4 m1 m2
      · obtain ⟨o, q⟩ := (s.ok i a m g1 g3).thereO m1
        rw [e2, hp] at q; cases q
    · rcases hlt h2 h4 with ⟨g2, g4⟩ | ⟨e3, _, _⟩
      · obtain ⟨o, q⟩ := (s.ok j a n g2 g4).thereO m2
        rw [e2, hp] at q; cases q
      · rw [e1, e3]
/-- a mutable thing is changed -/
theorem Store.put0 {M : Mem} {i : Nat} {a : Addr} {m mo : MO} {o : HO} (s : Store K H loc M) (h1 : loc[i]? = some a) (h2 : M[i]? = some m) (m1 : isMut m = true) (hm : MOk K (upd H a o) loc a mo) : Store K (upd H a o) loc (M.set i mo) := by
  obtain ⟨u, hu, mu⟩ := (s.ok i a m h1 h2).there m1
  have hi : i < M.length := (List.getElem?_eq_some_iff.mp h2).1
  refine ⟨by simp [s.len], fun j b n q1 q2 => ?_, fun j k b m' n' q1 q2 q3 q4 z1 z2 => ?_⟩
  · by_cases e : i = j
    · subst e
      rw [List.getElem?_set_self hi] at q2
      cases q2
      rw [h1] at q1; cases q1
      exact hm
    · rw [List.getElem?_set_ne e] at q2
      have hb := s.ok j b n q1 q2
      have en : b ≠ a ∨ (isOwn n = false ∧ b = a) := by
        by_cases eb : b = a
        · subst eb
          refine .inr ⟨?_, rfl⟩
          cases z : isOwn n with
          | false => rfl
          | true => exact absurd (s.apart i j b m n h1 q1 h2 q2 (own_of m1) z) e
        · exact .inl eb
      rcases en with en | ⟨z, rfl⟩
      · exact hb.mono (.upd hu mu) (List.prefix_refl _) fun o h => by rw [upd_ne en]; exact h
      · exact hb.calm (ro_of z) hu mu
  · have wt : ∀ {x : Nat} {b : Addr} {y : MO}, (M.set i mo)[x]? = some y → isOwn y = true → ∃ y', M[x]? = some y' ∧ isOwn y' = true := fun {x b y} q z => by
      by_cases e : i = x
      · subst e; exact ⟨m, h2, own_of m1⟩
      · rw [List.getElem?_set_ne e] at q; exact ⟨y, q, z⟩
    obtain ⟨y1, w1, w2⟩ := wt (b := b) q3 z1
    obtain ⟨y2, w3, w4⟩ := wt (b := b) q4 z2
    exact s.apart j k b y1 y2 q1 q2 w1 w3 w2 w4

theorem Store.put {M : Mem} {i : Nat} {a : Addr} {m mo : MO} {o : HO} (s : Store K H loc M) (h1 : loc[i]? = some a) (h2 : M[i]? = some m) (m1 : isMut m = true) (m2 : isMut mo = true) (hm : MOk K (upd H a o) loc a mo) : Store K (upd H a o) loc (M.set i mo) := s.put0 h1 h2 m1 hm

structure Rel (K : KW) (loc : List Addr) (σ : Sl) (M : Mem) (σV : L2.St) (H : Hp) : Prop where
  st : Store K H loc M
  len : σ.length = σV.length
  sl : ∀ (i : Nat) (w : W), σ[i]? = some (some w) → ∃ v, σV[i]? = some (some v) ∧ Rd K H loc v w
theorem Rel.move {σ : Sl} {M M' : Mem} {σV : L2.St} (r : Rel K loc σ M σV H) (s : Store K H' loc' M') (e : Ext K H H') (l : loc <+: loc') : Rel K loc' σ M' σV H' :=
  ⟨s, r.len, fun i w h => by
    obtain ⟨v, h1, h2⟩ := r.sl i w h
    exact ⟨v, h1, h2.mono e l⟩⟩
theorem Rel.set {σ : Sl} {M : Mem} {σV : L2.St} (r : Rel K loc σ M σV H) {v : V} {w : W} (h : Rd K H loc v w) (i : Nat) : Rel K loc (σ.set i (some w)) M (σV.set i (some v)) H :=
  ⟨r.st, by rw [List.length_set, List.length_set]; exact r.len, fun j u e => by
    by_cases hij : i = j
    · subst hij
      have hi : i < σ.length := by have := (List.getElem?_eq_some_iff.mp e).1; simpa using this
      rw [List.getElem?_set_self hi] at e
      cases e
      exact ⟨v, by rw [List.getElem?_set_self (by rw [← r.len]; exact hi)], h⟩
    · rw [List.getElem?_set_ne hij] at e
      rw [List.getElem?_set_ne hij]
      exact r.sl j u e⟩
theorem Rel.unset {σ : Sl} {M : Mem} {σV : L2.St} (r : Rel K loc σ M σV H) (i : Nat) : Rel K loc (σ.set i none) M (σV.set i none) H :=
  ⟨r.st, by rw [List.length_set, List.length_set]; exact r.len, fun j u e => by
    by_cases hij : i = j
    · subst hij
      by_cases hi : i < σ.length
      · rw [List.getElem?_set_self hi] at e; cases e
      · rw [List.getElem?_eq_none (by simpa using hi)] at e; cases e
    · rw [List.getElem?_set_ne hij] at e
      rw [List.getElem?_set_ne hij]
      exact r.sl j u e⟩
theorem Rel.wipe {σ : Sl} {M : Mem} {σV : L2.St} (r : Rel K loc σ M σV H) : ∀ vs : List Nat, Rel K loc (wipe σ vs) M (L2.wipe σV vs) H
  | [] => r
  | v :: vs => (Rel.wipe r vs).unset v
end

/-! ### the readings -/
/-- what is wanted behind an expression -/
def Aft (K : KW) (H : Hp) (loc : List Addr) (w : W) (M' : Mem) (Q : VK) : Prop :=
  ∀ v H' loc', Store K H' loc' M' → Rd K H' loc' v w → Ext K H H' → loc <+: loc' → Q v H'
def TC (K : KW) (c : CE) : TE := fun σV H Q => ∃ loc σ M w M', Rel K loc σ M σV H ∧ c σ M = some (w, M') ∧ Aft K H loc w M' Q
def TA' (K : KW) (c : CA) : TA := fun σV H Q => ∃ loc σ M ws M', Rel K loc σ M σV H ∧ c σ M = some (ws, M') ∧
  ∀ vs H' loc', Store K H' loc' M' → Rds K H' loc' vs ws → Ext K H H' → loc <+: loc' → Q vs H'
def TT' (K : KW) (c : CT) : TT := fun σV H Q => ∃ loc σ M b M', Rel K loc σ M σV H ∧ c σ M = some (b, M') ∧
  ∀ H' loc', Store K H' loc' M' → Ext K H H' → loc <+: loc' → Q b H'
def TG' (K : KW) (c : CG) : TG := fun v σV H Q => ∃ loc σ M w σ', Rel K loc σ M σV H ∧ Rd K H loc v w ∧ c w σ = some σ' ∧ ∀ σV', Rel K loc σ' M σV' H → Q σV' H
def TGs' (K : KW) (c : List CG) : TGs := fun vs σV H Q => ∃ loc σ M ws σ', Rel K loc σ M σV H ∧ Rds K H loc vs ws ∧ gAll c ws σ = some σ' ∧ ∀ σV', Rel K loc σ' M σV' H → Q σV' H
def AftS (K : KW) (H : Hp) (loc : List Addr) (D : Ends) : Out → Prop
  | .nx σ' M' => ∀ σV' H' loc', Rel K loc' σ' M' σV' H' → Ext K H H' → loc <+: loc' → D.nx σV' H'
  | .bk σ' M' => ∀ σV' H' loc', Rel K loc' σ' M' σV' H' → Ext K H H' → loc <+: loc' → D.bk σV' H'
  | .ct σ' M' => ∀ σV' H' loc', Rel K loc' σ' M' σV' H' → Ext K H H' → loc <+: loc' → D.ct σV' H'
  | .rt w M' => Aft K H loc w M' D.rt
def TS' (K : KW) (c : CS) : TS := fun D σV H => ∃ loc σ M o, Rel K loc σ M σV H ∧ c σ M = some o ∧ AftS K H loc D o

abbrev EV (X : Cx) (e : Expr) (c : CE) : Prop := PE X e (TC X.KW c)
abbrev EA (X : Cx) (es : List Expr) (c : List CE) : Prop := PA X es (TA' X.KW (eArgs c))
abbrev ET (X : Cx) (e : Expr) (c : CT) : Prop := PT X e (TT' X.KW c)
abbrev EW (X : Cx) (e : Expr) (c : CT) : Prop := PW X e (TT' X.KW c)
abbrev EG (X : Cx) (e : Expr) (c : CG) : Prop := PG X e (TG' X.KW c)
abbrev EGs (X : Cx) (es : List Expr) (c : List CG) : Prop := PGs X es (TGs' X.KW c)
abbrev ES (X : Cx) (s : Stmt) (c : CS) : Prop := PS X s (TS' X.KW c)
abbrev ESs (X : Cx) (s : List Stmt) (c : CS) : Prop := PSs X s (TS' X.KW c)

theorem _root_.L2.PE.mono {X : Cx} {e : Expr} {t t' : TE} (h : PE X e t) (f : ∀ σ H Q, t' σ H Q → t σ H Q) : PE X e t' := ⟨fun p s σ H Q I q => h.run p s σ H Q I (f σ H Q q)⟩
theorem _root_.L2.PA.mono {X : Cx} {e : List Expr} {t t' : TA} (h : PA X e t) (f : ∀ σ H Q, t' σ H Q → t σ H Q) : PA X e t' := ⟨fun o p s σ H Q I q => h.run o p s σ H Q I (f σ H Q q)⟩
theorem _root_.L2.PT.mono {X : Cx} {e : Expr} {t t' : TT} (h : PT X e t) (f : ∀ σ H Q, t' σ H Q → t σ H Q) : PT X e t' := ⟨fun p s σ H Q I q => h.run p s σ H Q I (f σ H Q q)⟩
theorem _root_.L2.PW.mono {X : Cx} {e : Expr} {t t' : TT} (h : PW X e t) (f : ∀ σ H Q, t' σ H Q → t σ H Q) : PW X e t' := ⟨fun o p s σ H Q I q => h.run o p s σ H Q I (f σ H Q q)⟩
theorem _root_.L2.PG.mono {X : Cx} {e : Expr} {t t' : TG} (h : PG X e t) (f : ∀ v σ H Q, t' v σ H Q → t v σ H Q) : PG X e t' := ⟨fun p s σ H v u Q I r q => h.run p s σ H v u Q I r (f v σ H Q q)⟩
theorem _root_.L2.PGs.mono {X : Cx} {e : List Expr} {t t' : TGs} (h : PGs X e t) (f : ∀ v σ H Q, t' v σ H Q → t v σ H Q) : PGs X e t' := ⟨fun p s σ H v u Q I r q => h.run p s σ H v u Q I r (f v σ H Q q)⟩
theorem _root_.L2.PS.mono {X : Cx} {e : Stmt} {t t' : TS} (h : PS X e t) (f : ∀ D σ H, t' D σ H → t D σ H) : PS X e t' := ⟨fun p s σ H D I q => h.run p s σ H D I (f D σ H q)⟩
theorem _root_.L2.PSs.mono {X : Cx} {e : List Stmt} {t t' : TS} (h : PSs X e t) (f : ∀ D σ H, t' D σ H → t D σ H) : PSs X e t' := ⟨fun p s σ H D I q => h.run p s σ H D I (f D σ H q)⟩
end BF

set_option Elab.async false
set_option linter.all false
set_option autoImplicit false
set_option maxRecDepth 100000
/-! The rules: expressions, tests, targets, statements. -/
namespace BF
open PySem PySem.Spec
open PyProof.Rows L2

section
variable {X : Cx} {a b c e : Expr} {ca cb cc : CE} {pos : Pos}

/-! ### names, constants -/
theorem bind_some {α β : Type} {x : Option α} {f : α → Option β} {b : β} (h : x.bind f = some b) : ∃ a, x = some a ∧ f a = some b := Option.bind_eq_some_iff.mp h
theorem r_var (i : Nat) {x : Str} (hN : X.N[i]? = some x := by rfl)
    (hv : Vis X.env.scope x := by first | exact Or.inl rfl | exact Or.inr (Or.inl rfl) | exact Or.inr (Or.inr rfl))
    (hd : (x == ("__debug__" : Str)) = false := by decide) (hcd : (x == ("__classdict__" : Str)) = false := by decide) : EV X (.Name x pos) (eV i) :=
  (pe_var hN hv hd hcd).mono fun σV H Q ⟨loc, σ, M, w, M', rel, e, aft⟩ => by
    have h : σ.getD i none = some w ∧ M' = M := by
      unfold eV at e
      split at e
      · rename_i u hu; cases e; exact ⟨hu, rfl⟩
      · cases e
    obtain ⟨h, rfl⟩ := h
    have h' : σ[i]? = some (some w) := by
      rw [List.getD_eq_getElem?_getD] at h
      cases q : σ[i]? with
      | none => rw [q] at h; cases h
      | some z => rw [q] at h; exact congrArg some h
    obtain ⟨v, h1, h2⟩ := rel.sl i w h'
    exact ⟨v, h1, aft v H loc rel.st h2 .refl (List.prefix_refl _)⟩
theorem lit_aux {v : V} {w : W} (hr : ∀ H loc, Rd X.KW H loc v w) (h : PE X e (tC v)) : EV X e (eL w) :=
  h.mono fun σV H Q ⟨loc, σ, M, u, M', rel, e, aft⟩ => by
    cases e
    exact aft v H loc rel.st (hr H loc) .refl (List.prefix_refl _)
theorem r_int {i : Int} {j} : EV X (.Constant (.int i) j pos) (eL (.int i)) := lit_aux (fun _ _ => .int i) pe_int
theorem r_bl {i : Bool} {j} : EV X (.Constant (.bool i) j pos) (eL (.bl i)) := lit_aux (fun _ _ => .bl i) pe_bl
theorem r_non {j} : EV X (.Constant .none j pos) (eL .non) := lit_aux (fun _ _ => .non) pe_non
theorem r_str {x : Str} {j} (h : PyData.strOk x = true := by decide +kernel) (h2 : x.length ≤ 16777216 := by decide +kernel) : EV X (.Constant (.str x) j pos) (eL (.str x)) := lit_aux (fun _ _ => .str x h h2) pe_str

/-! ### two operands -/
def Lift1 (K : KW) (r : V → Hp → VK → Prop) (g : Mem → W → Option (W × Mem)) : Prop :=
  ∀ (H : Hp) (loc : List Addr) (M : Mem) (x : W) (v : V) (w : W) (M' : Mem) (Q : VK), Store K H loc M → Rd K H loc v x → g M x = some (w, M') → Aft K H loc w M' Q → r v H Q
def Lift2 (K : KW) (r : R2) (g : Mem → W → W → Option (W × Mem)) : Prop :=
  ∀ (H : Hp) (loc : List Addr) (M : Mem) (x y : W) (v u : V) (w : W) (M' : Mem) (Q : VK), Store K H loc M → Rd K H loc v x → Rd K H loc u y → g M x y = some (w, M') → Aft K H loc w M' Q → r v u H Q
theorem Aft.after {K : KW} {H H1 : Hp} {loc loc1 : List Addr} {w : W} {M' : Mem} {Q : VK} (h : Aft K H loc w M' Q) (e : Ext K H H1) (l : loc <+: loc1) : Aft K H1 loc1 w M' Q :=
  fun v H' loc' s r e' l' => h v H' loc' s r (e.trans e') (l.trans l')
theorem AftS.after {K : KW} {H H1 : Hp} {loc loc1 : List Addr} {o : Out} {D : Ends} (h : AftS K H loc D o) (e : Ext K H H1) (l : loc <+: loc1) : AftS K H1 loc1 D o := by
  cases o with
  | nx σ' M' => exact fun σV' H' loc' r e' l' => h σV' H' loc' r (e.trans e') (l.trans l')
  | bk σ' M' => exact fun σV' H' loc' r e' l' => h σV' H' loc' r (e.trans e') (l.trans l')
  | ct σ' M' => exact fun σV' H' loc' r e' l' => h σV' H' loc' r (e.trans e') (l.trans l')
  | rt w M' => exact Aft.after (K := K) h e l
/-- run a: then what follows -/
theorem run1 {K : KW} {σV : L2.St} {H : Hp} {loc : List Addr} {σ : Sl} {M : Mem} {p : W × Mem} {Q : VK} (rel : Rel K loc σ M σV H) (ha : ca σ M = some p)
    (h : ∀ v H1 loc1, Rel K loc1 σ p.2 σV H1 → Rd K H1 loc1 v p.1 → Ext K H H1 → loc <+: loc1 → Q v H1) : TC K ca σV H Q :=
  ⟨loc, σ, M, p.1, p.2, rel, ha, fun v H1 loc1 s r e l => h v H1 loc1 (rel.move s e l) r e l⟩
theorem op2 {r : R2} {g : Mem → W → W → Option (W × Mem)} (hl : Lift2 X.KW r g) (σV : L2.St) (H : Hp) (Q : VK) (h : TC X.KW (e2 g ca cb) σV H Q) : tOp r (TC X.KW ca) (TC X.KW cb) σV H Q := by
  obtain ⟨loc, σ, M, w, M', rel, e, aft⟩ := h
  obtain ⟨p, hp, e⟩ := bind_some e
  obtain ⟨q, hq, e⟩ := bind_some e
  refine run1 rel hp fun v H1 loc1 rel1 rd1 ex1 l1 => run1 rel1 hq fun u H2 loc2 rel2 rd2 ex2 l2 => ?_
  exact hl H2 loc2 q.2 p.1 q.1 v u w M' Q rel2.st (rd1.mono ex2 l2) rd2 e (aft.after (ex1.trans ex2) (l1.trans l2))
theorem r_op {op : Operator} {r : R2} {g : Mem → W → W → Option (W × Mem)} (ho : OpR X (binaryOp op) r) (hl : Lift2 X.KW r g) (ha : EV X a ca) (hb : EV X b cb) : EV X (.BinOp a op b pos) (e2 g ca cb) :=
  (pe_op ho ha hb).mono (op2 hl)
theorem r_un {op : UnaryOp} {r : V → Hp → VK → Prop} {g : Mem → W → Option (W × Mem)} (ho : UnR X (unaryOp op) r) (hl : Lift1 X.KW r g) (ha : EV X a ca) : EV X (.UnaryOp op a pos) (e1 g ca) :=
  (pe_un ho ha).mono fun σV H Q ⟨loc, σ, M, w, M', rel, e, aft⟩ => by
    obtain ⟨p, hp, e⟩ := bind_some e
    exact run1 rel hp fun v H1 loc1 rel1 rd1 ex1 l1 => hl H1 loc1 p.2 p.1 v w M' Q rel1.st rd1 e (aft.after ex1 l1)
theorem r_cmp {op : CmpOp} {r : R2} {g : Mem → W → W → Option (W × Mem)} (ho : OpR X (compareOp op) r) (hl : Lift2 X.KW r g) (ha : EV X a ca) (hb : EV X b cb) (hm : behindInMarks op b = false) : EV X (.Compare a [op] [b] pos) (e2 g ca cb) :=
  (pe_cmpR ho ha hb hm).mono (op2 hl)
theorem tb_aux {t : TE} {cv : CE} (hl : ∀ σV H Q, TC X.KW cv σV H Q → t σV H Q) (σV : L2.St) (H : Hp) (Q : Bool → Hp → Prop) (h : TT' X.KW (tB cv) σV H Q) :
    t σV H (fun x H' => ∃ k, x = V.bl k ∧ Q k H') := by
  obtain ⟨loc, σ, M, k, M', rel, e, aft⟩ := h
  obtain ⟨p, hp, e⟩ := bind_some e
  refine hl _ _ _ (run1 rel hp fun v H1 loc1 rel1 rd1 ex1 l1 => ?_)
  split at e
  · rename_i d hd
    cases e
    rw [hd] at rd1
    cases rd1
    exact ⟨_, rfl, aft H1 loc1 rel1.st ex1 l1⟩
  · cases e
theorem t_cmp {op : CmpOp} {r : R2} {g : Mem → W → W → Option (W × Mem)} (ho : OpR X (compareOp op) r) (hl : Lift2 X.KW r g) (ha : EV X a ca) (hb : EV X b cb) (hm : behindInMarks op b = false) : ET X (.Compare a [op] [b] pos) (tB (e2 g ca cb)) :=
  (pt_cmpR ho ha hb hm).mono (tb_aux (op2 hl))
/-- a test that is a plain value (a call, a name) -/
theorem t_val (ha : EV X a ca) (he : ∀ whole, isTrue a X.env whole = (do let v ← whole; standAt a.pos; holding [v] (truthy v)) := by intro _; rfl) : ET X a (tB ca) :=
  (pt_val ha he).mono (tb_aux fun _ _ _ h => h)
theorem isN_of {K : KW} {H : Hp} {loc : List Addr} {v : V} {w : W} (r : Rd K H loc v w) : decide (v = V.non) = isN w := by
  cases r <;> simp [isN]
theorem isN_aux (σV : L2.St) (H : Hp) (Q : VK) (h : TC X.KW (e1 gIsN ca) σV H Q) : tIsN (TC X.KW ca) σV H Q := by
  obtain ⟨loc, σ, M, w, M', rel, e, aft⟩ := h
  obtain ⟨p, hp, e⟩ := bind_some e
  refine run1 rel hp fun v H1 loc1 rel1 rd1 ex1 l1 => ?_
  cases e
  rw [isN_of rd1]
  exact aft _ H1 loc1 rel1.st (.bl _) ex1 l1
theorem notN_aux (σV : L2.St) (H : Hp) (Q : VK) (h : TC X.KW (e1 gNotN ca) σV H Q) : tNotN (TC X.KW ca) σV H Q := by
  obtain ⟨loc, σ, M, w, M', rel, e, aft⟩ := h
  obtain ⟨p, hp, e⟩ := bind_some e
  refine run1 rel hp fun v H1 loc1 rel1 rd1 ex1 l1 => ?_
  cases e
  rw [isN_of rd1]
  exact aft _ H1 loc1 rel1.st (.bl _) ex1 l1
theorem r_isN {j pos'} (ha : EV X a ca) : EV X (.Compare a [.Is] [.Constant .none j pos'] pos) (e1 gIsN ca) := (pe_cmp (pc_isN ha)).mono isN_aux
theorem r_notN {j pos'} (ha : EV X a ca) : EV X (.Compare a [.IsNot] [.Constant .none j pos'] pos) (e1 gNotN ca) := (pe_cmp (pc_notN ha)).mono notN_aux
theorem t_isN {j pos'} (ha : EV X a ca) : ET X (.Compare a [.Is] [.Constant .none j pos'] pos) (tB (e1 gIsN ca)) := (pt_cmp (pc_isN ha)).mono (tb_aux isN_aux)
theorem t_notN {j pos'} (ha : EV X a ca) : ET X (.Compare a [.IsNot] [.Constant .none j pos'] pos) (tB (e1 gNotN ca)) := (pt_cmp (pc_notN ha)).mono (tb_aux notN_aux)
theorem chain_aux {r r' : R2} {g g' : Mem → W → W → Option (W × Mem)} (hl : Lift2 X.KW r g) (hl' : Lift2 X.KW r' g') (σV : L2.St) (H : Hp) (Q : VK) (h : TC X.KW (eChain g g' ca cb cc) σV H Q) :
    tChain r r' (TC X.KW ca) (TC X.KW cb) (TC X.KW cc) σV H Q := by
  obtain ⟨loc, σ, M, w, M', rel, e, aft⟩ := h
  obtain ⟨p, hp, e⟩ := bind_some e
  obtain ⟨q, hq, e⟩ := bind_some e
  obtain ⟨z, hz, e⟩ := bind_some e
  refine run1 rel hp fun v H1 loc1 rel1 rd1 ex1 l1 => run1 rel1 hq fun u H2 loc2 rel2 rd2 ex2 l2 => ?_
  refine hl H2 loc2 q.2 p.1 q.1 v u z.1 z.2 _ rel2.st (rd1.mono ex2 l2) rd2 hz fun x H3 loc3 s3 rd3 ex3 l3 => ?_
  have rel3 := rel2.move s3 ex3 l3
  split at e
  · rename_i hz1
    rw [hz1] at rd3
    cases rd3
    refine ⟨_, rfl, ?_⟩
    rw [if_pos rfl]
    obtain ⟨t, ht, e⟩ := bind_some e
    refine run1 rel3 ht fun y H4 loc4 rel4 rd4 ex4 l4 => ?_
    exact hl' H4 loc4 t.2 q.1 t.1 u y w M' Q rel4.st (rd2.mono (ex3.trans ex4) (l3.trans l4)) rd4 e (aft.after (((ex1.trans ex2).trans ex3).trans ex4) (((l1.trans l2).trans l3).trans l4))
  · rename_i hz1
    rw [hz1] at rd3
    cases rd3
    refine ⟨_, rfl, ?_⟩
    rw [if_neg Bool.false_ne_true]
    cases e
    exact aft _ H3 loc3 s3 (.bl _) ((ex1.trans ex2).trans ex3) ((l1.trans l2).trans l3)
  · cases e
theorem r_chain {op op' : CmpOp} {r r' : R2} {g g' : Mem → W → W → Option (W × Mem)} (ho : OpR X (compareOp op) r) (hl : Lift2 X.KW r g) (ho' : OpR X (compareOp op') r') (hl' : Lift2 X.KW r' g') (ha : EV X a ca) (hb : EV X b cb) (hc : EV X c cc)
    (hm : lastMarks [op, op'] [b, c] = false := by with_unfolding_all rfl) : EV X (.Compare a [op, op'] [b, c] pos) (eChain g g' ca cb cc) := (pe_chain ho ho' ha hb hc hm).mono (chain_aux hl hl')
theorem t_chain {op op' : CmpOp} {r r' : R2} {g g' : Mem → W → W → Option (W × Mem)} (ho : OpR X (compareOp op) r) (hl : Lift2 X.KW r g) (ho' : OpR X (compareOp op') r') (hl' : Lift2 X.KW r' g') (ha : EV X a ca) (hb : EV X b cb) (hc : EV X c cc)
    (hm : lastMarks [op, op'] [b, c] = false := by with_unfolding_all rfl) : ET X (.Compare a [op, op'] [b, c] pos) (tB (eChain g g' ca cb cc)) := (pt_chain ho ho' ha hb hc hm).mono (tb_aux (chain_aux hl hl'))

/-! ### and, or, not, if -/
variable {tA tB' : CT} {rest : List Expr}
/-- run a test -/
theorem runT {K : KW} {σV : L2.St} {H : Hp} {loc : List Addr} {σ : Sl} {M : Mem} {p : Bool × Mem} {Q : Bool → Hp → Prop} (rel : Rel K loc σ M σV H) (ha : tA σ M = some p)
    (h : ∀ H1 loc1, Rel K loc1 σ p.2 σV H1 → Ext K H H1 → loc <+: loc1 → Q p.1 H1) : TT' K tA σV H Q :=
  ⟨loc, σ, M, p.1, p.2, rel, ha, fun H1 loc1 s e l => h H1 loc1 (rel.move s e l) e l⟩
theorem w_one {op} (ha : ET X a tA) : EW X (.BoolOp op [a] pos) tA := by
  cases op with
  | And => exact pw_and1 ha
  | Or => exact pw_or1 ha
theorem w_and (ha : ET X a tA) (hb : EW X (.BoolOp .And (b :: rest) pos) tB') : EW X (.BoolOp .And (a :: b :: rest) pos) (tAnd tA tB') :=
  (pw_and ha hb).mono fun σV H Q ⟨loc, σ, M, k, M', rel, e, aft⟩ => by
    obtain ⟨p, hp, e⟩ := bind_some e
    refine runT rel hp fun H1 loc1 rel1 ex1 l1 => ?_
    split at e
    · rename_i hc
      rw [if_pos hc]
      exact runT (p := (k, M')) rel1 e fun H2 loc2 rel2 ex2 l2 => aft H2 loc2 rel2.st (ex1.trans ex2) (l1.trans l2)
    · rename_i hc
      rw [if_neg hc]
      cases e
      exact aft H1 loc1 rel1.st ex1 l1
theorem w_or (ha : ET X a tA) (hb : EW X (.BoolOp .Or (b :: rest) pos) tB') : EW X (.BoolOp .Or (a :: b :: rest) pos) (tOr tA tB') :=
  (pw_or ha hb).mono fun σV H Q ⟨loc, σ, M, k, M', rel, e, aft⟩ => by
    obtain ⟨p, hp, e⟩ := bind_some e
    refine runT rel hp fun H1 loc1 rel1 ex1 l1 => ?_
    split at e
    · rename_i hc
      rw [if_pos hc]
      cases e
      exact aft H1 loc1 rel1.st ex1 l1
    · rename_i hc
      rw [if_neg hc]
      exact runT (p := (k, M')) rel1 e fun H2 loc2 rel2 ex2 l2 => aft H2 loc2 rel2.st (ex1.trans ex2) (l1.trans l2)
theorem t_w (h : EW X a tA) : ET X a tA := h.pt
theorem t_not (ha : ET X a tA) : ET X (.UnaryOp .Not a pos) (tNot tA) :=
  (pt_not ha).mono fun σV H Q ⟨loc, σ, M, k, M', rel, e, aft⟩ => by
    obtain ⟨p, hp, e⟩ := bind_some e
    cases e
    exact runT rel hp fun H1 loc1 rel1 ex1 l1 => aft H1 loc1 rel1.st ex1 l1
theorem r_one {op} (ha : EV X a ca) : EV X (.BoolOp op [a] pos) ca := pe_one ha
theorem r_and (ha : EV X a ca) (hb : EV X (.BoolOp .And (b :: rest) pos) cb) : EV X (.BoolOp .And (a :: b :: rest) pos) (eAnd ca cb) :=
  (pe_and ha hb).mono fun σV H Q ⟨loc, σ, M, w, M', rel, e, aft⟩ => by
    obtain ⟨p, hp, e⟩ := bind_some e
    refine run1 rel hp fun v H1 loc1 rel1 rd1 ex1 l1 => ?_
    split at e
    · rename_i hc
      rw [hc] at rd1
      cases rd1
      refine ⟨_, rfl, ?_⟩
      rw [if_pos rfl]
      exact run1 (p := (w, M')) rel1 e fun u H2 loc2 rel2 rd2 ex2 l2 => aft u H2 loc2 rel2.st rd2 (ex1.trans ex2) (l1.trans l2)
    · rename_i hc
      rw [hc] at rd1
      cases rd1
      refine ⟨_, rfl, ?_⟩
      rw [if_neg Bool.false_ne_true]
      cases e
      exact aft _ H1 loc1 rel1.st (.bl _) ex1 l1
    · cases e
theorem r_or (ha : EV X a ca) (hb : EV X (.BoolOp .Or (b :: rest) pos) cb) : EV X (.BoolOp .Or (a :: b :: rest) pos) (eOr ca cb) :=
  (pe_or ha hb).mono fun σV H Q ⟨loc, σ, M, w, M', rel, e, aft⟩ => by
    obtain ⟨p, hp, e⟩ := bind_some e
    refine run1 rel hp fun v H1 loc1 rel1 rd1 ex1 l1 => ?_
    split at e
    · rename_i hc
      rw [hc] at rd1
      cases rd1
      refine ⟨_, rfl, ?_⟩
      rw [if_pos rfl]
      cases e
      exact aft _ H1 loc1 rel1.st (.bl _) ex1 l1
    · rename_i hc
      rw [hc] at rd1
      cases rd1
      refine ⟨_, rfl, ?_⟩
      rw [if_neg Bool.false_ne_true]
      exact run1 (p := (w, M')) rel1 e fun u H2 loc2 rel2 rd2 ex2 l2 => aft u H2 loc2 rel2.st rd2 (ex1.trans ex2) (l1.trans l2)
    · cases e
theorem r_not (ha : EV X a ca) : EV X (.UnaryOp .Not a pos) (eNot ca) :=
  (pe_not ha).mono fun σV H Q ⟨loc, σ, M, w, M', rel, e, aft⟩ => by
    obtain ⟨p, hp, e⟩ := bind_some e
    refine run1 rel hp fun v H1 loc1 rel1 rd1 ex1 l1 => ?_
    split at e
    · rename_i hc
      rw [hc] at rd1
      cases rd1
      cases e
      exact ⟨_, rfl, aft _ H1 loc1 rel1.st (.bl _) ex1 l1⟩
    · cases e
theorem r_if (hc : ET X c tA) (ha : EV X a ca) (hb : EV X b cb) : EV X (.IfExp c a b pos) (eIf tA ca cb) :=
  (pe_ifExp hc ha hb).mono fun σV H Q ⟨loc, σ, M, w, M', rel, e, aft⟩ => by
    obtain ⟨p, hp, e⟩ := bind_some e
    refine runT rel hp fun H1 loc1 rel1 ex1 l1 => ?_
    split at e
    · rename_i hc
      rw [if_pos hc]
      exact run1 (p := (w, M')) rel1 e fun u H2 loc2 rel2 rd2 ex2 l2 => aft u H2 loc2 rel2.st rd2 (ex1.trans ex2) (l1.trans l2)
    · rename_i hc
      rw [if_neg hc]
      exact run1 (p := (w, M')) rel1 e fun u H2 loc2 rel2 rd2 ex2 l2 => aft u H2 loc2 rel2.st rd2 (ex1.trans ex2) (l1.trans l2)

/-! ### arguments, displays -/
variable {es : List Expr} {cs : List CE}
theorem runA {K : KW} {σV : L2.St} {H : Hp} {loc : List Addr} {σ : Sl} {M : Mem} {p : List W × Mem} {Q : List V → Hp → Prop} (rel : Rel K loc σ M σV H) (ha : eArgs cs σ M = some p)
    (h : ∀ vs H1 loc1, Rel K loc1 σ p.2 σV H1 → Rds K H1 loc1 vs p.1 → Ext K H H1 → loc <+: loc1 → Q vs H1) : TA' K (eArgs cs) σV H Q :=
  ⟨loc, σ, M, p.1, p.2, rel, ha, fun v H1 loc1 s r e l => h v H1 loc1 (rel.move s e l) r e l⟩
theorem a_nil : EA X [] [] := pa_nil.mono fun σV H Q ⟨loc, σ, M, ws, M', rel, e, aft⟩ => by
  cases e
  exact aft [] H loc rel.st .nil .refl (List.prefix_refl _)
theorem a_cons (ha : EV X a ca) (hb : EA X es cs) (hs : starEach (a :: es) X.env = (false, eval a X.env) :: starEach es X.env := by rfl) : EA X (a :: es) (ca :: cs) :=
  (pa_cons ha hb hs).mono fun σV H Q ⟨loc, σ, M, ws, M', rel, e, aft⟩ => by
    obtain ⟨p, hp, e⟩ := bind_some e
    obtain ⟨q, hq, e⟩ := bind_some e
    cases e
    exact run1 rel hp fun v H1 loc1 rel1 rd1 ex1 l1 => runA rel1 hq fun vs H2 loc2 rel2 rd2 ex2 l2 => aft _ H2 loc2 rel2.st (.cons (rd1.mono ex2 l2) rd2) (ex1.trans ex2) (l1.trans l2)
theorem lineOk {n : Nat} (h : n ≤ 16777216) : n ≤ sizeLine := h
theorem r_tup {x1} (h : EA X es cs) : EV X (.Tuple es x1 pos) (eTup cs) := (pe_tup h).mono fun σV H Q ⟨loc, σ, M, w, M', rel, e, aft⟩ => by
  obtain ⟨p, hp, e⟩ := bind_some e
  split at e
  · rename_i hz
    cases e
    refine runA rel hp fun vs H1 loc1 rel1 rd1 ex1 l1 => ⟨lineOk (by rw [rd1.length]; exact hz), fun q hq => ?_⟩
    exact aft _ _ loc1 (rel1.st.newT hq) (.tup (SqT.of upd_same) (rd1.mono (.new hq) (List.prefix_refl _))) (ex1.trans (.new hq)) l1
  · cases e
theorem last_get {α : Type} {l : List α} {a : α} {n : Nat} (h : n = l.length) : (l ++ [a])[n]? = some a := by subst h; simp
theorem new_lst {K : KW} {H : Hp} {loc : List Addr} {M : Mem} {xs : List V} {ws : List W} {q : Addr} (s : Store K H loc M) (r : Rds K H loc xs ws) (hq : H q = none) : Store K (upd H q (.lst xs)) (loc ++ [q]) (M ++ [.lst ws]) :=
  s.new hq ⟨xs, upd_same, r.mono (.new hq) (List.prefix_append _ _)⟩
theorem aft_lst {K : KW} {H : Hp} {loc : List Addr} {M : Mem} {xs : List V} {ws : List W} {q : Addr} {Q : VK} (s : Store K H loc M) (r : Rds K H loc xs ws) (hq : H q = none)
    (aft : Aft K H loc (.ref M.length) (M ++ [.lst ws]) Q) : Q (.ref q) (upd H q (.lst xs)) :=
  aft _ _ (loc ++ [q]) (new_lst s r hq) (.ref (last_get s.len.symm)) (.new hq) (List.prefix_append _ _)
theorem aft_tup {K : KW} {H : Hp} {loc : List Addr} {M : Mem} {xs : List V} {ws : List W} {q : Addr} {Q : VK} (s : Store K H loc M) (r : Rds K H loc xs ws) (hq : H q = none)
    (aft : Aft K H loc (.tup ws) M Q) : Q (.ref q) (upd H q (.tup xs)) :=
  aft _ _ loc (s.newT hq) (.tup (SqT.of upd_same) (r.mono (.new hq) (List.prefix_refl _))) (.new hq) (List.prefix_refl _)
theorem r_lst (h : EA X es cs) : EV X (.List es pos) (eLst cs) := (pe_lst h).mono fun σV H Q ⟨loc, σ, M, w, M', rel, e, aft⟩ => by
  obtain ⟨p, hp, e⟩ := bind_some e
  split at e
  · rename_i hz
    cases e
    refine runA rel hp fun vs H1 loc1 rel1 rd1 ex1 l1 => ⟨lineOk (by rw [rd1.length]; exact hz), fun q hq => ?_⟩
    exact aft_lst rel1.st rd1 hq (aft.after ex1 l1)
  · cases e

/-! ### calls -/
def LiftN (K : KW) (r : List V → Hp → VK → Prop) (f : Fn) : Prop :=
  ∀ (H : Hp) (loc : List Addr) (M : Mem) (ws : List W) (vs : List V) (w : W) (M' : Mem) (Q : VK), Store K H loc M → Rds K H loc vs ws → f ws M = some (w, M') → Aft K H loc w M' Q → r vs H Q
theorem cb_aux {r : List V → Hp → VK → Prop} {f : Fn} (hl : LiftN X.KW r f) (σV : L2.St) (H : Hp) (Q : VK) (h : TC X.KW (eN f cs) σV H Q) : tCB r (TA' X.KW (eArgs cs)) σV H Q := by
  obtain ⟨loc, σ, M, w, M', rel, e, aft⟩ := h
  obtain ⟨p, hp, e⟩ := bind_some e
  exact runA rel hp fun vs H1 loc1 rel1 rd1 ex1 l1 => hl H1 loc1 p.2 p.1 vs w M' Q rel1.st rd1 e (aft.after ex1 l1)
variable {x : Str} {p : Pos} {id T : String}
theorem r_callB {r : List V → Hp → VK → Prop} {f : Fn} (hc : CallR X (.builtin id) r) (hl : LiftN X.KW r f) (hg : Gl X x) (hm : X.mg x = none) (hv : bootBuiltins x = some (.builtin id)) (ha : EA X (e :: es) cs) (hn : x ≠ "__name__" := by decide) (hdb : (x == ("__debug__" : Str)) = false := by decide)
    (he : starEach (e :: es) X.env = (false, eval e X.env) :: starEach es X.env := by rfl) (hpl : (backTo pos (starEach es X.env)).any (·.1) = false := by rfl) : EV X (.Call (.Name x p) (e :: es) [] pos) (eN f cs) :=
  (pe_callB hc hg hm hv ha hn hdb he hpl).mono (cb_aux hl)
theorem r_callTy {r : List V → Hp → VK → Prop} {f : Fn} (hc : CallR X (.type T) r) (hl : LiftN X.KW r f) (hg : Gl X x) (hm : X.mg x = none) (hv : bootBuiltins x = some (.type T)) (ha : EA X (e :: es) cs) (hn : x ≠ "__name__" := by decide) (hdb : (x == ("__debug__" : Str)) = false := by decide)
    (he : starEach (e :: es) X.env = (false, eval e X.env) :: starEach es X.env := by rfl) (hpl : (backTo pos (starEach es X.env)).any (·.1) = false := by rfl) : EV X (.Call (.Name x p) (e :: es) [] pos) (eN f cs) :=
  (pe_callTy hc hg hm hv ha hn hdb he hpl).mono (cb_aux hl)
/-- the promise of a def of one's own: what F says -/
def spF (K : KW) (n : Nat) (F : Fn) : Sp := fun vs H Q _ => vs.length = n ∧ ∃ loc M ws w M', Store K H loc M ∧ Rds K H loc vs ws ∧ F ws M = some (w, M') ∧ Aft K H loc w M' Q
theorem eArgs_length : ∀ {cs : List CE} {σ : Sl} {M : Mem} {p : List W × Mem}, eArgs cs σ M = some p → p.1.length = cs.length
  | [], _, _, _, h => by cases h; rfl
  | c :: cs, σ, M, p, h => by
    obtain ⟨q, hq, h⟩ := bind_some h
    obtain ⟨t, ht, h⟩ := bind_some h
    cases h
    rw [List.length_cons, List.length_cons, eArgs_length ht]
theorem r_call {F : Fn} {k : Nat} {f : Addr} {fd : FuncData} {ps : List Str} (G : FnOk X.prog X.w X.KW X.mg X.base CX0 k f fd ps (spF X.KW ps.length F)) (hr : Room k X.A) (hg : Gl X x) (hm : X.mg x = some (.ref f)) (hk : PySem.W.keepIn X.KW (.ref f) = true) (hb : Binds X.KW fd ps [])
    (ha : EA X (e :: es) cs) (hn : cs.length = ps.length := by rfl) (hdb : (x == ("__debug__" : Str)) = false := by decide) (he : starEach (e :: es) X.env = (false, eval e X.env) :: starEach es X.env := by rfl) (hpl : (backTo pos (starEach es X.env)).any (·.1) = false := by rfl) :
    EV X (.Call (.Name x p) (e :: es) [] pos) (eN F cs) :=
  (pe_call G hr hg hm hk hb .nil pass0 ha hdb he hpl).mono fun σV H Q ⟨loc, σ, M, w, M', rel, e, aft⟩ => by
    obtain ⟨q, hq, e⟩ := bind_some e
    refine runA rel hq fun vs H1 loc1 rel1 rd1 ex1 l1 => ?_
    rw [List.append_nil]
    exact ⟨by rw [rd1.length, eArgs_length hq, hn], loc1, q.2, q.1, w, M', rel1.st, rd1, e, aft.after ex1 l1⟩
/-! ### methods of lists -/
variable {o : Expr} {co : CE} {name : Str} {apos cpos : Pos}
theorem isLst_ty {K : KW} {H : Hp} {loc : List Addr} {M : Mem} {v : V} {w : W} (s : Store K H loc M) (r : Rd K H loc v w) (h : isLst M w = true) : tyV K "list" v H := by
  cases r with
  | @ref a n hn =>
    simp only [isLst] at h
    split at h
    · rename_i zs e2
      obtain ⟨xs, h1, _⟩ := s.ok n a _ hn e2
      exact .inl ⟨rfl, xs, SqL.of h1⟩
    · cases h
  | _ => cases h
theorem r_meth {r : V → List V → Hp → VK → Prop} {f : Fn} (slot : Slot "list" name id) (hty : typeOf (.builtin id) = pure (.type "method_descriptor")) (hm : MtR X id r)
    (hl : LiftN X.KW (fun vs H Q => ∃ v us, vs = v :: us ∧ r v us H Q) f) (ho : EV X o co) (ha : EA X (e :: es) cs)
    (hbase : attributeBase o name X.env (eval o X.env) = eval o X.env := by rfl)
    (hfew : ((backTo cpos (starEach (e :: es) X.env)).all (fun x => !x.1) && (backToKw cpos (keywordEach [] X.env)).all (fun x => x.1.isSome)
      && decide ((e :: es).length + ([] : List Keyword).length + (if ([] : List Keyword).isEmpty then 0 else 1) < 30)) = true := by rfl)
    (hline : (apos.endLine == cpos.line) = true := by rfl) (hs : starEach (e :: es) X.env = (false, eval e X.env) :: starEach es X.env := by rfl) (hplain : (backTo cpos (starEach es X.env)).any (·.1) = false := by rfl) :
    EV X (.Call (.Attribute o name apos) (e :: es) [] cpos) (eML f co cs) :=
  (pe_bm PySem.F.plainAttrs_list slot hty hm ho ha hbase hfew hline hs hplain).mono fun σV H Q ⟨loc, σ, M, w, M', rel, e, aft⟩ => by
    obtain ⟨q, hq, e⟩ := bind_some e
    split at e
    · rename_i hi
      obtain ⟨t, ht, e⟩ := bind_some e
      refine run1 rel hq fun v H1 loc1 rel1 rd1 ex1 l1 => ⟨isLst_ty rel1.st rd1 hi, ?_⟩
      refine runA rel1 ht fun vs H2 loc2 rel2 rd2 ex2 l2 => ?_
      obtain ⟨v', us, e', h⟩ := hl H2 loc2 t.2 (q.1 :: t.1) (v :: vs) w M' Q rel2.st (.cons (rd1.mono ex2 l2) rd2) e (aft.after (ex1.trans ex2) (l1.trans l2))
      cases e'
      exact h
    · cases e
theorem r_meth0 {r : V → List V → Hp → VK → Prop} {f : Fn} (slot : Slot "list" name id) (hty : typeOf (.builtin id) = pure (.type "method_descriptor")) (hm : MtR X id r)
    (hl : LiftN X.KW (fun vs H Q => ∃ v us, vs = v :: us ∧ r v us H Q) f) (ho : EV X o co)
    (hbase : attributeBase o name X.env (eval o X.env) = eval o X.env := by rfl) (hline : (apos.endLine == cpos.line) = true := by rfl) :
    EV X (.Call (.Attribute o name apos) [] [] cpos) (eML f co []) :=
  (pe_bm0 PySem.F.plainAttrs_list slot hty hm ho hbase hline).mono fun σV H Q ⟨loc, σ, M, w, M', rel, e, aft⟩ => by
    obtain ⟨q, hq, e⟩ := bind_some e
    split at e
    · rename_i hi
      refine run1 rel hq fun v H1 loc1 rel1 rd1 ex1 l1 => ⟨isLst_ty rel1.st rd1 hi, ?_⟩
      obtain ⟨v', us, e', h⟩ := hl H1 loc1 q.2 [q.1] [v] w M' Q rel1.st (.cons rd1 .nil) e (aft.after ex1 l1)
      cases e'
      exact h
    · cases e

/-! ### items, slices -/
theorem r_ix {r : R2} {g : Mem → W → W → Option (W × Mem)} (hr : IxR X r) (hl : Lift2 X.KW r g) (ha : EV X a ca) (hb : EV X b cb) (hs : PlainIx b := by exact fun _ _ => rfl) : EV X (.Subscript a b pos) (e2 g ca cb) := (pe_ix hr ha hb hs).mono (op2 hl)
def TO' (K : KW) (c : Option CE) : TO := fun σV H Q => ∃ loc σ M o M', Rel K loc σ M σV H ∧ ePart c σ M = some (o, M') ∧ ∀ H' loc', Store K H' loc' M' → Ext K H H' → loc <+: loc' → Q o H'
abbrev EO (X : Cx) (e : Option Expr) (c : Option CE) : Prop := PO X e (TO' X.KW c)
theorem o_none : EO X none none := ⟨fun pins s σ H Q I h => po_none.run pins s σ H Q I (by
  obtain ⟨loc, σ', M, o, M', rel, e, aft⟩ := h
  cases e
  exact aft H loc rel.st .refl (List.prefix_refl _))⟩
theorem o_some (ha : EV X a ca) : EO X (some a) (some ca) := ⟨fun pins s σ H Q I h => (po_some ha).run pins s σ H Q I (by
  obtain ⟨loc, σ', M, o, M', rel, e, aft⟩ := h
  obtain ⟨p, hp, e⟩ := bind_some e
  refine run1 rel hp fun v H1 loc1 rel1 rd1 ex1 l1 => ?_
  split at e
  · rename_i i hi
    cases e
    rw [hi] at rd1
    cases rd1
    exact ⟨_, rfl, aft H1 loc1 rel1.st ex1 l1⟩
  · cases e)⟩
def LiftS (K : KW) (r : V → Option Int → Option Int → Hp → VK → Prop) (g : Mem → W → Option Int → Option Int → Option (W × Mem)) : Prop :=
  ∀ (H : Hp) (loc : List Addr) (M : Mem) (x : W) (v : V) (lo hi : Option Int) (w : W) (M' : Mem) (Q : VK), Store K H loc M → Rd K H loc v x → g M x lo hi = some (w, M') → Aft K H loc w M' Q → r v lo hi H Q
theorem r_sl {r : V → Option Int → Option Int → Hp → VK → Prop} {lo hi : Option Expr} {cl ch : Option CE} {p2 : Pos} (hr : SlR X r) (hl : LiftS X.KW r gSl) (ha : EV X a ca) (h1 : EO X lo cl) (h2 : EO X hi ch) : EV X (.Subscript a (.Slice lo hi none p2) pos) (eSl ca cl ch) :=
  (pe_slice hr ha h1 h2).mono fun σV H Q ⟨loc, σ, M, w, M', rel, e, aft⟩ => by
    obtain ⟨p, hp, e⟩ := bind_some e
    obtain ⟨q, hq, e⟩ := bind_some e
    obtain ⟨t, ht, e⟩ := bind_some e
    refine run1 rel hp fun v H1 loc1 rel1 rd1 ex1 l1 => ?_
    refine ⟨loc1, σ, p.2, q.1, q.2, rel1, hq, fun H2 loc2 s2 ex2 l2 => ?_⟩
    have rel2 := rel1.move s2 ex2 l2
    refine ⟨loc2, σ, q.2, t.1, t.2, rel2, ht, fun H3 loc3 s3 ex3 l3 => ?_⟩
    exact hl H3 loc3 t.2 p.1 v q.1 t.1 w M' Q s3 (rd1.mono (ex2.trans ex3) (l2.trans l3)) e (aft.after ((ex1.trans ex2).trans ex3) ((l1.trans l2).trans l3))
end
end BF

set_option Elab.async false
set_option linter.all false
set_option autoImplicit false
set_option maxRecDepth 100000
/-! The rules: targets, statements, loops, comprehensions, defs. -/
namespace BF
open PySem PySem.Spec
open PyProof.Rows L2

section
variable {X : Cx} {a b c e tg iter : Expr} {ca cb cc : CE} {pos : Pos} {g : CG} {gs : List CG} {es : List Expr} {cs : List CE}

/-! ### targets -/
theorem g_name (i : Nat) {x : Str} (hN : X.N.Nodup) (hi : X.N[i]? = some x := by rfl) (hx : Loc X.env.scope x := by first | exact Or.inl rfl | exact Or.inr rfl)
    (hf : X.fn x = true ∨ X.env.scope.names.lookup x = some .local := by first | exact .inl rfl | exact .inr rfl) : EG X (.Name x pos) (gV i) :=
  (pg_name hN hi hx hf).mono fun v σV H Q ⟨loc, σ, M, w, σ', rel, rd, e, q⟩ => by
    cases e
    exact q _ (rel.set rd i)
theorem gs_nil : EGs X [] [] := pgs_nil.mono fun vs σV H Q ⟨loc, σ, M, ws, σ', rel, rd, e, q⟩ => by
  cases rd with
  | nil => cases e; exact ⟨rfl, q σV rel⟩
  | cons _ _ => cases e
theorem gs_cons (h1 : EG X a g) (h2 : EGs X es gs) (hs : (assignEach (a :: es) X.env).map (·.2) = assign a X.env :: (assignEach es X.env).map (·.2) := by rfl) : EGs X (a :: es) (g :: gs) :=
  (pgs_cons h1 h2 hs).mono fun vs σV H Q ⟨loc, σ, M, ws, σ', rel, rd, e, q⟩ => by
    cases rd with
    | nil => cases e
    | @cons v vs w ws r rs =>
      obtain ⟨σ1, e1, e2⟩ := bind_some e
      exact ⟨v, vs, rfl, loc, σ, M, w, σ1, rel, r, e1, fun σV1 rel1 => ⟨loc, σ1, M, ws, σ', rel1, rs, e2, q⟩⟩
theorem gAll_length : ∀ {gs : List CG} {ws : List W} {σ σ' : Sl}, gAll gs ws σ = some σ' → ws.length = gs.length
  | [], [], _, _, _ => rfl
  | [], _ :: _, _, _, h => by cases h
  | _ :: _, [], _, _, h => by cases h
  | g :: gs, w :: ws, σ, σ', h => by
    obtain ⟨σ1, _, h⟩ := bind_some h
    rw [List.length_cons, List.length_cons, gAll_length h]
theorem g_tup {k : Nat} (hc : X.calm = true) (h : EGs X es gs) (hn : (assignEach es X.env).length = gs.length := by rfl) (hst : (assignEach es X.env).findIdx? (·.1) = none := by rfl) : EG X (.Tuple es k pos) (gT gs) :=
  (pg_tup hc h hn hst).mono fun v σV H Q ⟨loc, σ, M, w, σ', rel, rd, e, q⟩ => by
    cases rd with
    | @tup a xs ws sq rs => exact ⟨a, xs, rfl, sq, by rw [rs.length]; exact gAll_length e, loc, σ, M, ws, σ', rel, rs, e, q⟩
    | _ => cases e
/-- a comprehension's target: only the slots vs are touched -/
def TGw (K : KW) (vs : List Nat) (c : CG) : TG := fun v σV H Q => ∃ loc σ M w σ', Rel K loc σ M σV H ∧ Rd K H loc v w ∧ c w σ = some σ' ∧ ∀ σV', Rel K loc σ' M σV' H → L2.wipe σV' vs = L2.wipe σV vs → Q σV' H
def TGsw (K : KW) (vs : List Nat) (c : List CG) : TGs := fun us σV H Q => ∃ loc σ M ws σ', Rel K loc σ M σV H ∧ Rds K H loc us ws ∧ gAll c ws σ = some σ' ∧ ∀ σV', Rel K loc σ' M σV' H → L2.wipe σV' vs = L2.wipe σV vs → Q σV' H
abbrev EGw (X : Cx) (vs : List Nat) (e : Expr) (c : CG) : Prop := PG X e (TGw X.KW vs c)
abbrev EGsw (X : Cx) (vs : List Nat) (es : List Expr) (c : List CG) : Prop := PGs X es (TGsw X.KW vs c)
theorem wipe_set {σ : L2.St} {i : Nat} {x : Option V} : ∀ {vs : List Nat}, i ∈ vs → L2.wipe (σ.set i x) vs = L2.wipe σ vs
  | [], h => by cases h
  | v :: vs, h => by
    show (L2.wipe (σ.set i x) vs).set v none = (L2.wipe σ vs).set v none
    by_cases hv : i ∈ vs
    · rw [wipe_set hv]
    · have e : i = v := by
        rcases List.mem_cons.mp h with h | h
        · exact h
        · exact absurd h hv
      subst e
      have : ∀ (us : List Nat), i ∉ us → L2.wipe (σ.set i x) us = (L2.wipe σ us).set i x := by
        intro us
        induction us with
        | nil => intro _; rfl
        | cons u us ih =>
          intro hu
          show (L2.wipe (σ.set i x) us).set u none = ((L2.wipe σ us).set u none).set i x
          rw [ih (fun z => hu (List.mem_cons_of_mem _ z)), List.set_comm _ _ (fun z => hu (by rw [z]; exact List.mem_cons_self))]
      rw [this vs hv, List.set_set]
theorem wipe_wipe (σ : L2.St) : ∀ vs : List Nat, L2.wipe (L2.wipe σ vs) vs = L2.wipe σ vs := by
  have : ∀ (us vs : List Nat), (∀ v ∈ vs, v ∈ us) → L2.wipe (L2.wipe σ vs) us = L2.wipe σ us := by
    intro us vs
    induction vs with
    | nil => intro _; rfl
    | cons v vs ih =>
      intro h
      show L2.wipe ((L2.wipe σ vs).set v none) us = _
      rw [wipe_set (h v List.mem_cons_self), ih fun u hu => h u (List.mem_cons_of_mem _ hu)]
  exact fun vs => this vs vs fun _ h => h
theorem gw_name {vs : List Nat} (i : Nat) {x : Str} (hN : X.N.Nodup) (hv : i ∈ vs := by decide) (hi : X.N[i]? = some x := by rfl) (hx : Loc X.env.scope x := by first | exact Or.inl rfl | exact Or.inr rfl)
    (hf : X.fn x = true ∨ X.env.scope.names.lookup x = some .local := by first | exact .inl rfl | exact .inr rfl) : EGw X vs (.Name x pos) (gV i) :=
  (pg_name hN hi hx hf).mono fun v σV H Q ⟨loc, σ, M, w, σ', rel, rd, e, q⟩ => by
    cases e
    exact q _ (rel.set rd i) (wipe_set hv)
theorem gsw_nil {vs : List Nat} : EGsw X vs [] [] := pgs_nil.mono fun us σV H Q ⟨loc, σ, M, ws, σ', rel, rd, e, q⟩ => by
  cases rd with
  | nil => cases e; exact ⟨rfl, q σV rel rfl⟩
  | cons _ _ => cases e
theorem gsw_cons {vs : List Nat} (h1 : EGw X vs a g) (h2 : EGsw X vs es gs) (hs : (assignEach (a :: es) X.env).map (·.2) = assign a X.env :: (assignEach es X.env).map (·.2) := by rfl) : EGsw X vs (a :: es) (g :: gs) :=
  (pgs_cons h1 h2 hs).mono fun us σV H Q ⟨loc, σ, M, ws, σ', rel, rd, e, q⟩ => by
    cases rd with
    | nil => cases e
    | @cons v us w ws r rs =>
      obtain ⟨σ1, e1, e2⟩ := bind_some e
      exact ⟨v, us, rfl, loc, σ, M, w, σ1, rel, r, e1, fun σV1 rel1 z1 => ⟨loc, σ1, M, ws, σ', rel1, rs, e2, fun σV2 rel2 z2 => q σV2 rel2 (z2.trans z1)⟩⟩
theorem gw_tup {vs : List Nat} {k : Nat} (hc : X.calm = true) (h : EGsw X vs es gs) (hn : (assignEach es X.env).length = gs.length := by rfl) (hst : (assignEach es X.env).findIdx? (·.1) = none := by rfl) : EGw X vs (.Tuple es k pos) (gT gs) :=
  (pg_tup hc h hn hst).mono fun v σV H Q ⟨loc, σ, M, w, σ', rel, rd, e, q⟩ => by
    cases rd with
    | @tup a xs ws sq rs => exact ⟨a, xs, rfl, sq, by rw [rs.length]; exact gAll_length e, loc, σ, M, ws, σ', rel, rs, e, q⟩
    | _ => cases e

/-! ### statements -/
variable {st : Stmt} {rest : List Stmt} {s s' : CS}
theorem runS {K : KW} {σV : L2.St} {H : Hp} {loc : List Addr} {σ : Sl} {M : Mem} {o : Out} {D : Ends} (rel : Rel K loc σ M σV H) (ha : s σ M = some o) (h : AftS K H loc D o) : TS' K s D σV H := ⟨loc, σ, M, o, rel, ha, h⟩
theorem ss_nil : ESs X [] sNil := pss_nil.mono fun D σV H ⟨loc, σ, M, o, rel, e, aft⟩ => by
  cases e
  exact aft σV H loc rel .refl (List.prefix_refl _)
theorem ss_one (h : ES X st s) : ESs X [st] s := pss_one h
theorem ss_cons (h1 : ES X st s) (h2 : ESs X rest s') : ESs X (st :: rest) (sSeq s s') :=
  (pss_cons h1 h2).mono fun D σV H ⟨loc, σ, M, o, rel, e, aft⟩ => by
    obtain ⟨o1, h, e⟩ := bind_some e
    refine ⟨loc, σ, M, o1, rel, h, ?_⟩
    cases o1 with
    | nx σ1 M1 => exact fun σV1 H1 loc1 rel1 ex1 l1 => ⟨loc1, σ1, M1, o, rel1, e, aft.after ex1 l1⟩
    | rt w M1 => cases e; exact aft
    | bk σ1 M1 => cases e; exact aft
    | ct σ1 M1 => cases e; exact aft
theorem s_set (i : Nat) {x : Str} {pos' : Pos} (hN : X.N.Nodup) (he : EV X e ca) (hi : X.N[i]? = some x := by rfl) (hx : Loc X.env.scope x := by first | exact Or.inl rfl | exact Or.inr rfl)
    (hs : swapsWith e (some (.Name x pos')) pos.line X.env = pure false := by rfl) (hf : X.fn x = true ∨ X.env.scope.names.lookup x = some .local := by first | exact .inl rfl | exact .inr rfl) : ES X (.Assign [.Name x pos'] e pos) (sSet (gV i) ca) :=
  (ps_set hN hi hx he hs hf).mono fun D σV H ⟨loc, σ, M, o, rel, e, aft⟩ => by
    obtain ⟨p, hp, e⟩ := bind_some e
    cases e
    exact run1 rel hp fun v H1 loc1 rel1 rd1 ex1 l1 => aft _ H1 loc1 (rel1.set rd1 i) ex1 l1
theorem asg_aux {D : Ends} {σV : L2.St} {H : Hp} (h : TS' X.KW (sSet g ca) D σV H) : tAsg (TC X.KW ca) (TG' X.KW g) D σV H := by
  obtain ⟨loc, σ, M, o, rel, e, aft⟩ := h
  obtain ⟨p, hp, e⟩ := bind_some e
  obtain ⟨σ1, h1, e⟩ := bind_some e
  cases e
  exact run1 rel hp fun v H1 loc1 rel1 rd1 ex1 l1 => ⟨loc1, σ, p.2, p.1, σ1, rel1, rd1, h1, fun σV' rel' => aft σV' H1 loc1 rel' ex1 l1⟩
/-- any target -/
theorem s_asg (he : EV X e ca) (hg : EG X tg g) (hs : swapsWithSole [tg] e pos.line X.env = pure false := by rfl) (hw : swappedStores [tg] e X.env = pure none := by rfl)
    (h1 : (assignEach [tg] X.env).map (·.2) = [assign tg X.env] := by rfl) : ES X (.Assign [tg] e pos) (sSet g ca) :=
  (ps_asg he hg hs hw h1).mono fun D σV H h => asg_aux h
theorem s_par2 (i j : Nat) {x y : Str} {px py pt : Pos} {kt k2 pt2} (hc : X.calm = true) (hN : X.N.Nodup) (ha : EA X [a, b] [ca, cb]) (hi : X.N[i]? = some x := by rfl) (hj : X.N[j]? = some y := by rfl) (hij : i ≠ j := by decide)
    (hx : X.env.scope.names.lookup x = some .local := by rfl) (hy : X.env.scope.names.lookup y = some .local := by rfl)
    (hw : swappedStores [.Tuple [.Name x px, .Name y py] kt pt] (.Tuple [a, b] k2 pt2) X.env = pure (some [x, y]) := by rfl)
    (hs : swapsWithSole [.Tuple [.Name x px, .Name y py] kt pt] (.Tuple [a, b] k2 pt2) pos.line X.env = pure false := by rfl) :
    ES X (.Assign [.Tuple [.Name x px, .Name y py] kt pt] (.Tuple [a, b] k2 pt2) pos) (sPar [i, j] [ca, cb]) :=
  (ps_par hc hN hi hj hij hx hy ha hw hs).mono fun D σV H ⟨loc, σ, M, o, rel, e, aft⟩ => by
    obtain ⟨p, hp, e⟩ := bind_some e
    refine runA rel hp fun vs H1 loc1 rel1 rd1 ex1 l1 => ?_
    have hl : p.1.length = 2 := eArgs_length hp
    obtain ⟨p1, p2⟩ := p
    match p1, hl, rd1 with
    | [w1, w2], _, .cons (v := v1) r1 (.cons (v := v2) r2 .nil) =>
      cases e
      exact ⟨_, _, rfl, aft _ H1 loc1 ((rel1.set r1 i).set r2 j) ex1 l1⟩
theorem s_aug (i : Nat) {x : Str} {op : Operator} {r : R2} {f : Mem → W → W → Option (W × Mem)} {pos' : Pos} (hN : X.N.Nodup) (ho : OpR X (inplaceOp op) r) (hl : Lift2 X.KW r f) (he : EV X e ca) (hi : X.N[i]? = some x := by rfl) (hx : Loc X.env.scope x := by first | exact Or.inl rfl | exact Or.inr rfl)
    (hf : X.fn x = true ∨ X.env.scope.names.lookup x = some .local := by first | exact .inl rfl | exact .inr rfl) : ES X (.AugAssign (.Name x pos') op e pos) (sAug i f ca) :=
  (ps_aug hN hi hx he (show PIp X op r from ho) hf).mono fun D σV H ⟨loc, σ, M, o, rel, e, aft⟩ => by
    unfold sAug at e
    split at e
    · rename_i w hw
      obtain ⟨p, hp, e⟩ := bind_some e
      obtain ⟨q, hq, e⟩ := bind_some e
      cases e
      have hw' : σ[i]? = some (some w) := by
        rw [List.getD_eq_getElem?_getD] at hw
        cases z : σ[i]? with
        | none => rw [z] at hw; cases hw
        | some u => rw [z] at hw; exact congrArg some hw
      obtain ⟨v, h1, h2⟩ := rel.sl i w hw'
      refine ⟨v, h1, run1 rel hp fun u H1 loc1 rel1 rd1 ex1 l1 => ?_⟩
      refine hl H1 loc1 p.2 w p.1 v u q.1 q.2 _ rel1.st (h2.mono ex1 l1) rd1 hq fun z H2 loc2 s2 rd2 ex2 l2 => ?_
      exact aft _ H2 loc2 ((rel1.move s2 ex2 l2).set rd2 i) (ex1.trans ex2) (l1.trans l2)
    · cases e
def LiftP (K : KW) (r : TSet) (f : Mem → W → W → W → Option Mem) : Prop :=
  ∀ (H : Hp) (loc : List Addr) (M : Mem) (x y z : W) (o i v : V) (M' : Mem) (Q : Hp → Prop), Store K H loc M → Rd K H loc o x → Rd K H loc i y → Rd K H loc v z → f M x y z = some M' →
    (∀ H' loc', Store K H' loc' M' → Ext K H H' → loc <+: loc' → Q H') → r o i v H Q
theorem s_put {r : TSet} {f : Mem → W → W → W → Option Mem} {pos1 : Pos} (ho : PSet X r) (hl : LiftP X.KW r f) (he : EV X e ca) (h1 : EV X a cb) (h2 : EV X b cc)
    (hs : swapsWithSole [.Subscript a b pos1] e pos.line X.env = pure false := by rfl) (hw : swappedStores [.Subscript a b pos1] e X.env = pure none := by rfl)
    (h3 : (assignEach [.Subscript a b pos1] X.env).map (·.2) = [assign (.Subscript a b pos1) X.env] := by rfl)
    (ha : ∀ v, assign (.Subscript a b pos1) X.env v = (do
      let ov ← holding [v] (eval a X.env)
      let iv ← holding [v, ov] (eval b X.env)
      standAt pos1
      holding [v, ov, iv] (setItem ov iv v)
      release [v, ov, iv] []) := by intro _; rfl) : ES X (.Assign [.Subscript a b pos1] e pos) (sPut f cb cc ca) :=
  (ps_asg he (pg_sub h1 h2 ho ha) hs hw h3).mono fun D σV H ⟨loc, σ, M, o, rel, e, aft⟩ => by
    obtain ⟨p, hp, e⟩ := bind_some e
    obtain ⟨q, hq, e⟩ := bind_some e
    obtain ⟨t, ht, e⟩ := bind_some e
    obtain ⟨M', hM, e⟩ := bind_some e
    cases e
    refine run1 rel hp fun v H1 loc1 rel1 rd1 ex1 l1 => run1 rel1 hq fun u H2 loc2 rel2 rd2 ex2 l2 => run1 rel2 ht fun z H3 loc3 rel3 rd3 ex3 l3 => ?_
    refine hl H3 loc3 t.2 q.1 t.1 p.1 u z v M' _ rel3.st (rd2.mono ex3 l3) rd3 (rd1.mono (ex2.trans ex3) (l2.trans l3)) hM fun H4 loc4 s4 ex4 l4 => ?_
    exact aft σV H4 loc4 (rel3.move s4 ex4 l4) (((ex1.trans ex2).trans ex3).trans ex4) (((l1.trans l2).trans l3).trans l4)
theorem s_expr (he : EV X e ca) (hs : swapsWith e none pos.line X.env = pure false := by rfl) : ES X (.Expr e pos) (sExpr ca) :=
  (ps_expr he hs).mono fun D σV H ⟨loc, σ, M, o, rel, e, aft⟩ => by
    obtain ⟨p, hp, e⟩ := bind_some e
    cases e
    exact run1 rel hp fun v H1 loc1 rel1 rd1 ex1 l1 => aft _ H1 loc1 rel1 ex1 l1
theorem s_ret (he : EV X e ca) : ES X (.Return (some e) pos) (sRet ca) :=
  (ps_ret he).mono fun D σV H ⟨loc, σ, M, o, rel, e, aft⟩ => by
    obtain ⟨p, hp, e⟩ := bind_some e
    cases e
    exact ⟨loc, σ, M, p.1, p.2, rel, hp, aft⟩
theorem s_break : ES X (.Break pos) sBreak := ps_break.mono fun D σV H ⟨loc, σ, M, o, rel, e, aft⟩ => by
  cases e
  exact aft σV H loc rel .refl (List.prefix_refl _)
theorem s_if {tA : CT} {sa sb : List Stmt} (hc : ET X c tA) (ha : ESs X sa s) (hb : ESs X sb s') : ES X (.If c sa sb pos) (sIf tA s s') :=
  (ps_if hc ha hb).mono fun D σV H ⟨loc, σ, M, o, rel, e, aft⟩ => by
    obtain ⟨p, hp, e⟩ := bind_some e
    refine runT rel hp fun H1 loc1 rel1 ex1 l1 => ?_
    split at e
    · rename_i h; rw [if_pos h]; exact ⟨loc1, σ, p.2, o, rel1, e, aft.after ex1 l1⟩
    · rename_i h; rw [if_neg h]; exact ⟨loc1, σ, p.2, o, rel1, e, aft.after ex1 l1⟩

/-! ### loops -/
/-- the iterator J yields ws while the memory stays as gd says -/
def WalkW (K : KW) (H0 : Hp) (loc0 : List Addr) (J : It) (ws : List W) (gd : Mem → Bool) : Prop :=
  ∀ (i : Nat) (H : Hp) (loc : List Addr) (M : Mem), Store K H loc M → Ext K H0 H → loc0 <+: loc → gd M = true →
    (∀ w, ws[i]? = some w → J.go i H ∧ ∀ x H2, J.yld i H x H2 → Rd K H2 loc x w ∧ Store K H2 loc M ∧ Ext K H H2) ∧ (ws.length ≤ i → J.stop i H)
def TI' (K : KW) (c : CI) : TI := fun σV H R => ∃ loc σ M ws gd M', Rel K loc σ M σV H ∧ c σ M = some (ws, gd, M') ∧
  ∀ J H' loc', Store K H' loc' M' → Ext K H H' → loc <+: loc' → WalkW K H' loc' J ws gd → R J H'
abbrev EI (X : Cx) (tg iter : Expr) (c : CI) : Prop := PI X tg iter (TI' X.KW c)
theorem _root_.L2.PI.mono {t t' : TI} (h : PI X tg iter t) (f : ∀ σ H R, t' σ H R → t σ H R) : PI X tg iter t' := ⟨fun p s σ H R I q => h.run p s σ H R I (f σ H R q)⟩
theorem s_for {it : CI} {body : List Stmt} (hi : EI X tg iter it) (hg : EG X tg g) (hb : ESs X body s) (hp : PassesOwn (model X.prog X.w) X.A X.env X.xe := by exact PassesOwn.never) (hc : X.calm = true := by rfl)
    (hs : ∀ x, foldedSetIterable iter X.env x = pure x := by intro _; rfl) : ES X (.For tg iter body [] pos) (sFor it g s) :=
  (ps_for hp hc hi hg hb hs).mono fun D σV H ⟨loc, σ, M, o, rel, e, aft⟩ => by
    obtain ⟨p, hp, e⟩ := bind_some e
    obtain ⟨ws, gd, M1⟩ := p
    refine ⟨loc, σ, M, ws, gd, M1, rel, hp, fun J H1 loc1 s1 ex1 l1 wk => ?_⟩
    have aft1 := aft.after ex1 l1
    refine ⟨fun i m σV' Hc => i ≤ ws.length ∧ m = ws.length - i ∧ ∃ locc σc Mc, Rel X.KW locc σc Mc σV' Hc ∧ Ext X.KW H1 Hc ∧ loc1 <+: locc ∧ forL gd g s (ws.drop i) σc Mc = some o,
      ⟨ws.length, Nat.zero_le _, rfl, loc1, σ, M1, rel.move s1 ex1 l1, .refl, List.prefix_refl _, e⟩, fun i m σV' Hc hW => ?_⟩
    obtain ⟨hi, rfl, locc, σc, Mc, relc, exc, lc, ec⟩ := hW
    by_cases hlt : i < ws.length
    · rw [List.drop_eq_getElem_cons hlt] at ec
      rw [forL] at ec
      split at ec
      · rename_i hgd
        obtain ⟨σ1, hg1, ec⟩ := bind_some ec
        obtain ⟨ob, hob, ec⟩ := bind_some ec
        obtain ⟨w1, _⟩ := wk i Hc locc Mc relc.st exc lc hgd
        obtain ⟨go, yl⟩ := w1 ws[i] (List.getElem?_eq_getElem hlt)
        refine .inr ⟨go, fun σV'' H'' => ∃ loc'' σ'' M'', Rel X.KW loc'' σ'' M'' σV'' H'' ∧ Ext X.KW H1 H'' ∧ loc1 <+: loc'' ∧ forL gd g s (ws.drop (i + 1)) σ'' M'' = some o, fun σV'' H'' hN => ?_, fun x H2 y => ?_⟩
        · exact ⟨ws.length - (i + 1), by omega, hlt, rfl, hN⟩
        · obtain ⟨rd, st2, ex2⟩ := yl x H2 y
          refine ⟨locc, σc, Mc, ws[i], σ1, relc.move st2 ex2 (List.prefix_refl _), rd, hg1, fun σV2 rel2 => ?_⟩
          refine ⟨locc, σ1, Mc, ob, rel2, hob, ?_⟩
          have exA := exc.trans ex2
          cases ob with
          | nx σ3 M3 => exact fun σV3 H3 loc3 rel3 ex3 l3 => ⟨loc3, σ3, M3, rel3, exA.trans ex3, lc.trans l3, ec⟩
          | ct σ3 M3 => exact fun σV3 H3 loc3 rel3 ex3 l3 => ⟨loc3, σ3, M3, rel3, exA.trans ex3, lc.trans l3, ec⟩
          | bk σ3 M3 =>
            cases ec
            exact fun σV3 H3 loc3 rel3 ex3 l3 => aft1 σV3 H3 loc3 rel3 (exA.trans ex3) (lc.trans l3)
          | rt w M3 =>
            cases ec
            exact Aft.after (K := X.KW) aft1 exA lc
      · cases ec
    · have e0 : i = ws.length := by omega
      subst e0
      rw [List.drop_length, forL] at ec
      split at ec
      · rename_i hgd
        cases ec
        obtain ⟨_, w2⟩ := wk ws.length Hc locc Mc relc.st exc lc hgd
        exact .inl ⟨w2 (Nat.le_refl _), aft1 σV' Hc locc relc exc lc⟩
      · cases ec
theorem s_while (n : Nat) {tA : CT} {body : List Stmt} (hc : ET X c tA) (hb : ESs X body s) (hp : PassesOwn (model X.prog X.w) X.A X.env X.xe := by exact PassesOwn.never) : ES X (.While c body [] pos) (sWhile n tA s) :=
  (ps_while hp hc hb).mono fun D σV H ⟨loc, σ, M, o, rel, e, aft⟩ => by
    refine ⟨fun m σV' Hc => ∃ locc σc Mc, Rel X.KW locc σc Mc σV' Hc ∧ Ext X.KW H Hc ∧ loc <+: locc ∧ whileL tA s m σc Mc = some o,
      ⟨n, loc, σ, M, rel, .refl, List.prefix_refl _, e⟩, fun m σV' Hc hW => ?_⟩
    obtain ⟨locc, σc, Mc, relc, exc, lc, ec⟩ := hW
    cases m with
    | zero => cases ec
    | succ m =>
      rw [whileL] at ec
      obtain ⟨p, hp, ec⟩ := bind_some ec
      refine runT relc hp fun H1 loc1 rel1 ex1 l1 => ?_
      split at ec
      · rename_i hb
        rw [if_pos hb]
        obtain ⟨ob, hob, ec⟩ := bind_some ec
        have exA := exc.trans ex1
        have lA := lc.trans l1
        refine ⟨fun σV'' H'' => ∃ loc'' σ'' M'', Rel X.KW loc'' σ'' M'' σV'' H'' ∧ Ext X.KW H H'' ∧ loc <+: loc'' ∧ whileL tA s m σ'' M'' = some o, fun σV'' H'' hN => ⟨m, Nat.lt_succ_self _, hN⟩, ?_⟩
        refine ⟨loc1, σc, p.2, ob, rel1, hob, ?_⟩
        cases ob with
        | nx σ3 M3 => exact fun σV3 H3 loc3 rel3 ex3 l3 => ⟨loc3, σ3, M3, rel3, exA.trans ex3, lA.trans l3, ec⟩
        | ct σ3 M3 => exact fun σV3 H3 loc3 rel3 ex3 l3 => ⟨loc3, σ3, M3, rel3, exA.trans ex3, lA.trans l3, ec⟩
        | bk σ3 M3 =>
          cases ec
          exact fun σV3 H3 loc3 rel3 ex3 l3 => aft σV3 H3 loc3 rel3 (exA.trans ex3) (lA.trans l3)
        | rt w M3 =>
          cases ec
          exact Aft.after (K := X.KW) aft exA lA
      · rename_i hb
        rw [if_neg hb]
        cases ec
        exact aft σV' H1 loc1 rel1 (exc.trans ex1) (lc.trans l1)

/-! ### what is walked -/
theorem walk_of_tup {K : KW} {H : Hp} {loc : List Addr} {a : Addr} {xs : List V} {ws : List W} (sq : SqT K H a xs) (r : Rds K H loc xs ws) : WalkW K H loc (Itt K a) ws gdT :=
  fun i H1 loc1 M s ex l _ => ⟨fun w hw => by
    obtain ⟨v, h1, h2⟩ := r.get hw
    exact ⟨⟨xs, v, ex.tup _ _ sq, h1⟩, fun x H2 y => by
      obtain ⟨rfl, y⟩ := y
      have e := y xs (ex.tup _ _ sq)
      rw [h1] at e; cases e
      exact ⟨h2.mono ex l, s, .refl⟩⟩, fun hl => ⟨xs, ex.tup _ _ sq, by rw [r.length]; exact hl⟩⟩
theorem i_tup (h : EV X iter ca) : EI X tg iter (iTup ca) := (pi_tup h).mono fun σV H R ⟨loc, σ, M, ws, gd, M', rel, e, aft⟩ => by
  obtain ⟨p, hp, e⟩ := bind_some e
  refine run1 rel hp fun v H1 loc1 rel1 rd1 ex1 l1 => ?_
  split at e
  · rename_i zs hz
    cases e
    rw [hz] at rd1
    cases rd1 with
    | @tup a xs _ sq rs => exact ⟨a, rfl, ⟨xs, sq⟩, aft _ H1 loc1 rel1.st ex1 l1 (walk_of_tup sq rs)⟩
  · cases e
theorem walk_of_lst {K : KW} {H : Hp} {loc : List Addr} {a : Addr} {n : Nat} {ws : List W} (hn : loc[n]? = some a) : WalkW K H loc (Itl K a) ws (fun M' => decide (M'[n]? = some (.lst ws))) :=
  fun i H1 loc1 M s ex l hg => by
    have hg := of_decide_eq_true hg
    obtain ⟨xs, h1, r⟩ := s.ok n a _ (pre_get l hn) hg
    refine ⟨fun w hw => ?_, fun hl => ⟨xs, SqL.of h1, by rw [r.length]; exact hl⟩⟩
    obtain ⟨v, h2, h3⟩ := r.get hw
    refine ⟨⟨xs, v, SqL.of h1, h2⟩, fun x H2 y => ?_⟩
    obtain ⟨rfl, y⟩ := y
    have e := y xs (SqL.of h1)
    rw [h2] at e; cases e
    exact ⟨h3, s, .refl⟩
theorem walk_of_ro {K : KW} {H : Hp} {loc : List Addr} {a : Addr} {n : Nat} {ws : List W} (hn : loc[n]? = some a) : WalkW K H loc (Itl K a) ws (fun M' => decide (M'[n]? = some (.ro ws))) :=
  fun i H1 loc1 M s ex l hg => by
    have hg := of_decide_eq_true hg
    obtain ⟨xs, h1, r⟩ := s.ok n a _ (pre_get l hn) hg
    refine ⟨fun w hw => ?_, fun hl => ⟨xs, h1.sq, by rw [r.length]; exact hl⟩⟩
    obtain ⟨v, h2, h3⟩ := r.get hw
    refine ⟨⟨xs, v, h1.sq, h2⟩, fun x H2 y => ?_⟩
    obtain ⟨rfl, y⟩ := y
    have e := y xs h1.sq
    rw [h2] at e; cases e
    exact ⟨h3, s, .refl⟩
theorem i_lst (h : EV X iter ca) : EI X tg iter (iLst ca) := (pi_list h).mono fun σV H R ⟨loc, σ, M, ws, gd, M', rel, e, aft⟩ => by
  obtain ⟨p, hp, e⟩ := bind_some e
  refine run1 rel hp fun v H1 loc1 rel1 rd1 ex1 l1 => ?_
  split at e
  · rename_i n hn
    rw [hn] at rd1
    cases rd1 with
    | @ref a _ ha =>
      split at e
      · rename_i zs hz
        cases e
        obtain ⟨xs, h1, _⟩ := rel1.st.ok n a _ ha hz
        exact ⟨a, rfl, ⟨xs, SqL.of h1⟩, aft _ H1 loc1 rel1.st ex1 l1 (walk_of_lst ha)⟩
      · rename_i zs hz
        cases e
        obtain ⟨xs, h1, _⟩ := rel1.st.ok n a _ ha hz
        exact ⟨a, rfl, ⟨xs, h1.sq⟩, aft _ H1 loc1 rel1.st ex1 l1 (walk_of_ro ha)⟩
      · cases e
  · cases e
theorem walk_of_range {K : KW} {H : Hp} {loc : List Addr} {lo : Int} {n : Nat} : WalkW K H loc (Itr lo n) (rangeW lo n) gdT :=
  fun i H1 loc1 M s ex l _ => ⟨fun w hw => by
    obtain ⟨hi, rfl⟩ := rangeW_get hw
    exact ⟨hi, fun x H2 y => by
      obtain ⟨rfl, rfl⟩ := y
      exact ⟨.int _, s, .refl⟩⟩, fun hl => by rw [rangeW_length] at hl; exact hl⟩
theorem small62_iff {i : Int} (h : small62 i = true) : -(2 ^ 62) ≤ i ∧ i < 2 ^ 62 := by
  have := Nat.le_of_ble_eq_true h
  omega
theorem i_range1 {p pos : Pos} (hg : Gl X "range") (hm : X.mg "range" = none) (h : EA X [a] [ca]) (hs : starEach [a] X.env = [(false, eval a X.env)] := by rfl) : EI X tg (.Call (.Name "range" p) [a] [] pos) (iRange1 ca) :=
  (pi_range1 hg hm h hs).mono fun σV H R ⟨loc, σ, M, ws, gd, M', rel, e, aft⟩ => by
    obtain ⟨p, hp, e⟩ := bind_some e
    refine runA (p := ([p.1], p.2)) rel (by simp only [eArgs, hp, Option.bind_some]) fun vs H1 loc1 rel1 rd1 ex1 l1 => ?_
    split at e
    · rename_i j hj
      split at e
      · rename_i h62
        cases e
        obtain ⟨h1, h2⟩ := small62_iff h62
        rw [hj] at rd1
        match vs, rd1 with
        | [_], .cons (.int _) .nil => exact ⟨j, rfl, h1, h2, aft _ H1 loc1 rel1.st ex1 l1 walk_of_range⟩
      · cases e
    · cases e
theorem i_range2 {p pos : Pos} (hg : Gl X "range") (hm : X.mg "range" = none) (h : EA X [a, b] [ca, cb]) (hs : starEach [a, b] X.env = [(false, eval a X.env), (false, eval b X.env)] := by rfl) (hs2 : starEach [b] X.env = [(false, eval b X.env)] := by rfl) : EI X tg (.Call (.Name "range" p) [a, b] [] pos) (iRange2 ca cb) :=
  (pi_range2 hg hm h hs hs2).mono fun σV H R ⟨loc, σ, M, ws, gd, M', rel, e, aft⟩ => by
    obtain ⟨p, hp, e⟩ := bind_some e
    obtain ⟨q, hq, e⟩ := bind_some e
    refine runA (p := ([p.1, q.1], q.2)) rel (by simp only [eArgs, hp, hq, Option.bind_some]) fun vs H1 loc1 rel1 rd1 ex1 l1 => ?_
    split at e
    · rename_i i j hi hj
      split at e
      · rename_i h62
        cases e
        obtain ⟨h1, h2⟩ := small62_iff h62.1
        obtain ⟨h3, h4⟩ := small62_iff h62.2
        rw [hi, hj] at rd1
        match vs, rd1 with
        | [_, _], .cons (.int _) (.cons (.int _) .nil) => exact ⟨i, j, rfl, ⟨h1, h2, h3, h4⟩, aft _ H1 loc1 rel1.st ex1 l1 walk_of_range⟩
      · cases e
    · cases e
theorem zipW_get {xs ys : List W} {i : Nat} {w : W} (h : (zipW xs ys)[i]? = some w) : ∃ x y, xs[i]? = some x ∧ ys[i]? = some y ∧ w = .tup [x, y] := by
  unfold zipW at h
  rw [List.getElem?_map] at h
  cases q : (xs.zip ys)[i]? with
  | none => rw [q] at h; cases h
  | some p =>
    rw [q] at h
    cases h
    rw [List.getElem?_zip_eq_some] at q
    exact ⟨p.1, p.2, q.1, q.2, rfl⟩
theorem walk_of_zipT {K : KW} {H : Hp} {loc : List Addr} {a b : Addr} {xs ys : List V} {ws zs : List W} (sq : SqT K H a xs) (sq' : SqT K H b ys) (r : Rds K H loc xs ws) (r' : Rds K H loc ys zs) : WalkW K H loc (RZ.ItzT K a b) (zipW ws zs) gdT :=
  fun i H1 loc1 M s ex l _ => ⟨fun w hw => by
    obtain ⟨x, y, h1, h2, rfl⟩ := zipW_get hw
    obtain ⟨v, g1, g2⟩ := r.get h1
    obtain ⟨u, g3, g4⟩ := r'.get h2
    refine ⟨⟨xs, ys, v, u, ex.tup _ _ sq, ex.tup _ _ sq', g1, g3⟩, fun x H2 y => ?_⟩
    obtain ⟨T, x', y', rfl, hT, rfl, f1, f2⟩ := y
    have e1 := f1 xs (ex.tup _ _ sq)
    have e2 := f2 ys (ex.tup _ _ sq')
    rw [g1] at e1; cases e1
    rw [g3] at e2; cases e2
    have ex2 : Ext K H1 (upd H1 T (.tup [v, u])) := .new hT
    exact ⟨.tup (SqT.of upd_same) (.cons (g2.mono (ex.trans ex2) l) (.cons (g4.mono (ex.trans ex2) l) .nil)), s.newT hT, ex2⟩,
   fun hl => ⟨xs, ys, ex.tup _ _ sq, ex.tup _ _ sq', by
    rw [r.length, r'.length]
    have : (zipW ws zs).length = min ws.length zs.length := by simp [zipW]
    omega⟩⟩
theorem i_zipT {p pos tpos : Pos} {elts : List Expr} {kk : Nat} (hg : Gl X "zip") (hm : X.mg "zip" = none) (h : EA X [a, b] [ca, cb])
    (hs : starEach [a, b] X.env = (false, eval a X.env) :: starEach [b] X.env := by rfl) (hpl : (backTo pos (starEach [b] X.env)).any (·.1) = false := by rfl) :
    EI X (.Tuple elts kk tpos) (.Call (.Name "zip" p) [a, b] [] pos) (iZipT ca cb) :=
  (RZ.pi_zipA hg hm h hs hpl).mono fun σV H R ⟨loc, σ, M, ws, gd, M', rel, e, aft⟩ => by
    obtain ⟨p, hp, e⟩ := bind_some e
    obtain ⟨q, hq, e⟩ := bind_some e
    refine runA (p := ([p.1, q.1], q.2)) rel (by simp only [eArgs, hp, hq, Option.bind_some]) fun vs H1 loc1 rel1 rd1 ex1 l1 => ?_
    split at e
    · rename_i xs ys hx hy
      cases e
      rw [hx, hy] at rd1
      match vs, rd1 with
      | [_, _], .cons (.tup (a := a1) (xs := us1) sq1 r1) (.cons (.tup (a := a2) (xs := us2) sq2 r2) .nil) =>
        exact ⟨a1, a2, us1, us2, rfl, .inr ⟨sq1, sq2, aft _ H1 loc1 rel1.st ex1 l1 (walk_of_zipT sq1 sq2 r1 r2)⟩⟩
    · cases e

/-! ### comprehensions -/
abbrev TTs (X : Cx) (ifs : List Expr) (t : CT) : Prop := PTs X ifs (TT' X.KW t)
theorem ts_nil : TTs X [] tTrue := ⟨fun pins s σ H Q I h => pts_nil.run pins s σ H Q I (by
  obtain ⟨loc, σ', M, k, M', rel, e, aft⟩ := h
  cases e
  exact aft H loc rel.st .refl (List.prefix_refl _))⟩
theorem ts_one {tA : CT} (h : ET X c tA) : TTs X [c] tA := pts_one h
theorem lc_aux {K : KW} {it : CI} {t : CT} {vs : List Nat} {σV : L2.St} {H : Hp} {Q : VK} (h : TC K (eLc it g t ca vs) σV H Q) : tLc (TI' K it) (TGw K vs g) (TT' K t) (TC K ca) vs σV H Q := by
  obtain ⟨loc, σ, M, w, M', rel, e, aft⟩ := h
  obtain ⟨p, hp, e⟩ := bind_some e
  obtain ⟨ws, gd, M1⟩ := p
  obtain ⟨M2, hM2, e⟩ := bind_some e
  cases e
  refine ⟨loc, σ, M, ws, gd, M1, rel, hp, fun J H1 loc1 s1 ex1 l1 wk D hD => ?_⟩
  have aft1 := aft.after ex1 l1
  have rel1 := rel.move s1 ex1 l1
  have st0 : Store K (upd H1 D (.lst [])) (loc1 ++ [D]) (M1 ++ [.lst []]) := new_lst s1 .nil hD
  have exD : Ext K H1 (upd H1 D (.lst [])) := .new hD
  refine ⟨fun i m Hc => i ≤ ws.length ∧ m = ws.length - i ∧ ∃ locc Mc, Rel K locc σ Mc σV Hc ∧ Ext K H1 Hc ∧ (loc1 ++ [D]) <+: locc ∧ lcL gd g t ca vs σ M1.length (ws.drop i) Mc = some M',
    ⟨ws.length, Nat.zero_le _, rfl, loc1 ++ [D], M1 ++ [.lst []], rel1.move st0 exD (List.prefix_append _ _), exD, List.prefix_refl _, by rw [List.drop_zero]; exact hM2⟩, fun i m Hc hW => ?_⟩
  obtain ⟨hi, rfl, locc, Mc, relc, exc, lc, ec⟩ := hW
  have lc1 : loc1 <+: locc := (List.prefix_append _ _).trans lc
  have hDn : (loc1 ++ [D])[M1.length]? = some D := last_get s1.len.symm
  by_cases hlt : i < ws.length
  · rw [List.drop_eq_getElem_cons hlt] at ec
    rw [lcL] at ec
    split at ec
    · rename_i hgd
      obtain ⟨σ1, hg1, ec⟩ := bind_some ec
      obtain ⟨q, hq, ec⟩ := bind_some ec
      obtain ⟨w1, _⟩ := wk i Hc locc Mc relc.st exc lc1 hgd
      obtain ⟨go, yl⟩ := w1 ws[i] (List.getElem?_eq_getElem hlt)
      refine .inr ⟨go, fun H'' => ∃ loc'' M'', Rel K loc'' σ M'' σV H'' ∧ Ext K H1 H'' ∧ (loc1 ++ [D]) <+: loc'' ∧ lcL gd g t ca vs σ M1.length (ws.drop (i + 1)) M'' = some M', fun H'' hN => ⟨ws.length - (i + 1), by omega, hlt, rfl, hN⟩, fun x H2 y => ?_⟩
      obtain ⟨rd, st2, ex2⟩ := yl x H2 y
      have rel2 := relc.move st2 ex2 (List.prefix_refl _)
      refine ⟨locc, wipe σ vs, Mc, ws[i], σ1, rel2.wipe vs, rd, hg1, fun σV2 relw zw => ⟨zw.trans (wipe_wipe σV vs), ?_⟩⟩
      refine runT relw hq fun H3 loc3 rel3 ex3 l3 => ?_
      have exA := (exc.trans ex2).trans ex3
      have lA := lc.trans l3
      split at ec
      · rename_i hb
        rw [if_pos hb]
        obtain ⟨z, hz, ec⟩ := bind_some ec
        refine run1 rel3 hz fun v H4 loc4 rel4 rd4 ex4 l4 => ?_
        split at ec
        · rename_i acc hacc
          split at ec
          · rename_i hlen
            have hD4 := pre_get (lA.trans l4) hDn
            obtain ⟨xs, g1, g2⟩ := rel4.st.ok M1.length D _ hD4 hacc
            refine ⟨xs, g1, by rw [g2.length]; exact hlen, ?_⟩
            have ex5 : Ext K H4 (upd H4 D (.lst (xs ++ [v]))) := .upd g1 trivial
            have st5 : Store K (upd H4 D (.lst (xs ++ [v]))) loc4 (z.2.set M1.length (.lst (acc ++ [z.1]))) :=
              rel4.st.put hD4 hacc rfl rfl ⟨_, upd_same, (g2.append (.cons rd4 .nil)).mono ex5 (List.prefix_refl _)⟩
            exact ⟨loc4, _, relc.move st5 (((ex2.trans ex3).trans ex4).trans ex5) (l3.trans l4), ((exA.trans ex4).trans ex5), lA.trans l4, ec⟩
          · cases ec
        · cases ec
      · rename_i hb
        rw [if_neg hb]
        exact ⟨loc3, q.2, relc.move rel3.st (ex2.trans ex3) l3, exA, lA, ec⟩
    · cases ec
  · have e0 : i = ws.length := by omega
    subst e0
    rw [List.drop_length, lcL] at ec
    split at ec
    · rename_i hgd
      obtain ⟨_, w2⟩ := wk ws.length Hc locc Mc relc.st exc lc1 hgd
      cases ec
      exact .inl ⟨w2 (Nat.le_refl _), aft1 _ Hc locc relc.st (.ref (pre_get lc hDn)) exc lc1⟩
    · cases ec
abbrev _root_.L2.Cx.bl (X : Cx) (scope : Scope) (s : Shared) (H : Hp) (C : Addr) (cl : List (Str × Addr)) (fp : List Addr) : Cx := X.blk s H scope (compEnvC scope cl C X.env) fp
theorem r_lc {ifs : List Expr} {scope : Scope} {own : List (Str × Nat)} {it : CI} {t : CT} (hN : X.N.Nodup) (hi : EI X tg iter it) (ok : blkC X.N X.env.scope scope own = true)
    (hg : ∀ s H C cl fp, EGw (Cx.bl X scope s H C cl fp) (own.map (·.2)) tg g) (ht : ∀ s H C cl fp, TTs (Cx.bl X scope s H C cl fp) ifs t)
    (he : ∀ s H C cl fp, EV (Cx.bl X scope s H C cl fp) e ca) (hc : X.calm = true := by rfl) (hs : ∀ x, foldedSetIterable iter X.env x = pure x := by intro _; rfl) :
    EV X (.ListComp e [⟨tg, iter, ifs, 0⟩] scope pos) (eLc it g t ca (own.map (·.2))) :=
  (pe_lc hc hN hi (blkOk_by ok) hg ht he hs).mono fun σV H Q h => lc_aux h
theorem s_setLc (i : Nat) {y : Str} {py spos : Pos} {ifs : List Expr} {scope : Scope} {own : List (Str × Nat)} {it : CI} {t : CT} (hN : X.N.Nodup) (hi : EI X tg iter it) (ok : blkC X.N X.env.scope scope own = true)
    (hg : ∀ s H C cl fp, EGw (Cx.bl X scope s H C cl fp) (own.map (·.2)) tg g) (ht : ∀ s H C cl fp, TTs (Cx.bl X scope s H C cl fp) ifs t)
    (he : ∀ s H C cl fp, EV (Cx.bl X scope s H C cl fp) e ca) (hy : X.N[i]? = some y := by rfl) (hyl : X.env.scope.names.lookup y = some .local := by rfl)
    (ha : (scope.names.any fun (n, k) => n == y && (k == .local || k == .cell)) = false := by decide +kernel) (hk : X.env.scope.kind = .function := by rfl) (hl : (py.line == pos.line) = true := by rfl)
    (hc : X.calm = true := by rfl) (hs : ∀ x, foldedSetIterable iter X.env x = pure x := by intro _; rfl) :
    ES X (.Assign [.Name y py] (.ListComp e [⟨tg, iter, ifs, 0⟩] scope pos) spos) (sSet (gV i) (eLc it g t ca (own.map (·.2)))) :=
  (ps_setLc hc hN hy hyl (sw_true hk hyl hl ha) hi (blkOk_by ok) hg ht he hs).mono fun D σV H ⟨loc, σ, M, o, rel, e, aft⟩ => by
    obtain ⟨p, hp, e⟩ := bind_some e
    cases e
    exact lc_aux (run1 rel hp fun v H1 loc1 rel1 rd1 ex1 l1 => aft _ H1 loc1 (rel1.set rd1 i) ex1 l1)
end
end BF

set_option Elab.async false
set_option linter.all false
set_option autoImplicit false
set_option maxRecDepth 100000
/-! The operations lifted, and the rule for a def. -/
namespace BF
open PySem PySem.Spec
open PyProof.Rows L2

section
variable {K : KW}

theorem Lift2.or {r r' : R2} {g : Mem → W → W → Option (W × Mem)} (h : ∀ H loc M x y v u w M' Q, Store K H loc M → Rd K H loc v x → Rd K H loc u y → g M x y = some (w, M') → Aft K H loc w M' Q → r v u H Q ∨ r' v u H Q) :
    Lift2 K (fun x y H Q => r x y H Q ∨ r' x y H Q) g := h
/-- two ints in, a value out -/
theorem lift_int {C : Int → Int → Prop} {f : Int → Int → V} {f' : Int → Int → W} {g : Mem → W → W → Option (W × Mem)}
    (hg : ∀ M x y p, g M x y = some p → ∃ i j, x = .int i ∧ y = .int j ∧ C i j ∧ p = (f' i j, M)) (hf : ∀ H loc i j, Rd K H loc (f i j) (f' i j)) : Lift2 K (rI C f) g := by
  intro H loc M x y v u w M' Q s rx ry e aft
  obtain ⟨i, j, rfl, rfl, hC, e2⟩ := hg M x y _ e
  cases e2
  cases rx; cases ry
  exact ⟨i, j, rfl, rfl, hC, aft _ H loc s (hf H loc i j) .refl (List.prefix_refl _)⟩
theorem lift_int0 {f : Int → Int → V} {f' : Int → Int → W} {g : Mem → W → W → Option (W × Mem)}
    (hg : ∀ M x y p, g M x y = some p → ∃ i j, x = .int i ∧ y = .int j ∧ p = (f' i j, M)) (hf : ∀ H loc i j, Rd K H loc (f i j) (f' i j)) : Lift2 K (rI0 f) g := by
  intro H loc M x y v u w M' Q s rx ry e aft
  obtain ⟨i, j, rfl, rfl, e2⟩ := hg M x y _ e
  cases e2
  cases rx; cases ry
  exact ⟨i, j, rfl, rfl, aft _ H loc s (hf H loc i j) .refl (List.prefix_refl _)⟩
theorem l_sub : Lift2 K (rI0 fun i j => .int (i - j)) gSub := lift_int0 (f' := fun i j => .int (i - j)) (fun M x y p h => by
  unfold gSub at h; split at h
  · cases h; exact ⟨_, _, rfl, rfl, rfl⟩
  · cases h) fun _ _ _ _ => .int _
theorem l_lt : Lift2 K (rI0 fun i j => .bl (decide (i < j))) gLt := lift_int0 (f' := fun i j => .bl (decide (i < j))) (fun M x y p h => by
  unfold gLt at h; split at h
  · cases h; exact ⟨_, _, rfl, rfl, rfl⟩
  · cases h) fun _ _ _ _ => .bl _
theorem l_le : Lift2 K (rI0 fun i j => .bl (decide (i ≤ j))) gLe := lift_int0 (f' := fun i j => .bl (decide (i ≤ j))) (fun M x y p h => by
  unfold gLe at h; split at h
  · cases h; exact ⟨_, _, rfl, rfl, rfl⟩
  · cases h) fun _ _ _ _ => .bl _
theorem l_gt : Lift2 K (rI0 fun i j => .bl (decide (j < i))) gGt := lift_int0 (f' := fun i j => .bl (decide (j < i))) (fun M x y p h => by
  unfold gGt at h; split at h
  · cases h; exact ⟨_, _, rfl, rfl, rfl⟩
  · cases h) fun _ _ _ _ => .bl _
theorem l_ge : Lift2 K (rI0 fun i j => .bl (decide (j ≤ i))) gGe := lift_int0 (f' := fun i j => .bl (decide (j ≤ i))) (fun M x y p h => by
  unfold gGe at h; split at h
  · cases h; exact ⟨_, _, rfl, rfl, rfl⟩
  · cases h) fun _ _ _ _ => .bl _
theorem small64_iff {i : Int} (h : small64 i = true) : -(2 ^ 64) < i ∧ i < 2 ^ 64 := by
  have := Nat.le_of_ble_eq_true h
  omega
theorem l_mul : Lift2 K (rI CMul fun i j => .int (i * j)) gMul := lift_int (f' := fun i j => .int (i * j)) (fun M x y p h => by
  unfold gMul at h; split at h
  · split at h
    · rename_i hs
      cases h
      exact ⟨_, _, rfl, rfl, hs.elim (fun q => .inl (small64_iff q)) (fun q => .inr (small64_iff q)), rfl⟩
    · cases h
  · cases h) fun _ _ _ _ => .int _
theorem l_mod : Lift2 K (rI (fun _ j => 0 < j) fun i j => .int (i % j)) gMod := lift_int (f' := fun i j => .int (i % j)) (fun M x y p h => by
  unfold gMod at h; split at h
  · split at h
    · rename_i hs
      cases h
      exact ⟨_, _, rfl, rfl, hs, rfl⟩
    · cases h
  · cases h) fun _ _ _ _ => .int _
theorem l_div : Lift2 K (rI CDivW fun i j => .int (i / j)) gDiv := lift_int (f' := fun i j => .int (i / j)) (fun M x y p h => by
  unfold gDiv at h; split at h
  · split at h
    · rename_i hs
      cases h
      refine ⟨_, _, rfl, rfl, wide_div (b := 64) hs.1 (by have := small64_iff hs.2; omega) (by decide) (by decide), rfl⟩
    · cases h
  · cases h) fun _ _ _ _ => .int _
theorem l_pow : Lift2 K (rI CPow fun i j => .int (i ^ j.toNat)) gPow := lift_int (f' := fun i j => .int (i ^ j.toNat)) (fun M x y p h => by
  unfold gPow at h; split at h
  · split at h
    · rename_i hs
      cases h
      obtain ⟨h1, h2, h3⟩ := hs
      have h4 := small62_iff h3
      exact ⟨_, _, rfl, rfl, ⟨h1, by omega, by omega⟩, rfl⟩
    · cases h
  · cases h) fun _ _ _ _ => .int _
theorem l_neg : Lift1 K (rU fun i => .int (-i)) gNeg := by
  intro H loc M x v w M' Q s rx e aft
  unfold gNeg at e
  split at e
  · cases e
    cases rx
    exact ⟨_, rfl, aft _ H loc s (.int _) .refl (List.prefix_refl _)⟩
  · cases e
theorem strOk_append {a b : Str} (ha : PyData.strOk a = true) (hb : PyData.strOk b = true) : PyData.strOk (a ++ b) = true := by
  have e : (a ++ b).cps = a.cps ++ b.cps := rfl
  unfold PyData.strOk at *
  rw [e, Array.all_append, ha, hb]
  rfl
theorem length_append_str (a b : Str) : (a ++ b).length = a.length + b.length := by
  show (a.cps ++ b.cps).size = a.cps.size + b.cps.size
  rw [Array.size_append]
abbrev rAddW (K : KW) : R2 := fun x y H Q => rI0 (fun i j => .int (i + j)) x y H Q ∨ ((∃ i j, x = .str i ∧ y = .str j ∧ i.length + j.length ≤ sizeLine ∧ Q (.str (i ++ j)) H) ∨ (rCatA K x y H Q ∨ rCat x y H Q))
theorem o_add {X : Cx} : OpR X (binaryOp .Add) (rAddW X.KW) := op_add.or (op_add_str.or (op_catA.or op_cat))
theorem l_add : Lift2 K (rAddW K) gAdd := by
  intro H loc M x y v u w M' Q s rx ry e aft
  unfold gAdd at e
  split at e
  · cases e
    cases rx; cases ry
    exact .inl ⟨_, _, rfl, rfl, aft _ H loc s (.int _) .refl (List.prefix_refl _)⟩
  · split at e
    · rename_i hl
      cases e
      cases rx with
      | str a ha ha2 =>
        cases ry with
        | str b hb hb2 => exact .inr (.inl ⟨_, _, rfl, rfl, hl, aft _ H loc s (.str _ (strOk_append ha hb) (by rw [length_append_str]; exact hl)) .refl (List.prefix_refl _)⟩)
    · cases e
  · split at e
    · rename_i hl
      cases e
      cases rx with
      | @tup p xs ws sq rs =>
        cases ry with
        | @tup q ys zs sq' rs' =>
          refine .inr (.inr (.inl ⟨_, _, _, _, rfl, rfl, sq, sq', by rw [rs.length, rs'.length]; exact hl, fun z => ?_, fun z z' => ?_, fun z z' r hr => ?_⟩))
          · subst z
            cases rs
            exact aft _ H loc s (.tup sq' rs') .refl (List.prefix_refl _)
          · subst z'
            cases rs'
            rw [List.append_nil] at aft
            exact aft _ H loc s (.tup sq rs) .refl (List.prefix_refl _)
          · exact aft_tup s (rs.append rs') hr aft
    · cases e
  · split at e
    · rename_i hx hy
      split at e
      · rename_i hl
        cases e
        cases rx with
        | ref ha =>
          cases ry with
          | ref hb =>
            obtain ⟨us, h1, h2⟩ := s.ok _ _ _ ha hx
            obtain ⟨zs, h3, h4⟩ := s.ok _ _ _ hb hy
            exact .inr (.inr (.inr ⟨_, _, _, _, rfl, rfl, h1, h3, by rw [h2.length, h4.length]; exact hl, fun r hr => aft_lst s (h2.append h4) hr aft⟩))
      · cases e
    · cases e
  · cases e

/-! ### == -/
theorem mapO_get {α β : Type} {f : α → Option β} : ∀ {as : List α} {bs : List β}, mapO f as = some bs → Paired (fun a b => f a = some b) as bs
  | [], bs, h => by cases h; exact .nil
  | a :: as, bs, h => by
    rw [mapO] at h
    split at h
    · rename_i b bs' h1 h2
      cases h
      exact .cons h1 (mapO_get h2)
    · cases h
theorem toD_ok {H : Hp} {loc : List Addr} {M : Mem} (s : Store K H loc M) : ∀ (k : Nat) (v : V) (w : W) (d : PyData), Rd K H loc v w → toD M k w = some d → Dp K H v d ∧ d.canLay0 = true ∧ d.depth ≤ k
  | 0, _, _, _, _, h => by cases h
  | k + 1, v, w, d, r, h => by
    have all : ∀ (ws : List W) (vs : List V) (ds : List PyData), Rds K H loc vs ws → Paired (fun a b => toD M k a = some b) ws ds → DpAll K H vs ds ∧ PyData.canLayAll0 ds = true ∧ PyData.depthAll ds ≤ k := by
      intro ws
      induction ws with
      | nil =>
        intro vs ds r1 r2
        cases r1; cases r2
        exact ⟨.nil, rfl, Nat.zero_le _⟩
      | cons w ws ih =>
        intro vs ds r1 r2
        cases r1 with
        | cons a b =>
          cases r2 with
          | cons c d =>
            obtain ⟨g1, g2, g3⟩ := toD_ok s k _ _ _ a c
            obtain ⟨g4, g5, g6⟩ := ih _ _ b d
            refine ⟨.cons g1 g4, by rw [PyData.canLayAll0, g2, g5]; rfl, ?_⟩
            rw [PyData.depthAll]
            exact Nat.max_le.mpr ⟨g3, g6⟩
    cases r with
    | non => cases h; exact ⟨.non, by simp [PyData.canLay0], by simp [PyData.depth]⟩
    | bl b => cases h; exact ⟨.bl b, by simp [PyData.canLay0], by simp [PyData.depth]⟩
    | int i => cases h; exact ⟨.int i, by simp [PyData.canLay0], by simp [PyData.depth]⟩
    | str x hx => cases h; exact ⟨.str x, by simp [PyData.canLay0, hx], by simp [PyData.depth]⟩
    | @tup a xs ws sq rs =>
      rw [toD] at h
      obtain ⟨ds, h1, rfl⟩ := Option.map_eq_some_iff.mp h
      obtain ⟨g1, g2, g3⟩ := all ws xs ds rs (mapO_get h1)
      exact ⟨.tup sq g1, by rw [PyData.canLay0]; exact g2, by rw [PyData.depth]; omega⟩
    | @ref a n hn =>
      rw [toD] at h
      split at h
      · rename_i ws hw
        obtain ⟨ds, h1, rfl⟩ := Option.map_eq_some_iff.mp h
        obtain ⟨xs, q1, q2⟩ := s.ok _ _ _ hn hw
        obtain ⟨g1, g2, g3⟩ := all ws xs ds q2 (mapO_get h1)
        exact ⟨.lst (SqL.of q1) g1, by rw [PyData.canLay0]; exact g2, by rw [PyData.depth]; omega⟩
      · rename_i ws hw
        obtain ⟨ds, h1, rfl⟩ := Option.map_eq_some_iff.mp h
        obtain ⟨xs, q1, q2⟩ := s.ok _ _ _ hn hw
        obtain ⟨g1, g2, g3⟩ := all ws xs ds q2 (mapO_get h1)
        exact ⟨.lst q1.sq g1, by rw [PyData.canLay0]; exact g2, by rw [PyData.depth]; omega⟩
      · cases h
theorem eqW_ok {H : Hp} {loc : List Addr} {M : Mem} {v u : V} {x y : W} {b : Bool} (s : Store K H loc M) (rx : Rd K H loc v x) (ry : Rd K H loc u y) (h : eqW M x y = some b) :
    ∃ d e, Dp K H v d ∧ Dp K H u e ∧ SeqAt.shaped d = true ∧ SeqAt.shaped e = true ∧ PyData.eqv d e = b := by
  unfold eqW at h
  split at h
  · rename_i d e hd he
    cases h
    obtain ⟨g1, g2, g3⟩ := toD_ok s 64 v x d rx hd
    obtain ⟨g4, g5, g6⟩ := toD_ok s 64 u y e ry he
    exact ⟨d, e, g1, g4, by rw [SeqAt.shaped, g2, decide_eq_true g3]; rfl, by rw [SeqAt.shaped, g5, decide_eq_true g6]; rfl, rfl⟩
  · cases h
theorem l_eq : Lift2 K (rEqD K) gEq := by
  intro H loc M x y v u w M' Q s rx ry e aft
  obtain ⟨b, hb, e⟩ := Option.map_eq_some_iff.mp e
  cases e
  obtain ⟨d, d2, h1, h2, h3, h4, rfl⟩ := eqW_ok s rx ry hb
  exact ⟨d, d2, h1, h2, h3, h4, aft _ H loc s (.bl _) .refl (List.prefix_refl _)⟩
theorem l_ne : Lift2 K (rNeD K) gNe := by
  intro H loc M x y v u w M' Q s rx ry e aft
  obtain ⟨b, hb, e⟩ := Option.map_eq_some_iff.mp e
  cases e
  obtain ⟨d, d2, h1, h2, h3, h4, rfl⟩ := eqW_ok s rx ry hb
  exact ⟨d, d2, h1, h2, h3, h4, aft _ H loc s (.bl _) .refl (List.prefix_refl _)⟩

/-! ### items and slices -/
theorem ixW_eq (n : Nat) (i : Int) : ixW n i = ixN n i := rfl
theorem at_some {vs : List V} {ws : List W} {H : Hp} {loc : List Addr} {i : Int} {w : W} (r : Rds K H loc vs ws) (h : ((ixW ws.length i).bind fun j => ws[j]?) = some w) : ∃ v, atI vs i = some v ∧ Rd K H loc v w := by
  obtain ⟨j, h1, h2⟩ := bind_some h
  obtain ⟨v, g1, g2⟩ := r.get h2
  exact ⟨v, by unfold atI; rw [r.length, ← ixW_eq, h1]; exact g1, g2⟩
theorem l_ix : Lift2 K (rIx K) gIx := by
  intro H loc M x y v u w M' Q s rx ry e aft
  unfold gIx at e
  split at e
  · obtain ⟨z, hz, e⟩ := Option.map_eq_some_iff.mp e
    cases e
    cases ry
    cases rx with
    | @tup a xs ws sq rs =>
      obtain ⟨z', h1, h2⟩ := at_some rs hz
      exact .inr (.inl ⟨a, xs, _, z', rfl, rfl, sq, h1, aft _ H loc s h2 .refl (List.prefix_refl _)⟩)
  · cases ry
    cases rx with
    | @ref a n hn =>
      split at e
      · rename_i ws hw
        obtain ⟨z, hz, e⟩ := Option.map_eq_some_iff.mp e
        cases e
        obtain ⟨xs, q1, q2⟩ := s.ok _ _ _ hn hw
        obtain ⟨z', h1, h2⟩ := at_some q2 hz
        exact .inl ⟨a, xs, _, z', rfl, rfl, SqL.of q1, h1, aft _ H loc s h2 .refl (List.prefix_refl _)⟩
      · rename_i ws hw
        obtain ⟨z, hz, e⟩ := Option.map_eq_some_iff.mp e
        cases e
        obtain ⟨xs, q1, q2⟩ := s.ok _ _ _ hn hw
        obtain ⟨z', h1, h2⟩ := at_some q2 hz
        exact .inl ⟨a, xs, _, z', rfl, rfl, q1.sq, h1, aft _ H loc s h2 .refl (List.prefix_refl _)⟩
      · cases e
  · cases e
theorem sIx_eq (n d : Nat) (o : Option Int) : sIx n d o = HT.sIx n d o := by
  cases o <;> rfl
theorem Rds.cut {H : Hp} {loc : List Addr} {vs : List V} {ws : List W} (r : Rds K H loc vs ws) (lo hi : Option Int) : Rds K H loc (cutV vs lo hi) (cutW ws lo hi) := by
  unfold cutV cutW
  rw [← r.length, sIx_eq, sIx_eq]
  exact (r.drop _).take _
theorem cut_whole {α : Type} {xs : List α} {lo hi : Option Int} (h : sIx xs.length 0 lo = 0 ∧ sIx xs.length xs.length hi = xs.length) : cutW xs lo hi = xs := by
  unfold cutW
  rw [h.1, h.2, List.drop_zero, Nat.sub_zero, List.take_length]
abbrev rSlW (K : KW) : V → Option Int → Option Int → Hp → VK → Prop := fun x lo hi H Q => rSlA K x lo hi H Q ∨ rSlL K x lo hi H Q
theorem o_sl {X : Cx} : SlR X (rSlW X.KW) := sl_tupA.or sl_list
theorem l_sl : LiftS K (rSlW K) gSl := by
  intro H loc M x v lo hi w M' Q s rx e aft
  unfold gSl at e
  split at e
  · cases e
    cases rx with
    | @tup a xs ws sq rs =>
      refine .inl ⟨a, xs, rfl, sq, fun hw => ?_, fun _ p hp => aft_tup s (rs.cut lo hi) hp aft⟩
      rw [rs.length, ← sIx_eq, ← sIx_eq] at hw
      rw [cut_whole hw] at aft
      exact aft _ H loc s (.tup sq rs) .refl (List.prefix_refl _)
  · cases rx with
    | @ref a n hn =>
      split at e
      · rename_i ws hw
        cases e
        obtain ⟨xs, q1, q2⟩ := s.ok _ _ _ hn hw
        exact .inr ⟨a, xs, rfl, SqL.of q1, fun p hp => aft_lst s (q2.cut lo hi) hp aft⟩
      · cases e
  · cases e

/-! ### calls -/
theorem n_len : LiftN K (fun xs H Q => ∃ p ys, xs = [.ref p] ∧ (SqL K H p ys ∨ SqT K H p ys) ∧ Q (.int ys.length) H) pLen := by
  intro H loc M ws vs w M' Q s r e aft
  unfold pLen at e
  split at e
  · cases e
    match vs, r with
    | [_], .cons (.tup (a := a) (xs := xs) sq rs) .nil =>
      refine ⟨a, xs, rfl, .inr sq, ?_⟩
      rw [rs.length]
      exact aft _ H loc s (.int _) .refl (List.prefix_refl _)
  · match vs, r with
    | [_], .cons (.ref (a := a) hn) .nil =>
      split at e
      · rename_i zs hz
        cases e
        obtain ⟨xs, q1, q2⟩ := s.ok _ _ _ hn hz
        refine ⟨a, xs, rfl, .inl (SqL.of q1), ?_⟩
        rw [q2.length]
        exact aft _ H loc s (.int _) .refl (List.prefix_refl _)
      · rename_i zs hz
        cases e
        obtain ⟨xs, q1, q2⟩ := s.ok _ _ _ hn hz
        refine ⟨a, xs, rfl, .inl q1.sq, ?_⟩
        rw [q2.length]
        exact aft _ H loc s (.int _) .refl (List.prefix_refl _)
      · cases e
  · cases e
theorem n_min : LiftN K (fun xs H Q => ∃ i j, xs = [.int i, .int j] ∧ Q (.int (if j < i then j else i)) H) pMin := by
  intro H loc M ws vs w M' Q s r e aft
  unfold pMin at e
  split at e
  · cases e
    match vs, r with
    | [_, _], .cons (.int _) (.cons (.int _) .nil) => exact ⟨_, _, rfl, aft _ H loc s (.int _) .refl (List.prefix_refl _)⟩
  · cases e
theorem n_max : LiftN K (fun xs H Q => ∃ i j, xs = [.int i, .int j] ∧ Q (.int (if j > i then j else i)) H) pMax := by
  intro H loc M ws vs w M' Q s r e aft
  unfold pMax at e
  split at e
  · cases e
    match vs, r with
    | [_, _], .cons (.int _) (.cons (.int _) .nil) => exact ⟨_, _, rfl, aft _ H loc s (.int _) .refl (List.prefix_refl _)⟩
  · cases e
theorem n_abs : LiftN K (fun xs H Q => ∃ i, xs = [.int i] ∧ Q (.int (if i < 0 then -i else i)) H) pAbs := by
  intro H loc M ws vs w M' Q s r e aft
  unfold pAbs at e
  split at e
  · cases e
    match vs, r with
    | [_], .cons (.int _) .nil => exact ⟨_, rfl, aft _ H loc s (.int _) .refl (List.prefix_refl _)⟩
  · cases e
theorem n_list : LiftN K (fun xs H Q => ∃ p ys, xs = [.ref p] ∧ (SqL K H p ys ∨ SqT K H p ys) ∧ ∀ l, H l = none → Q (.ref l) (upd H l (.lst ys))) pList := by
  intro H loc M ws vs w M' Q s r e aft
  unfold pList at e
  split at e
  · cases e
    match vs, r with
    | [_], .cons (.tup (a := a) (xs := xs) sq rs) .nil => exact ⟨a, xs, rfl, .inr sq, fun l hl => aft_lst s rs hl aft⟩
  · match vs, r with
    | [_], .cons (.ref (a := a) hn) .nil =>
      split at e
      · rename_i zs hz
        cases e
        obtain ⟨xs, q1, q2⟩ := s.ok _ _ _ hn hz
        exact ⟨a, xs, rfl, .inl (SqL.of q1), fun l hl => aft_lst s q2 hl aft⟩
      · rename_i zs hz
        cases e
        obtain ⟨xs, q1, q2⟩ := s.ok _ _ _ hn hz
        exact ⟨a, xs, rfl, .inl q1.sq, fun l hl => aft_lst s q2 hl aft⟩
      · cases e
  · cases e
theorem n_tuple : LiftN K (fun xs H Q => ∃ p ys, xs = [.ref p] ∧ ((SqL K H p ys ∧ ∀ l, H l = none → Q (.ref l) (upd H l (.tup ys))) ∨ (SqT K H p ys ∧ Q (.ref p) H))) pTuple := by
  intro H loc M ws vs w M' Q s r e aft
  unfold pTuple at e
  split at e
  · cases e
    match vs, r with
    | [_], .cons (.tup (a := a) (xs := xs) sq rs) .nil => exact ⟨a, xs, rfl, .inr ⟨sq, aft _ H loc s (.tup sq rs) .refl (List.prefix_refl _)⟩⟩
  · match vs, r with
    | [_], .cons (.ref (a := a) hn) .nil =>
      split at e
      · rename_i zs hz
        cases e
        obtain ⟨xs, q1, q2⟩ := s.ok _ _ _ hn hz
        exact ⟨a, xs, rfl, .inl ⟨SqL.of q1, fun l hl => aft_tup s q2 hl aft⟩⟩
      · rename_i zs hz
        cases e
        obtain ⟨xs, q1, q2⟩ := s.ok _ _ _ hn hz
        exact ⟨a, xs, rfl, .inl ⟨q1.sq, fun l hl => aft_tup s q2 hl aft⟩⟩
      · cases e
  · cases e
/-- a list is changed: what is wanted behind it -/
theorem aft_put {H : Hp} {loc : List Addr} {M : Mem} {a : Addr} {n : Nat} {ws us : List W} {xs ys : List V} {w : W} {v : V} {Q : VK} (s : Store K H loc M) (hn : loc[n]? = some a) (hw : M[n]? = some (.lst ws)) (hx : H a = some (.lst xs))
    (ry : Rds K H loc ys us) (rv : Rd K H loc v w) (aft : Aft K H loc w (M.set n (.lst us)) Q) : Q v (upd H a (.lst ys)) := by
  have ex : Ext K H (upd H a (.lst ys)) := .upd hx trivial
  exact aft _ _ loc (s.put hn hw rfl rfl ⟨ys, upd_same, ry.mono ex (List.prefix_refl _)⟩) (rv.mono ex (List.prefix_refl _)) ex (List.prefix_refl _)
theorem m_append : LiftN K (fun vs H Q => ∃ v us, vs = v :: us ∧ rAppend v us H Q) mAppend := by
  intro H loc M ws vs w M' Q s r e aft
  unfold mAppend at e
  split at e
  · match vs, r with
    | [_, v], .cons (.ref (a := a) hn) (.cons rv .nil) =>
      split at e
      · rename_i zs hz
        split at e
        · rename_i hl
          cases e
          obtain ⟨xs, q1, q2⟩ := s.ok _ _ _ hn hz
          exact ⟨_, _, rfl, a, xs, v, rfl, rfl, q1, by rw [q2.length]; exact hl, aft_put s hn hz q1 (q2.append (.cons rv .nil)) .non aft⟩
        · cases e
      · cases e
  · cases e
theorem m_pop : LiftN K (fun vs H Q => ∃ v us, vs = v :: us ∧ rPop v us H Q) mPop := by
  intro H loc M ws vs w M' Q s r e aft
  unfold mPop at e
  split at e
  · match vs, r with
    | [_], .cons (.ref (a := a) hn) .nil =>
      split at e
      · rename_i zs hz
        obtain ⟨z, hz1, e⟩ := Option.map_eq_some_iff.mp e
        cases e
        obtain ⟨xs, q1, q2⟩ := s.ok _ _ _ hn hz
        obtain ⟨v, g1, g2⟩ := q2.get hz1
        rw [← q2.length] at g1
        exact ⟨_, _, rfl, a, xs, v, rfl, rfl, q1, g1, aft_put s hn hz q1 q2.dropLast g2 aft⟩
      · cases e
  · cases e
theorem m_popAt : LiftN K (fun vs H Q => ∃ v us, vs = v :: us ∧ rPopAt v us H Q) mPopAt := by
  intro H loc M ws vs w M' Q s r e aft
  unfold mPopAt at e
  split at e
  · match vs, r with
    | [_, _], .cons (.ref (a := a) hn) (.cons (.int i) .nil) =>
      split at e
      · rename_i zs hz
        split at e
        · rename_i h62
          obtain ⟨j, hj, e⟩ := bind_some e
          obtain ⟨z, hz1, e⟩ := Option.map_eq_some_iff.mp e
          cases e
          obtain ⟨xs, q1, q2⟩ := s.ok _ _ _ hn hz
          obtain ⟨v, g1, g2⟩ := q2.get hz1
          obtain ⟨b1, b2⟩ := small62_iff h62
          rw [ixW_eq] at hj
          obtain ⟨s1, _, _, _⟩ := ixN_seq hj
          exact ⟨_, _, rfl, a, xs, i, j, v, rfl, rfl, q1, by omega, by omega, by rw [q2.length]; exact s1, g1, aft_put s hn hz q1 (q2.erase j) g2 aft⟩
        · cases e
      · cases e
  · cases e
theorem p_lst : LiftP K rSetL putL := by
  intro H loc M x y z o i v M' Q s rx ry rz e h
  unfold putL at e
  split at e
  · cases ry
    cases rx with
    | @ref a n hn =>
      split at e
      · rename_i ws hw
        obtain ⟨j, hj, rfl⟩ := Option.map_eq_some_iff.mp e
        obtain ⟨xs, q1, q2⟩ := s.ok _ _ _ hn hw
        rw [ixW_eq, ← q2.length] at hj
        refine ⟨a, xs, _, j, rfl, rfl, q1, hj, ?_⟩
        have ex : Ext K H (upd H a (.lst (xs.set j v))) := .upd q1 trivial
        exact h _ loc (s.put hn hw rfl rfl ⟨_, upd_same, (q2.set rz j).mono ex (List.prefix_refl _)⟩) ex (List.prefix_refl _)
      · cases e
  · cases e

/-! ### a def -/
mutual
theorem Rd.closed {H : Hp} {loc : List Addr} : ∀ {v : V} {w : W}, Rd K H loc v w → w.closed loc.length = true
  | _, _, .non => by simp [W.closed]
  | _, _, .bl b => by simp [W.closed]
  | _, _, .int i => by simp [W.closed]
  | _, _, .str x _ _ => by simp [W.closed]
  | _, _, .tup _ r => by rw [W.closed]; exact Rds.closed r
  | _, _, .ref h => by rw [W.closed]; exact decide_eq_true (List.getElem?_eq_some_iff.mp h).1
theorem Rds.closed {H : Hp} {loc : List Addr} : ∀ {vs : List V} {ws : List W}, Rds K H loc vs ws → W.closeds loc.length ws = true
  | _, _, .nil => by simp [W.closeds]
  | _, _, .cons r rs => by rw [W.closeds, Rd.closed r, Rds.closed rs]; rfl
end
mutual
theorem Rd.cutLoc {H : Hp} {loc : List Addr} {k : Nat} : ∀ {v : V} {w : W}, Rd K H loc v w → w.closed k = true → Rd K H (loc.take k) v w
  | _, _, .non, _ => .non
  | _, _, .bl b, _ => .bl b
  | _, _, .int i, _ => .int i
  | _, _, .str x h h2, _ => .str x h h2
  | _, _, .tup h r, c => .tup h (Rds.cutLoc r (by rw [W.closed] at c; exact c))
  | _, _, .ref h, c => .ref (by rw [W.closed] at c; rw [List.getElem?_take, if_pos (of_decide_eq_true c)]; exact h)
theorem Rds.cutLoc {H : Hp} {loc : List Addr} {k : Nat} : ∀ {vs : List V} {ws : List W}, Rds K H loc vs ws → W.closeds k ws = true → Rds K H (loc.take k) vs ws
  | _, _, .nil, _ => .nil
  | _, _, .cons r rs, c => by
    rw [W.closeds, Bool.and_eq_true] at c
    exact .cons (Rd.cutLoc r c.1) (Rds.cutLoc rs c.2)
end
theorem closeds_mem {k : Nat} : ∀ {ws : List W} {w : W}, W.closeds k ws = true → w ∈ ws → w.closed k = true
  | [], _, _, h => by cases h
  | u :: ws, w, c, h => by
    rw [W.closeds, Bool.and_eq_true] at c
    rcases List.mem_cons.mp h with rfl | h
    · exact c.1
    · exact closeds_mem c.2 h
theorem closeds_of {k : Nat} : ∀ {ws : List W}, (∀ w ∈ ws, w.closed k = true) → W.closeds k ws = true
  | [], _ => rfl
  | u :: ws, h => by
    rw [W.closeds, Bool.and_eq_true]
    exact ⟨h u List.mem_cons_self, closeds_of fun w hw => h w (List.mem_cons_of_mem _ hw)⟩
theorem closed_vals {k : Nat} {ws : List (W × W)} (c : (MO.dK ws).closed k = true) : W.closeds k (ws.map (·.2)) = true := by
  rw [MO.closed, List.all_eq_true] at c
  refine closeds_of fun w hw => ?_
  obtain ⟨p, hp, rfl⟩ := List.mem_map.mp hw
  have := c p hp
  rw [Bool.and_eq_true] at this
  exact this.2
theorem closed_both {k : Nat} {ws : List (W × W)} (h1 : W.closeds k (ws.map (·.1)) = true) (h2 : W.closeds k (ws.map (·.2)) = true) : (ws.all fun p => p.1.closed k && p.2.closed k) = true := by
  rw [List.all_eq_true]
  intro p hp
  rw [Bool.and_eq_true]
  exact ⟨closeds_mem h1 (List.mem_map_of_mem hp), closeds_mem h2 (List.mem_map_of_mem hp)⟩
theorem closed_keyW {k : Nat} {kvs : List (Key × V)} {ws : List (W × W)} (h : kvs.map (fun p => keyW p.1) = ws.map (·.1)) : W.closeds k (ws.map (·.1)) = true := by
  rw [← h]
  refine closeds_of fun w hw => ?_
  obtain ⟨p, _, rfl⟩ := List.mem_map.mp hw
  cases p.1 <;> rfl
theorem closed_keys {k : Nat} {m : DM} {ws : List (W × W)} (c : (MO.dT m ws).closed k = true) : W.closeds k (ws.map (·.1)) = true ∧ W.closeds k (ws.map (·.2)) = true := by
  rw [MO.closed, List.all_eq_true] at c
  refine ⟨closeds_of fun w hw => ?_, closeds_of fun w hw => ?_⟩ <;> obtain ⟨p, hp, rfl⟩ := List.mem_map.mp hw <;> have := c p hp <;> rw [Bool.and_eq_true] at this
  · exact this.1
  · exact this.2
theorem MOk.closed {H : Hp} {loc : List Addr} {a : Addr} {mo : MO} (h : MOk K H loc a mo) : mo.closed loc.length = true := by
  cases mo with
  | lst ws => obtain ⟨xs, _, r⟩ := h; exact r.closed
  | ro ws => obtain ⟨xs, _, r⟩ := h; exact r.closed
  | dT m ws =>
    cases m with
    | nest => obtain ⟨es, h1, h2⟩ := h; exact closed_both h2.ks.closed h2.vs.closed
    | lockF => obtain ⟨o, es, h1, h2⟩ := h; exact closed_both (closed_keyW h2.keys) h2.vs.closed
    | lockN => obtain ⟨o, es, h1, h2⟩ := h; exact closed_both h2.ks.closed h2.vs.closed
  | dK ws =>
    obtain ⟨kvs, _, h2, _, r⟩ := h
    rw [MO.closed, List.all_eq_true]
    intro p hp
    rw [Bool.and_eq_true]
    refine ⟨?_, ?_⟩
    · have : p.1 ∈ ws.map (·.1) := List.mem_map_of_mem hp
      rw [← h2] at this
      obtain ⟨q, _, e⟩ := List.mem_map.mp this
      rw [← e]
      cases q.1 <;> rfl
    · exact closeds_mem r.closed (List.mem_map_of_mem hp)
theorem MOk.cutLoc {H : Hp} {loc : List Addr} {a : Addr} {mo : MO} {k : Nat} (h : MOk K H loc a mo) (c : mo.closed k = true) : MOk K H (loc.take k) a mo := by
  cases mo with
  | lst ws => obtain ⟨xs, h1, r⟩ := h; exact ⟨xs, h1, r.cutLoc c⟩
  | ro ws => obtain ⟨xs, h1, r⟩ := h; exact ⟨xs, h1, r.cutLoc c⟩
  | dT m ws =>
    obtain ⟨c1, c2⟩ := closed_keys c
    cases m with
    | nest => obtain ⟨es, h1, h2⟩ := h; exact ⟨es, h1, h2.keys, h2.dep, h2.ks.cutLoc c1, h2.vs.cutLoc c2⟩
    | lockF => obtain ⟨o, es, h1, h2⟩ := h; exact ⟨o, es, h1, h2.keys, h2.ok, h2.vs.cutLoc c2⟩
    | lockN => obtain ⟨o, es, h1, h2⟩ := h; exact ⟨o, es, h1, h2.keys, h2.dep, h2.ks.cutLoc c1, h2.vs.cutLoc c2⟩
  | dK ws => obtain ⟨kvs, h1, h2, h3, r⟩ := h; exact ⟨kvs, h1, h2, h3, r.cutLoc (closed_vals c)⟩
theorem Store.closed {H : Hp} {loc : List Addr} {M : Mem} (s : Store K H loc M) : Closed M := fun mo hm => by
  obtain ⟨i, hi⟩ := List.getElem?_of_mem hm
  obtain ⟨a, h1, h2⟩ := s.at hi
  rw [← s.len]
  exact h2.closed
theorem Rds.each {H : Hp} {loc : List Addr} {vs : List V} {ws : List W} (r : Rds K H loc vs ws) : ∀ x ∈ ws, x.closed loc.length = true := fun x hx => by
  obtain ⟨i, hi⟩ := List.getElem?_of_mem hx
  obtain ⟨v, _, h⟩ := r.get hi
  exact h.closed
/-- what was laid last is forgotten -/
theorem Store.cut {H : Hp} {loc : List Addr} {M g : Mem} (s : Store K H loc (M ++ g)) (c : Closed M) : Store K H (loc.take M.length) M := by
  have hl := s.len
  rw [List.length_append] at hl
  refine ⟨by rw [List.length_take]; omega, fun i a mo h1 h2 => ?_, fun i j a m n h1 h2 h3 h4 => ?_⟩
  · have hi : i < M.length := (List.getElem?_eq_some_iff.mp h2).1
    rw [List.getElem?_take, if_pos hi] at h1
    refine (s.ok i a mo h1 ?_).cutLoc (c mo (List.mem_of_getElem? h2))
    rw [List.getElem?_append_left hi]; exact h2
  · have hi : i < M.length := (List.getElem?_eq_some_iff.mp h3).1
    have hj : j < M.length := (List.getElem?_eq_some_iff.mp h4).1
    rw [List.getElem?_take, if_pos hi] at h1
    rw [List.getElem?_take, if_pos hj] at h2
    exact s.apart i j a m n h1 h2 (by rw [List.getElem?_append_left hi]; exact h3) (by rw [List.getElem?_append_left hj]; exact h4)
/-- the addresses by other ids -/
def renLoc (loc : List Addr) (r : Nat → Nat) (n : Nat) : List Addr := (List.range n).map fun i => loc.getD (r i) 0
theorem renLoc_get {loc : List Addr} {r : Nat → Nat} {n i : Nat} {a : Addr} (hi : i < n) (h : loc[r i]? = some a) : (renLoc loc r n)[i]? = some a := by
  unfold renLoc
  rw [List.getElem?_map, List.getElem?_range hi]
  show some (loc.getD (r i) 0) = some _
  rw [List.getD_eq_getElem?_getD, h]; rfl
mutual
theorem Rd.unren {H : Hp} {loc : List Addr} {r : Nat → Nat} {n : Nat} (look : ∀ i, i < n → ∃ a, loc[r i]? = some a) : ∀ {v : V} {w : W}, Rd K H loc v (w.ren r) → w.closed n = true → Rd K H (renLoc loc r n) v w
  | _, .non, h, _ => by rw [W.ren] at h; cases h; exact .non
  | _, .bl b, h, _ => by rw [W.ren] at h; cases h; exact .bl b
  | _, .int i, h, _ => by rw [W.ren] at h; cases h; exact .int i
  | _, .str x, h, _ => by rw [W.ren] at h; cases h with | str _ h1 h2 => exact .str x h1 h2
  | _, .tup ws, h, c => by
    rw [W.ren] at h
    rw [W.closed] at c
    cases h with
    | tup sq rs => exact .tup sq (Rds.unren look rs c)
  | _, .ref k, h, c => by
    rw [W.ren] at h
    rw [W.closed] at c
    cases h with
    | ref ha => exact .ref (renLoc_get (of_decide_eq_true c) ha)
theorem Rds.unren {H : Hp} {loc : List Addr} {r : Nat → Nat} {n : Nat} (look : ∀ i, i < n → ∃ a, loc[r i]? = some a) : ∀ {vs : List V} {ws : List W}, Rds K H loc vs (W.rens r ws) → W.closeds n ws = true → Rds K H (renLoc loc r n) vs ws
  | _, [], h, _ => by rw [W.rens] at h; cases h; exact .nil
  | _, w :: ws, h, c => by
    rw [W.rens] at h
    rw [W.closeds, Bool.and_eq_true] at c
    cases h with
    | cons a b => exact .cons (Rd.unren look a c.1) (Rds.unren look b c.2)
end
theorem isMut_ren (r : Nat → Nat) (mo : MO) : isMut (mo.ren r) = isMut mo := by
  cases mo with
  | dT m _ => cases m <;> rfl
  | _ => rfl
theorem isOwn_ren (r : Nat → Nat) (mo : MO) : isOwn (mo.ren r) = isOwn mo := by cases mo <;> rfl
mutual
theorem keyN_ren (r : Nat → Nat) : ∀ w : W, keyN (w.ren r) = keyN w
  | .non => rfl
  | .bl _ => rfl
  | .int _ => rfl
  | .str _ => rfl
  | .tup ws => by rw [W.ren, keyN, keyN, keyNs_ren r ws]
  | .ref _ => rfl
theorem keyNs_ren (r : Nat → Nat) : ∀ ws : List W, keyNs (W.rens r ws) = keyNs ws
  | [] => rfl
  | w :: ws => by rw [W.rens, keyNs, keyNs, keyN_ren r w, keyNs_ren r ws]
end
theorem rens_map {r : Nat → Nat} : ∀ ws : List W, W.rens r ws = ws.map (W.ren r)
  | [] => rfl
  | w :: ws => by rw [W.rens, rens_map ws]; rfl
theorem key_ren {r : Nat → Nat} {w : W} {k : Key} (h : keyW k = w.ren r) : keyW k = w := by
  cases k <;> cases w <;> simp [keyW, W.ren] at h ⊢ <;> exact h
theorem keys_ren {r : Nat → Nat} : ∀ {kvs : List (Key × V)} {ws : List (W × W)}, kvs.map (fun p => keyW p.1) = (ws.map fun p => (p.1.ren r, p.2.ren r)).map (·.1) → kvs.map (fun p => keyW p.1) = ws.map (·.1)
  | [], [], _ => rfl
  | [], _ :: _, h => by cases h
  | _ :: _, [], h => by cases h
  | p :: kvs, q :: ws, h => by
    simp only [List.map_cons, List.cons.injEq] at h ⊢
    exact ⟨key_ren h.1, keys_ren h.2⟩
theorem MOk.unren {H : Hp} {loc : List Addr} {r : Nat → Nat} {n : Nat} (look : ∀ i, i < n → ∃ a, loc[r i]? = some a) {a : Addr} {mo : MO} (h : MOk K H loc a (mo.ren r)) (c : mo.closed n = true) : MOk K H (renLoc loc r n) a mo := by
  cases mo with
  | lst ws => obtain ⟨xs, h1, h2⟩ := h; exact ⟨xs, h1, Rds.unren look h2 c⟩
  | ro ws => obtain ⟨xs, h1, h2⟩ := h; exact ⟨xs, h1, Rds.unren look h2 c⟩
  | dT m ws =>
    obtain ⟨c1, c2⟩ := closed_keys c
    have k1 : ∀ {es : NE}, NestOk K H loc es (ws.map fun p => (p.1.ren r, p.2.ren r)) → NestOk K H (renLoc loc r n) es ws := fun {es} q => by
      have q1 := q.ks
      have q2 := q.vs
      have q3 := q.keys
      rw [List.map_map] at q1 q2 q3
      refine ⟨q3.trans (List.map_congr_left fun p _ => keyN_ren r p.1), q.dep, Rds.unren look ?_ c1, Rds.unren look ?_ c2⟩
      · rw [rens_map, List.map_map]; exact q1
      · rw [rens_map, List.map_map]; exact q2
    cases m with
    | nest => obtain ⟨es, h1, h2⟩ := h; exact ⟨es, h1, k1 h2⟩
    | lockF =>
      obtain ⟨o, kvs, h1, h2⟩ := h
      refine ⟨o, kvs, h1, keys_ren h2.keys, h2.ok, Rds.unren look ?_ c2⟩
      have q2 := h2.vs
      rw [List.map_map] at q2
      rw [rens_map, List.map_map]; exact q2
    | lockN => obtain ⟨o, es, h1, h2⟩ := h; exact ⟨o, es, h1, k1 h2⟩
  | dK ws =>
    obtain ⟨kvs, h1, h2, h3, h4⟩ := h
    refine ⟨kvs, h1, ?_, h3, Rds.unren look ?_ (closed_vals c)⟩
    · exact keys_ren h2
    · rw [rens_map]
      rw [List.map_map] at h4 ⊢
      exact h4
theorem Store.ren {H : Hp} {loc : List Addr} {M M2 : Mem} {r : Nat → Nat} (s : Store K H loc M2) (c : Closed M) (hr : ∀ (i : Nat) (mo : MO), M[i]? = some mo → M2[r i]? = some (mo.ren r)) (inj : ∀ i j, i < M.length → j < M.length → r i = r j → i = j) :
    Store K H (renLoc loc r M.length) M := by
  have look : ∀ i, i < M.length → ∃ a, loc[r i]? = some a := fun i hi => by
    obtain ⟨a, ha, _⟩ := s.at (hr i _ (List.getElem?_eq_getElem hi))
    exact ⟨a, ha⟩
  refine ⟨by simp [renLoc], fun i a mo h1 h2 => ?_, fun i j a m n h1 h2 h3 h4 m1 m2 => ?_⟩
  · have hi := (List.getElem?_eq_some_iff.mp h2).1
    obtain ⟨b, hb⟩ := look i hi
    rw [renLoc_get hi hb] at h1
    cases h1
    exact MOk.unren look (s.ok _ _ _ hb (hr i mo h2)) (c mo (List.mem_of_getElem? h2))
  · have hi := (List.getElem?_eq_some_iff.mp h3).1
    have hj := (List.getElem?_eq_some_iff.mp h4).1
    obtain ⟨b, hb⟩ := look i hi
    obtain ⟨b', hb'⟩ := look j hj
    rw [renLoc_get hi hb] at h1
    rw [renLoc_get hj hb'] at h2
    cases h1; cases h2
    exact inj i j hi hj (s.apart _ _ _ _ _ hb hb' (hr i m h3) (hr j n h4) (by rw [isOwn_ren]; exact m1) (by rw [isOwn_ren]; exact m2))
end
end BF

set_option Elab.async false
set_option linter.all false
set_option autoImplicit false
set_option maxRecDepth 100000
/-! The rule for a def; three names at once; the law's own promise. -/
namespace BF
open PySem PySem.Spec
open PyProof.Rows L2

theorem hu64 {k : Nat} {A : Around} (hr : Room k A) : A.units + 64 < cLine := by have := hr.un; omega

section
variable {X : Cx} {a b c : Expr} {ca cb cc : CE} {pos : Pos}
/-- a, b, c = x, y, z of plain local names -/
theorem s_par3 (i j k : Nat) {x y z : Str} {px py pz pt : Pos} {kt k2 pt2} (hc : X.calm = true) (hN : X.N.Nodup) (ha : EA X [a, b, c] [ca, cb, cc]) (hi : X.N[i]? = some x := by rfl) (hj : X.N[j]? = some y := by rfl) (hk : X.N[k]? = some z := by rfl)
    (hx : X.env.scope.names.lookup x = some .local := by rfl) (hy : X.env.scope.names.lookup y = some .local := by rfl) (hz : X.env.scope.names.lookup z = some .local := by rfl) (hij : i ≠ j := by decide) (hik : i ≠ k := by decide) (hjk : j ≠ k := by decide)
    (hw : swappedStores [.Tuple [.Name x px, .Name y py, .Name z pz] kt pt] (.Tuple [a, b, c] k2 pt2) X.env = pure (some [x, y, z]) := by rfl)
    (hs : swapsWithSole [.Tuple [.Name x px, .Name y py, .Name z pz] kt pt] (.Tuple [a, b, c] k2 pt2) pos.line X.env = pure false := by rfl) :
    ES X (.Assign [.Tuple [.Name x px, .Name y py, .Name z pz] kt pt] (.Tuple [a, b, c] k2 pt2) pos) (sPar [i, j, k] [ca, cb, cc]) := by
  refine ⟨fun pins s σV H D I h => ?_⟩
  obtain ⟨loc, σ, M, o, rel, e, aft⟩ := h
  obtain ⟨p, hp, e⟩ := bind_some e
  have hl : p.1.length = 3 := eArgs_length hp
  obtain ⟨p1, M1⟩ := p
  match p1, hl with
  | [w1, w2, w3], _ =>
  cases e
  rw [exec_Assign_arm]
  refine wpAny_bind (wpAny_standAt ?_)
  rw [hs]
  refine wpAny_bind (wpAny_pure ?_)
  rw [if_neg (by decide)]
  refine wpAny_bind (Tuple_ ?_)
  refine thn (ha.run _ pins s σV H (fun vs H1 => ∃ v1 v2 v3, vs = [v1, v2, v3] ∧ ∀ σV', σV' = ((σV.set i (some v1)).set j (some v2)).set k (some v3) → D.nx σV' H1) I ?_) fun us s1 hus => ?_
  · refine runA rel hp fun vs H1 loc1 rel1 rd1 ex1 l1 => ?_
    match vs, rd1 with
    | [v1, v2, v3], .cons r1 (.cons r2 (.cons r3 .nil)) =>
      exact ⟨v1, v2, v3, rfl, fun σV' e' => by
        subst e'
        exact aft _ H1 loc1 (((rel1.set r1 i).set r2 j).set r3 k) ex1 l1⟩
  · obtain ⟨vs, H1, I1, r1, v1, v2, v3, e1, q1⟩ := hus
    subst e1
    obtain ⟨u1, u2, u3, e2, g1, g2, g3⟩ : ∃ u1 u2 u3, us = [u1, u2, u3] ∧ RelV v1 u1 ∧ RelV v2 u2 ∧ RelV v3 u3 := by
      cases r1 with
      | cons a1 t1 =>
        cases t1 with
        | cons a2 t2 =>
          cases t2 with
          | cons a3 t3 =>
            cases t3
            exact ⟨_, _, _, rfl, a1, a2, a3⟩
    subst e2
    refine wpAny_newObj_type ?_ (by show 3 ≤ sizeLine; decide)
    have I2 : Inv X pins σV H1 { s1 with heap := s1.heap.push { cls := .type "tuple", data := .seq [u1, u2, u3].toArray } } :=
      I1.kept (t' := s1.toks) fun b o e => Heap.get?_push_of_some _ e
    rw [hw]
    refine wpAny_bind (wpAny_pure ?_)
    show wpAny (model X.prog X.w) X.A (do
      rule "assign.swapped-stores"
      let items ← unpackItems (.ref s1.heap.objs.size) 3 none
      assignInOrder [fun v => bindName X.env z v, fun v => bindName X.env y v, fun v => bindName X.env x v] items.reverse
      pure Flow.next) _ _ _
    refine wpAny_bind (wpAny_rule (wpAny_bind (unpackItems_tuple (items := #[u1, u2, u3]) (I.ok.hd hc) (IsTup.new s1.heap _) fun h' hx' => ?_)))
    have I3 := I2.kept (h' := h') (t' := s1.toks) fun b o e => hx' b o (Nat.ne_of_lt (Heap.lt_size e)) e
    show wpAny _ _ (assignInOrder [fun v => bindName X.env z v, fun v => bindName X.env y v, fun v => bindName X.env x v] [u3, u2, u1] >>= fun _ => pure Flow.next) _ _ _
    refine wpAny_bind (assignInOrder_cons (wpAny_bindName (store_ok I3 hN hk (.inl hz) g3 (fun s2 I4 => ?_) (.inr hz))))
    refine assignInOrder_cons (wpAny_bindName (store_ok I4 hN hj (.inl hy) g2 (fun s3 I5 => ?_) (.inr hy)))
    refine assignInOrder_cons (wpAny_bindName (store_ok I5 hN hi (.inl hx) g1 (fun s4 I6 => assignInOrder_nil (wpAny_pure ?_)) (.inr hx)))
    refine ⟨_, H1, I6, q1 _ ?_⟩
    rw [List.set_comm _ _ (Ne.symm hij), List.set_comm _ _ (Ne.symm hik), List.set_comm _ _ (Ne.symm hjk)]
end

section
variable {P : Program} {w : World} {K : PySem.W.Frag} {mg : Str → Option Value} {base : Heap}
theorem rel_start {K : KW} {N : List Str} {loc : List Addr} {M : Mem} {H : Hp} {vs : List V} {ws : List W} (s : Store K H loc M) (r : Rds K H loc vs ws) : Rel K loc (ws.map some ++ List.replicate (N.length - ws.length) none) M (L2.start N vs) H := by
  have hl := r.length
  refine ⟨s, by unfold L2.start; simp [hl], fun i u e => ?_⟩
  by_cases hi : i < ws.length
  · rw [List.getElem?_append_left (by simpa using hi), List.getElem?_map] at e
    obtain ⟨z, hz, e⟩ := Option.map_eq_some_iff.mp e
    cases e
    obtain ⟨v, h1, h2⟩ := r.get hz
    refine ⟨v, ?_, h2⟩
    unfold L2.start
    rw [List.getElem?_append_left (by rw [List.length_map]; omega), List.getElem?_map, h1]
    rfl
  · rw [List.getElem?_append_right (by simpa using hi)] at e
    have := List.mem_of_getElem? e
    simp at this
/-- a def of one's own keeps the promise G: its text as der says, what it computes as hk says -/
theorem fn_ok {x qual : Str} {st : Stmt} {f : Addr} {fd : FuncData} {N ps : List Str} {k : Nat} {body : CS} {G : Fn} (F : Fun K x qual st f fd) (S : FnScope N ps (defScope st)) (hk : Keeps N.length body G)
    (der : ∀ (cdv : Value) (A : Around) (outer : List Env) (s : Shared) (H : Hp) (E : XK), Room k (A.deeper (envOfC qual (defScope st) s.heap.objs.size f cdv)) →
      ESs (cxOf CX0 P w K mg base N qual (defScope st) f cdv A outer s H E).nox (defBody st) body) : FnOk P w K mg base CX0 (k + 1) f fd ps (spF ⟨K, w⟩ ps.length G) := by
  refine F.ok S (fun vs H Q E h => h.1) fun cdv A outer s H vs Q E hr h => ⟨_, der cdv A outer s H E hr, ?_⟩
  obtain ⟨hl, loc, M, ws, u, M', st, rd, e, aft⟩ := h
  have hc := st.closed
  obtain ⟨r, M2, hor, hid, hr, hinj, hle, hcl, hcw⟩ := hk ws M u M' hc (by rw [← st.len]; exact rd.each) e
  have fin : Aft ⟨K, w⟩ H loc (u.ren r) M2 Q := fun v H' loc' s' r' ex l => by
    have look : ∀ i, i < M'.length → ∃ a, loc'[r i]? = some a := fun i hi => by
      obtain ⟨a, ha, _⟩ := s'.at (hr i _ (List.getElem?_eq_getElem hi))
      exact ⟨a, ha⟩
    have pre : loc <+: renLoc loc' r M'.length := by
      rw [List.prefix_iff_eq_take]
      refine List.ext_getElem? fun i => ?_
      by_cases hi : i < loc.length
      · have hi' : i < M.length := by rw [← st.len]; exact hi
        obtain ⟨a, ha⟩ := look i (by omega)
        rw [List.getElem?_take, if_pos hi, renLoc_get (by omega) ha]
        rw [hid i hi'] at ha
        have := pre_get l (List.getElem?_eq_getElem hi)
        rw [ha] at this
        rw [List.getElem?_eq_getElem hi, this]
      · rw [List.getElem?_take, if_neg hi, List.getElem?_eq_none (by omega)]
    refine aft v H' (renLoc loc' r M'.length) (s'.ren hcl hr hinj) (Rd.unren look r' hcw) ex pre
  rcases hor with hb | ⟨hu, σ', hb⟩
  · exact ⟨loc, _, M, _, rel_start st rd, hb, fin⟩
  · exact ⟨loc, _, M, _, rel_start st rd, hb, fun σV' H' loc' r' ex l => fin .non H' loc' r'.st (by rw [hu]; exact .non) ex l⟩

/-! ### the law -/
/-- the law at a script of ints answers True -/
def lawF : Fn := fun ws M => match ws, M with
  | [.ref 0], [.ro us] => match asInts us with
    | some ns => if ns.length ≤ 63 then some (.bl true, M) else none
    | none => none
  | _, _ => none
/-- to show: at each script the body answers True -/
theorem keeps_law {n : Nat} {body : CS} (h : ∀ ns : List Int, ns.length ≤ 63 → ∃ g, body (some (.ref 0) :: List.replicate (n - 1) none) [.ro (ns.map W.int)] = some (.rt (.bl true) (.ro (ns.map W.int) :: g))) : Keeps n body lawF := by
  refine KeepsP.keeps ?_
  intro ws M w M' hc _ e
  unfold lawF at e
  split at e
  · rename_i us
    split at e
    · rename_i ns hns
      split at e
      · rename_i hl
        cases e
        rw [asInts_some hns]
        obtain ⟨g, hg⟩ := h ns hl
        refine ⟨g, .inl hg, Nat.le_refl _, ?_, by simp [W.closed]⟩
        rw [← asInts_some hns]
        exact hc
      · cases e
    · cases e
  · cases e
def spLaw (K : PySem.W.Frag) : Sp := fun vs H Q _ => ∃ (a : Addr) (ns : List Int), vs = [V.ref a] ∧ Only H ∧ SqL K H a (ns.map V.int) ∧ ns.length ≤ 63 ∧ ∀ H', Q (.bl true) H'
theorem rds_ints {K : KW} {H : Hp} {loc : List Addr} (ns : List Int) : Rds K H loc (ns.map V.int) (ns.map W.int) := by
  induction ns with
  | nil => exact .nil
  | cons n ns ih => exact .cons (.int n) ih
theorem law_ok {f : Addr} {fd : FuncData} {ps : List Str} {k : Nat} (h1 : ps.length = 1) (F : FnOk P w K mg base CX0 k f fd ps (spF ⟨K, w⟩ ps.length lawF)) : FnOk P w K mg base CX0 k f fd ps (spLaw K) := by
  refine F.imp fun vs H Q E h => ?_
  obtain ⟨a, ns, rfl, ho, sq, hl, q⟩ := h
  have ro : RO ⟨K, w⟩ H a (ns.map V.int) := by
    rcases sq with (sq | sq) | sq
    · rcases ho a with h | ⟨o, xs, h⟩
      · rw [sq] at h; cases h
      · rw [sq] at h; cases h
    · exact .inl sq
    · exact .inr sq
  refine ⟨h1.symm, [a], [.ro (ns.map W.int)], [.ref 0], .bl true, [.ro (ns.map W.int)], ⟨rfl, fun i b mo h1 h2 => ?_, fun i j b m n _ _ h3 _ h5 _ => ?_⟩, .cons (.ref rfl) .nil, ?_, fun v H' loc' s' r' ex l => ?_⟩
  · match i, h1, h2 with
    | 0, h1, h2 =>
      cases h1; cases h2
      exact ⟨_, ro, rds_ints ns⟩
    | i + 1, h1, h2 => simp at h2
  · match i, h3 with
    | 0, h3 => cases h3; cases h5
    | i + 1, h3 => simp at h3
  · show lawF [.ref 0] [.ro (ns.map W.int)] = _
    unfold lawF
    simp only [asInts_map, if_pos hl]
  · cases r'
    exact q H'
end
end BF

set_option Elab.async false
set_option linter.all false
set_option autoImplicit false
set_option maxRecDepth 100000
/-! isinstance of a built-in class, or of a tuple of such. -/
namespace BF
open PySem PySem.Spec
open PyProof.Rows L2

section
variable {K : KW} {X : Cx} {e : Expr} {ca : CE} {p pos : Pos}
theorem tyX_of {H : Hp} {loc : List Addr} {M : Mem} {v : V} {w : W} {T : String} (s : Store K H loc M) (r : Rd K H loc v w) (h : tyW M w = some T) : TyX K H v (.type T) := by
  cases r with
  | non => cases h; exact .base .non
  | bl b => cases h; exact .base (.bl b)
  | int i => cases h; exact .base (.int i)
  | str x _ _ => cases h; exact .base (.str x)
  | @tup a xs ws sq rs =>
    cases h
    rcases sq with (sq | ⟨o, sq⟩) | ⟨o, its, n, hk, hc, _⟩
    · exact .base (.tup sq)
    · exact .fTuple sq
    · exact .kTuple hk hc
  | @ref a n hn =>
    simp only [tyW] at h
    split at h
    · rename_i ws hw
      cases h
      obtain ⟨xs, q1, _⟩ := s.ok _ _ _ hn hw
      exact .base (.lst q1)
    · rename_i ws hw
      cases h
      obtain ⟨xs, q1, _⟩ := s.ok _ _ _ hn hw
      rcases q1 with ⟨o, q1⟩ | ⟨o, its, n, hk, hc, _⟩
      · exact .base (.frz q1)
      · exact .kList hk hc
    · cases h
theorem kit_one {M : Mem} {w : W} {T : String} {C : String} (h : tyW M w = some T) (hC : C = "bool" ∨ C = "int" ∨ C = "str" ∨ C = "list" ∨ C = "tuple") : kitB T C = some (isTy C T) := by
  have hT : T = "NoneType" ∨ T = "bool" ∨ T = "int" ∨ T = "str" ∨ T = "tuple" ∨ T = "list" := by
    unfold tyW at h
    split at h
    · cases h; simp
    · cases h; simp
    · cases h; simp
    · cases h; simp
    · cases h; simp
    · split at h
      · cases h; simp
      · cases h; simp
      · cases h
  rcases hT with rfl | rfl | rfl | rfl | rfl | rfl <;> rcases hC with rfl | rfl | rfl | rfl | rfl <;> decide +kernel
/-- a built-in class as a value -/
theorem ty_val {x : Str} {T : String} {pos : Pos} (hg : Gl X x) (hm : X.mg x = none) (hv : bootBuiltins x = some (.type T)) (hn : x ≠ "__name__" := by decide) (hd : (x == ("__debug__" : Str)) = false := by decide) : PE X (.Name x pos) (tC (.ty T)) :=
  pe_bltn hg hm hv rfl hn hd
theorem r_isi (C : String) {x : Str} {p2 : Pos} (hC : C = "bool" ∨ C = "int" ∨ C = "str" ∨ C = "list" ∨ C = "tuple") (hg : Gl X "isinstance") (hm : X.mg "isinstance" = none) (hgC : Gl X x) (hmC : X.mg x = none) (hvC : bootBuiltins x = some (.type C)) (ha : EV X e ca) (hv : bootBuiltins "isinstance" = some (.builtin "isinstance") := by decide +kernel)
    (hn : x ≠ "__name__" := by decide) (hd : (x == ("__debug__" : Str)) = false := by decide)
    (he : starEach [e, .Name x p2] X.env = (false, eval e X.env) :: starEach [.Name x p2] X.env := by rfl) (hpl : (backTo pos (starEach [.Name x p2] X.env)).any (·.1) = false := by rfl) :
    EV X (.Call (.Name "isinstance" p) [e, .Name x p2] [] pos) (e1 (gIsi C) ca) :=
  (pe_callB call_isi hg hm hv (pa_cons ha (pa_cons (ty_val hgC hmC hvC hn hd) pa_nil) he) (by decide) (by decide) he hpl).mono fun σV H Q ⟨loc, σ, M, w, M', rel, e, aft⟩ => by
    obtain ⟨q, hq, e⟩ := bind_some e
    refine run1 rel hq fun v H1 loc1 rel1 rd1 ex1 l1 => ?_
    unfold gIsi at e
    obtain ⟨T, hT, e⟩ := Option.map_eq_some_iff.mp e
    cases e
    exact ⟨v, .ty C, .type T, .type C, _, rfl, .ty C, tyX_of rel1.st rd1 hT, kit_ty (kit_one hT hC), aft _ H1 loc1 rel1.st (.bl _) ex1 l1⟩
/-- isinstance(e, (C, D)) -/
theorem r_isi2 (C D : String) {x y : Str} {p2 p3 pt : Pos} {kt} (hC : C = "bool" ∨ C = "int" ∨ C = "str" ∨ C = "list" ∨ C = "tuple") (hD : D = "bool" ∨ D = "int" ∨ D = "str" ∨ D = "list" ∨ D = "tuple") (hg : Gl X "isinstance") (hm : X.mg "isinstance" = none)
    (hgC : Gl X x) (hmC : X.mg x = none) (hvC : bootBuiltins x = some (.type C)) (hgD : Gl X y) (hmD : X.mg y = none) (hvD : bootBuiltins y = some (.type D)) (ha : EV X e ca) (hv : bootBuiltins "isinstance" = some (.builtin "isinstance") := by decide +kernel)
    (hn : x ≠ "__name__" := by decide) (hd : (x == ("__debug__" : Str)) = false := by decide) (hn2 : y ≠ "__name__" := by decide) (hd2 : (y == ("__debug__" : Str)) = false := by decide)
    (hs : starEach [.Name x p2, .Name y p3] X.env = (false, eval (.Name x p2) X.env) :: starEach [.Name y p3] X.env := by rfl)
    (he : starEach [e, .Tuple [.Name x p2, .Name y p3] kt pt] X.env = (false, eval e X.env) :: starEach [.Tuple [.Name x p2, .Name y p3] kt pt] X.env := by rfl) (hpl : (backTo pos (starEach [.Tuple [.Name x p2, .Name y p3] kt pt] X.env)).any (·.1) = false := by rfl) :
    EV X (.Call (.Name "isinstance" p) [e, .Tuple [.Name x p2, .Name y p3] kt pt] [] pos) (e1 (gIsi2 C D) ca) :=
  (pe_callB call_isiT hg hm hv (pa_cons ha (pa_cons (pe_tup (pa_cons (ty_val hgC hmC hvC hn hd) (pa_cons (ty_val hgD hmD hvD hn2 hd2) pa_nil) hs)) pa_nil) he) (by decide) (by decide) he hpl).mono fun σV H Q ⟨loc, σ, M, w, M', rel, e, aft⟩ => by
    obtain ⟨q, hq, e⟩ := bind_some e
    refine run1 rel hq fun v H1 loc1 rel1 rd1 ex1 l1 => ?_
    refine ⟨by show 2 ≤ sizeLine; decide, fun t ht => ?_⟩
    unfold gIsi2 at e
    obtain ⟨T, hT, e⟩ := Option.map_eq_some_iff.mp e
    cases e
    have s2 : Store X.KW (upd H1 t (.tup [.ty C, .ty D])) loc1 q.2 := rel1.st.newT ht
    have ex2 : Ext X.KW H1 (upd H1 t (.tup [.ty C, .ty D])) := .new ht
    refine ⟨v, t, [.ty C, .ty D], .type T, [.type C, .type D], isTy C T || isTy D T, rfl, upd_same, .cons (.ty C) (.cons (.ty D) .nil), tyX_of s2 (rd1.mono ex2 (List.prefix_refl _)) hT, ?_, aft _ _ loc1 s2 (.bl _) (ex1.trans ex2) l1⟩
    exact kitAny_cons (kit_ty (kit_one hT hC)) (fun z => by
      rw [z, Bool.false_or]
      exact kitAny_cons (kit_ty (kit_one hT hD)) (fun z' => by rw [z']; exact kitAny_nil) fun z' => z') fun z => by rw [z]; rfl
end
end BF

set_option Elab.async false
set_option linter.all false
set_option autoImplicit false
set_option maxRecDepth 10000
/-! Plain facts: how the terms compute; texts; equality; encodings. -/
namespace BF
open PySem

theorem nr {α : Type} {a b : α} (h : a = b) : a = b := h
section
variable {σ : Sl} {M : Mem}
@[simp] theorem eV_eq (i : Nat) : eV i σ M = match σ.getD i none with
  | some w => some (w, M)
  | none => none := nr rfl
@[simp] theorem eL_eq (w : W) : eL w σ M = some (w, M) := nr rfl
@[simp] theorem e1_eq (f) (a : CE) : e1 f a σ M = (a σ M).bind fun p => f p.2 p.1 := nr rfl
@[simp] theorem e2_eq (f) (a b : CE) : e2 f a b σ M = (a σ M).bind fun p => (b σ p.2).bind fun q => f q.2 p.1 q.1 := nr rfl
@[simp] theorem eArgs_nil : eArgs [] σ M = some ([], M) := nr rfl
@[simp] theorem eArgs_cons (a : CE) (as : List CE) : eArgs (a :: as) σ M = (a σ M).bind fun p => (eArgs as σ p.2).bind fun q => some (p.1 :: q.1, q.2) := nr rfl
@[simp] theorem eN_eq (f : Fn) (as : List CE) : eN f as σ M = (eArgs as σ M).bind fun p => f p.1 p.2 := nr rfl
@[simp] theorem eTup_eq (as : List CE) : eTup as σ M = (eArgs as σ M).bind fun p => if p.1.length ≤ 16777216 then some (.tup p.1, p.2) else none := nr rfl
@[simp] theorem eLst_eq (as : List CE) : eLst as σ M = (eArgs as σ M).bind fun p => if p.1.length ≤ 16777216 then some (.ref p.2.length, p.2 ++ [.lst p.1]) else none := nr rfl
@[simp] theorem eIf_eq (t : CT) (a b : CE) : eIf t a b σ M = (t σ M).bind fun p => if p.1 = true then a σ p.2 else b σ p.2 := nr rfl
@[simp] theorem eAnd_eq (a b : CE) : eAnd a b σ M = (a σ M).bind fun p => match p.1 with
  | .bl true => b σ p.2
  | .bl false => some (.bl false, p.2)
  | _ => none := nr rfl
@[simp] theorem eOr_eq (a b : CE) : eOr a b σ M = (a σ M).bind fun p => match p.1 with
  | .bl true => some (.bl true, p.2)
  | .bl false => b σ p.2
  | _ => none := nr rfl
@[simp] theorem eNot_eq (a : CE) : eNot a σ M = (a σ M).bind fun p => match p.1 with
  | .bl c => some (.bl (!c), p.2)
  | _ => none := nr rfl
@[simp] theorem eChain_eq (f g) (a b c : CE) : eChain f g a b c σ M = (a σ M).bind fun p => (b σ p.2).bind fun q => (f q.2 p.1 q.1).bind fun r => match r.1 with
    | .bl true => (c σ r.2).bind fun t => g t.2 q.1 t.1
    | .bl false => some (.bl false, r.2)
    | _ => none := nr rfl
@[simp] theorem tB_eq (e : CE) : tB e σ M = (e σ M).bind fun p => match p.1 with
  | .bl c => some (c, p.2)
  | _ => none := nr rfl
@[simp] theorem tAnd_eq (a b : CT) : tAnd a b σ M = (a σ M).bind fun p => if p.1 = true then b σ p.2 else some (false, p.2) := nr rfl
@[simp] theorem tOr_eq (a b : CT) : tOr a b σ M = (a σ M).bind fun p => if p.1 = true then some (true, p.2) else b σ p.2 := nr rfl
@[simp] theorem tNot_eq (a : CT) : tNot a σ M = (a σ M).bind fun p => some (!p.1, p.2) := nr rfl
@[simp] theorem tTrue_eq : tTrue σ M = some (true, M) := nr rfl
@[simp] theorem gV_eq (i : Nat) (w : W) : gV i w σ = some (σ.set i (some w)) := nr rfl
@[simp] theorem gAll_nil : gAll [] [] σ = some σ := nr rfl
@[simp] theorem gAll_cons (g : CG) (gs : List CG) (w : W) (ws : List W) : gAll (g :: gs) (w :: ws) σ = (g w σ).bind fun σ1 => gAll gs ws σ1 := nr rfl
@[simp] theorem gT_eq (gs : List CG) (ws : List W) : gT gs (.tup ws) σ = gAll gs ws σ := nr rfl
@[simp] theorem sSet_eq (g : CG) (e : CE) : sSet g e σ M = (e σ M).bind fun p => (g p.1 σ).bind fun σ1 => some (.nx σ1 p.2) := nr rfl
@[simp] theorem sPar_eq (is : List Nat) (as : List CE) : sPar is as σ M = (eArgs as σ M).bind fun p =>
  if p.1.length = is.length then some (.nx ((is.zip p.1).foldl (fun σ q => σ.set q.1 (some q.2)) σ) p.2) else none := nr rfl
@[simp] theorem sAug_eq (i : Nat) (f) (e : CE) : sAug i f e σ M = match σ.getD i none with
  | some w => (e σ M).bind fun p => (f p.2 w p.1).bind fun q => some (.nx (σ.set i (some q.1)) q.2)
  | none => none := nr rfl
@[simp] theorem sPut_eq (f) (o k e : CE) : sPut f o k e σ M = (e σ M).bind fun p => (o σ p.2).bind fun q => (k σ q.2).bind fun r => (f r.2 q.1 r.1 p.1).bind fun M' => some (.nx σ M') := nr rfl
@[simp] theorem sExpr_eq (e : CE) : sExpr e σ M = (e σ M).bind fun p => some (.nx σ p.2) := nr rfl
@[simp] theorem sRet_eq (e : CE) : sRet e σ M = (e σ M).bind fun p => some (.rt p.1 p.2) := nr rfl
@[simp] theorem sNil_eq : sNil σ M = some (.nx σ M) := nr rfl
@[simp] theorem sBreak_eq : sBreak σ M = some (.bk σ M) := nr rfl
@[simp] theorem sSeq_eq (a b : CS) : sSeq a b σ M = (a σ M).bind fun o => match o with
  | .nx σ' M' => b σ' M'
  | .rt w M' => some (.rt w M')
  | .bk σ' M' => some (.bk σ' M')
  | .ct σ' M' => some (.ct σ' M') := nr rfl
@[simp] theorem sIf_eq (t : CT) (a b : CS) : sIf t a b σ M = (t σ M).bind fun p => if p.1 = true then a σ p.2 else b σ p.2 := nr rfl
@[simp] theorem sFor_eq (it : CI) (g : CG) (body : CS) : sFor it g body σ M = (it σ M).bind fun p => forL p.2.1 g body p.1 σ p.2.2 := nr rfl
@[simp] theorem eLc_eq (it : CI) (g : CG) (t : CT) (e : CE) (vs : List Nat) : eLc it g t e vs σ M = (it σ M).bind fun p =>
  (lcL p.2.1 g t e vs σ p.2.2.length p.1 (p.2.2 ++ [.lst []])).bind fun M' => some (.ref p.2.2.length, M') := nr rfl
@[simp] theorem iTup_eq (e : CE) : iTup e σ M = (e σ M).bind fun p => match p.1 with
  | .tup ws => some (ws, gdT, p.2)
  | _ => none := nr rfl
@[simp] theorem iLst_eq (e : CE) : iLst e σ M = (e σ M).bind fun p => match p.1 with
  | .ref n => match p.2[n]? with
    | some (.lst ws) => some (ws, fun M' => decide (M'[n]? = some (.lst ws)), p.2)
    | some (.ro ws) => some (ws, fun M' => decide (M'[n]? = some (.ro ws)), p.2)
    | _ => none
  | _ => none := nr rfl
@[simp] theorem iRange1_eq (e : CE) : iRange1 e σ M = (e σ M).bind fun p => match p.1 with
  | .int j => if small62 j = true then some (rangeW 0 j.toNat, gdT, p.2) else none
  | _ => none := nr rfl
@[simp] theorem iRange2_eq (a b : CE) : iRange2 a b σ M = (a σ M).bind fun p => (b σ p.2).bind fun q => match p.1, q.1 with
  | .int i, .int j => if small62 i = true ∧ small62 j = true then some (rangeW i (j - i).toNat, gdT, q.2) else none
  | _, _ => none := nr rfl
@[simp] theorem iEnumT_eq (e : CE) : iEnumT e σ M = (e σ M).bind fun p => match p.1 with
  | .tup ws => some (enumW ws, gdT, p.2)
  | _ => none := nr rfl
@[simp] theorem iEnumL_eq (e : CE) : iEnumL e σ M = (e σ M).bind fun p => match p.1 with
  | .ref n => match p.2[n]? with
    | some (.lst ws) => some (enumW ws, fun M' => decide (M'[n]? = some (.lst ws)), p.2)
    | _ => none
  | _ => none := nr rfl
@[simp] theorem iZipT_eq (a b : CE) : iZipT a b σ M = (a σ M).bind fun p => (b σ p.2).bind fun q => match p.1, q.1 with
  | .tup xs, .tup ys => some (zipW xs ys, gdT, q.2)
  | _, _ => none := nr rfl
@[simp] theorem gdT_eq : gdT M = true := nr rfl
@[simp] theorem eML_eq (f : Fn) (o : CE) (as : List CE) : eML f o as σ M = (o σ M).bind fun p => if isLst p.2 p.1 = true then (eArgs as σ p.2).bind fun q => f (p.1 :: q.1) q.2 else none := nr rfl
@[simp] theorem ePart_none : ePart none σ M = some (none, M) := nr rfl
@[simp] theorem ePart_some (c : CE) : ePart (some c) σ M = (c σ M).bind fun p => match p.1 with
    | .int i => some (some i, p.2)
    | _ => none := nr rfl
@[simp] theorem eSl_eq (e : CE) (lo hi : Option CE) : eSl e lo hi σ M = (e σ M).bind fun p => (ePart lo σ p.2).bind fun q => (ePart hi σ q.2).bind fun r => gSl r.2 p.1 q.1 r.1 := nr rfl

@[simp] theorem gAdd_int (i j : Int) : gAdd M (.int i) (.int j) = some (.int (i + j), M) := nr rfl
@[simp] theorem gAdd_tup (a b : List W) : gAdd M (.tup a) (.tup b) = if a.length + b.length ≤ 16777216 then some (.tup (a ++ b), M) else none := nr rfl
@[simp] theorem gAdd_str (a b : Str) : gAdd M (.str a) (.str b) = if a.length + b.length ≤ 16777216 then some (.str (a ++ b), M) else none := nr rfl
@[simp] theorem gAdd_ref (a b : Nat) : gAdd M (.ref a) (.ref b) = match M[a]?, M[b]? with
    | some (.lst xs), some (.lst ys) => if xs.length + ys.length ≤ 16777216 then some (.ref M.length, M ++ [.lst (xs ++ ys)]) else none
    | _, _ => none := nr rfl
@[simp] theorem gSub_int (i j : Int) : gSub M (.int i) (.int j) = some (.int (i - j), M) := nr rfl
@[simp] theorem gMul_int (i j : Int) : gMul M (.int i) (.int j) = if small64 i = true ∨ small64 j = true then some (.int (i * j), M) else none := nr rfl
@[simp] theorem gRep_tup (a : List W) (k : Int) : gRep M (.tup a) (.int k) = if a.length ≤ 1000 ∧ k ≤ 1000 then some (.tup (List.replicate k.toNat a).flatten, M) else none := nr rfl
@[simp] theorem gMod_int (i j : Int) : gMod M (.int i) (.int j) = if 0 < j then some (.int (i % j), M) else none := nr rfl
@[simp] theorem gDiv_int (i j : Int) : gDiv M (.int i) (.int j) = if 0 < j ∧ small64 j = true then some (.int (i / j), M) else none := nr rfl
@[simp] theorem gPow_int (i j : Int) : gPow M (.int i) (.int j) = if 0 ≤ j ∧ j ≤ 1000 ∧ small62 i = true then some (.int (i ^ j.toNat), M) else none := nr rfl
@[simp] theorem gNeg_int (i : Int) : gNeg M (.int i) = some (.int (-i), M) := nr rfl
@[simp] theorem gLt_int (i j : Int) : gLt M (.int i) (.int j) = some (.bl (decide (i < j)), M) := nr rfl
@[simp] theorem gLe_int (i j : Int) : gLe M (.int i) (.int j) = some (.bl (decide (i ≤ j)), M) := nr rfl
@[simp] theorem gGt_int (i j : Int) : gGt M (.int i) (.int j) = some (.bl (decide (j < i)), M) := nr rfl
@[simp] theorem gGe_int (i j : Int) : gGe M (.int i) (.int j) = some (.bl (decide (j ≤ i)), M) := nr rfl
@[simp] theorem gEq_eq (x y : W) : gEq M x y = (eqW M x y).map fun b => (.bl b, M) := nr rfl
@[simp] theorem gNe_eq (x y : W) : gNe M x y = (eqW M x y).map fun b => (.bl (!b), M) := nr rfl
@[simp] theorem gIsN_eq (x : W) : gIsN M x = some (.bl (isN x), M) := nr rfl
@[simp] theorem gNotN_eq (x : W) : gNotN M x = some (.bl (!isN x), M) := nr rfl
@[simp] theorem isN_non : isN .non = true := nr rfl
@[simp] theorem isN_bl (b) : isN (.bl b) = false := nr rfl
@[simp] theorem isN_int (i) : isN (.int i) = false := nr rfl
@[simp] theorem isN_str (i) : isN (.str i) = false := nr rfl
@[simp] theorem isN_tup (i) : isN (.tup i) = false := nr rfl
@[simp] theorem isN_ref (i) : isN (.ref i) = false := nr rfl
@[simp] theorem gIx_tup (a : List W) (i : Int) : gIx M (.tup a) (.int i) = ((ixW a.length i).bind fun j => a[j]?).map fun w => (w, M) := nr rfl
@[simp] theorem gIx_ref (n : Nat) (i : Int) : gIx M (.ref n) (.int i) = match M[n]? with
    | some (.lst a) => ((ixW a.length i).bind fun j => a[j]?).map fun w => (w, M)
    | some (.ro a) => ((ixW a.length i).bind fun j => a[j]?).map fun w => (w, M)
    | _ => none := nr rfl
@[simp] theorem gSl_tup (a : List W) (lo hi : Option Int) : gSl M (.tup a) lo hi = some (.tup (cutW a lo hi), M) := nr rfl
@[simp] theorem gSl_ref (n : Nat) (lo hi : Option Int) : gSl M (.ref n) lo hi = match M[n]? with
    | some (.lst a) => some (.ref M.length, M ++ [.lst (cutW a lo hi)])
    | _ => none := nr rfl
@[simp] theorem pLen_tup (a : List W) : pLen [.tup a] M = some (.int a.length, M) := nr rfl
@[simp] theorem pLen_ref (n : Nat) : pLen [.ref n] M = match M[n]? with
    | some (.lst a) => some (.int a.length, M)
    | some (.ro a) => some (.int a.length, M)
    | _ => none := nr rfl
@[simp] theorem pMin_eq (i j : Int) : pMin [.int i, .int j] M = some (.int (if j < i then j else i), M) := nr rfl
@[simp] theorem pMax_eq (i j : Int) : pMax [.int i, .int j] M = some (.int (if j > i then j else i), M) := nr rfl
@[simp] theorem pAbs_eq (i : Int) : pAbs [.int i] M = some (.int (if i < 0 then -i else i), M) := nr rfl
@[simp] theorem pList_tup (a : List W) : pList [.tup a] M = some (.ref M.length, M ++ [.lst a]) := nr rfl
@[simp] theorem pList_ref (n : Nat) : pList [.ref n] M = match M[n]? with
    | some (.lst a) => some (.ref M.length, M ++ [.lst a])
    | some (.ro a) => some (.ref M.length, M ++ [.lst a])
    | _ => none := nr rfl
@[simp] theorem pTuple_tup (a : List W) : pTuple [.tup a] M = some (.tup a, M) := nr rfl
@[simp] theorem pTuple_ref (n : Nat) : pTuple [.ref n] M = match M[n]? with
    | some (.lst a) => some (.tup a, M)
    | some (.ro a) => some (.tup a, M)
    | _ => none := nr rfl
@[simp] theorem isLst_ref (n : Nat) : isLst M (.ref n) = match M[n]? with
    | some (.lst _) => true
    | _ => false := nr rfl
@[simp] theorem mAppend_ref (n : Nat) (w : W) : mAppend [.ref n, w] M = match M[n]? with
    | some (.lst a) => if a.length < 16777216 then some (.non, M.set n (.lst (a ++ [w]))) else none
    | _ => none := nr rfl
@[simp] theorem mPop_ref (n : Nat) : mPop [.ref n] M = match M[n]? with
    | some (.lst a) => a[a.length - 1]?.map fun w => (w, M.set n (.lst a.dropLast))
    | _ => none := nr rfl
@[simp] theorem mPopAt_ref (n : Nat) (i : Int) : mPopAt [.ref n, .int i] M = match M[n]? with
    | some (.lst a) => if small62 i = true then (ixW a.length i).bind fun j => a[j]?.map fun w => (w, M.set n (.lst (a.eraseIdx j))) else none
    | _ => none := nr rfl
@[simp] theorem putL_ref (n : Nat) (i : Int) (w : W) : putL M (.ref n) (.int i) w = match M[n]? with
    | some (.lst a) => (ixW a.length i).map fun j => M.set n (.lst (a.set j w))
    | _ => none := nr rfl
end


theorem ite_le {α : Type} {n m : Nat} {a b : α} (h : n ≤ m) : (if n ≤ m then a else b) = a := if_pos h
theorem ite_lt {α : Type} {n m : Nat} {a b : α} (h : n < m) : (if n < m then a else b) = a := if_pos h

/-! ### texts -/
theorem ofString_cps (a : String) : (Str.ofString a).cps.toList = a.toList.map Char.toNat := by
  show ((cpsOfBytes 0 0 a.toByteArray.data.toList).toArray).toList = _
  rw [cpsOfBytes_string]
theorem ofString_inj {a b : String} (h : Str.ofString a = Str.ofString b) : a = b := by
  have e : a.toList.map Char.toNat = b.toList.map Char.toNat := by rw [← ofString_cps, ← ofString_cps, h]
  have inj : ∀ (l m : List Char), l.map Char.toNat = m.map Char.toNat → l = m := by
    intro l
    induction l with
    | nil => intro m h; cases m with
      | nil => rfl
      | cons _ _ => cases h
    | cons c l ih =>
      intro m h
      cases m with
      | nil => cases h
      | cons d m =>
        rw [List.map_cons, List.map_cons] at h
        injection h with h1 h2
        rw [ih m h2, Char.toNat_inj.mp h1]
  exact String.toList_inj.mp (inj _ _ e)
@[simp] theorem ofString_eq (a b : String) : (Str.ofString a = Str.ofString b) ↔ a = b := ⟨ofString_inj, fun h => h ▸ rfl⟩

/-! ### equality of list-free values -/
mutual
def eqP : W → W → Bool
  | .non, .non => true
  | .bl a, .bl b => a == b
  | .bl a, .int j => (if a then 1 else 0) == j
  | .int i, .bl b => i == (if b then 1 else 0)
  | .int i, .int j => i == j
  | .str x, .str y => x == y
  | .tup xs, .tup ys => eqPs xs ys
  | .ref _, _ | .tup _, .non | .tup _, .bl _ | .tup _, .int _ | .tup _, .str _ | .tup _, .ref _ => false
  | .non, .bl _ | .non, .int _ | .non, .str _ | .non, .tup _ | .non, .ref _ => false
  | .bl _, .non | .bl _, .str _ | .bl _, .tup _ | .bl _, .ref _ => false
  | .int _, .non | .int _, .str _ | .int _, .tup _ | .int _, .ref _ => false
  | .str _, .non | .str _, .bl _ | .str _, .int _ | .str _, .tup _ | .str _, .ref _ => false
def eqPs : List W → List W → Bool
  | [], [] => true
  | x :: xs, y :: ys => eqP x y && eqPs xs ys
  | [], _ :: _ => false
  | _ :: _, [] => false
end
/-- list-free and at most so deep -/
def okW : Nat → W → Bool
  | 0, _ => false
  | _ + 1, .ref _ => false
  | k + 1, .tup ws => ws.all (okW k)
  | _ + 1, .non | _ + 1, .bl _ | _ + 1, .int _ | _ + 1, .str _ => true
mutual
def dP : W → PyData
  | .non => .none
  | .bl b => .bool b
  | .int i => .int i
  | .str x => .str x
  | .tup ws => .tuple (dPs ws)
  | .ref _ => .none
def dPs : List W → List PyData
  | [] => []
  | w :: ws => dP w :: dPs ws
end
theorem toD_P (M : Mem) : ∀ (k : Nat) (w : W), okW k w = true → toD M k w = some (dP w)
  | 0, _, h => by cases h
  | k + 1, w, h => by
    cases w with
    | tup ws =>
      rw [okW] at h
      rw [toD, dP]
      have : mapO (toD M k) ws = some (dPs ws) := by
        induction ws with
        | nil => rfl
        | cons w ws ih =>
          rw [List.all_cons, Bool.and_eq_true] at h
          rw [mapO, toD_P M k w h.1, ih h.2, dPs]
      rw [this]; rfl
    | ref n => rw [okW] at h; cases h
    | non => rw [toD, dP]
    | bl b => rw [toD, dP]
    | int i => rw [toD, dP]
    | str x => rw [toD, dP]
theorem eqv_P : ∀ (k : Nat) (x y : W), okW k x = true → okW k y = true → PyData.eqv (dP x) (dP y) = eqP x y
  | 0, _, _, h, _ => by cases h
  | k + 1, x, y, hx, hy => by
    have all : ∀ (xs ys : List W), xs.all (okW k) = true → ys.all (okW k) = true → PyData.eqvAll (dPs xs) (dPs ys) = eqPs xs ys := by
      intro xs
      induction xs with
      | nil => intro ys _ _; cases ys <;> simp [dPs, PyData.eqvAll, eqPs]
      | cons x xs ih =>
        intro ys h1 h2
        cases ys with
        | nil => simp [dPs, PyData.eqvAll, eqPs]
        | cons y ys =>
          rw [List.all_cons, Bool.and_eq_true] at h1 h2
          rw [dPs, dPs, PyData.eqvAll, eqPs, eqv_P k x y h1.1 h2.1, ih ys h1.2 h2.2]
    cases x with
    | ref _ => rw [okW] at hx; cases hx
    | tup xs =>
      cases y with
      | tup ys => rw [okW] at hx hy; simp only [dP, PyData.eqv, eqP]; exact all xs ys hx hy
      | ref _ => rw [okW] at hy; cases hy
      | _ => simp [dP, PyData.eqv, eqP]
    | _ => cases y with
      | ref _ => rw [okW] at hy; cases hy
      | _ => simp [dP, PyData.eqv, eqP]
theorem eqW_P (M : Mem) {x y : W} (hx : okW 64 x = true) (hy : okW 64 y = true) : eqW M x y = some (eqP x y) := by
  unfold eqW
  rw [toD_P M 64 x hx, toD_P M 64 y hy]
  show some _ = some _
  rw [eqv_P 64 x y hx hy]
theorem okW_mono : ∀ (k : Nat) (w : W), okW k w = true → ∀ j, k ≤ j → okW j w = true
  | 0, _, h, _, _ => by cases h
  | k + 1, w, h, j, hj => by
    cases j with
    | zero => omega
    | succ j =>
      cases w with
      | tup ws =>
        rw [okW] at h ⊢
        rw [List.all_eq_true] at h ⊢
        exact fun w hw => okW_mono k w (h w hw) j (by omega)
      | ref _ => rw [okW] at h; cases h
      | _ => rfl

/-! ### encodings -/
class Enc (α : Type) where
  enc : α → W
  dec : W → Option α
  dec_enc : ∀ a, dec (enc a) = some a
  enc_dec : ∀ w a, dec w = some a → w = enc a
  dep : Nat
  ok : ∀ a, okW dep (enc a) = true
  eqE : ∀ a b : α, eqP (enc a) (enc b) = true ↔ a = b
end BF

set_option Elab.async false
set_option linter.all false
set_option autoImplicit false
set_option maxRecDepth 10000
/-! Encodings of our own types, and promises of pure defs. -/
namespace BF
open PySem Enc

theorem Enc.inj {α : Type} [Enc α] {a b : α} (h : (enc a : W) = enc b) : a = b := by
  have := dec_enc a
  rw [h, dec_enc b] at this
  exact (Option.some.inj this).symm
instance : Enc Int where
  enc i := .int i
  dec w := match w with
    | .int i => some i
    | _ => none
  dec_enc _ := rfl
  enc_dec w a h := by
    split at h
    · cases h; rfl
    · cases h
  dep := 1
  ok _ := rfl
  eqE a b := by simp [eqP]
instance : Enc Nat where
  enc i := .int (i : Int)
  dec w := match w with
    | .int i => if 0 ≤ i then some i.toNat else none
    | _ => none
  dec_enc a := by simp
  enc_dec w a h := by
    split at h
    · split at h
      · cases h; congr 1; omega
      · cases h
    · cases h
  dep := 1
  ok _ := rfl
  eqE a b := by simp [eqP]; omega
instance : Enc Bool where
  enc i := .bl i
  dec w := match w with
    | .bl i => some i
    | _ => none
  dec_enc _ := rfl
  enc_dec w a h := by
    split at h
    · cases h; rfl
    · cases h
  dep := 1
  ok _ := rfl
  eqE a b := by simp [eqP]
instance : Enc Str where
  enc i := .str i
  dec w := match w with
    | .str i => some i
    | _ => none
  dec_enc _ := rfl
  enc_dec w a h := by
    split at h
    · cases h; rfl
    · cases h
  dep := 1
  ok _ := rfl
  eqE a b := by simp [eqP]
theorem mapO_map {α β γ : Type} {f : β → Option γ} {g : α → β} {h : α → γ} (e : ∀ a, f (g a) = some (h a)) : ∀ l : List α, mapO f (l.map g) = some (l.map h)
  | [] => rfl
  | a :: l => by rw [List.map_cons, mapO, e a, mapO_map e l]; rfl
theorem mapO_enc {α : Type} [Enc α] : ∀ {ws : List W} {as : List α}, mapO dec ws = some as → ws = as.map enc
  | [], as, h => by cases h; rfl
  | w :: ws, as, h => by
    rw [mapO] at h
    split at h
    · rename_i b bs h1 h2
      cases h
      rw [List.map_cons, ← enc_dec w b h1, ← mapO_enc h2]
    · cases h
theorem eqPs_map {α : Type} [Enc α] : ∀ as bs : List α, eqPs (as.map enc) (bs.map enc) = true ↔ as = bs
  | [], [] => by simp [eqPs]
  | [], _ :: _ => by simp [eqPs]
  | _ :: _, [] => by simp [eqPs]
  | a :: as, b :: bs => by
    rw [List.map_cons, List.map_cons, eqPs, Bool.and_eq_true, eqE, eqPs_map as bs]
    simp
instance {α : Type} [Enc α] : Enc (List α) where
  enc l := .tup (l.map enc)
  dec w := match w with
    | .tup ws => mapO dec ws
    | _ => none
  dec_enc l := by
    show mapO dec (l.map enc) = some l
    rw [mapO_map (h := id) fun a => dec_enc a, List.map_id]
  enc_dec w a h := by
    split at h
    · rw [mapO_enc h]
    · cases h
  dep := dep α + 1
  ok l := by
    rw [okW, List.all_eq_true]
    intro w hw
    obtain ⟨a, _, rfl⟩ := List.mem_map.mp hw
    exact ok a
  eqE a b := by
    rw [eqP]
    exact eqPs_map a b
instance {α β : Type} [Enc α] [Enc β] : Enc (α × β) where
  enc p := .tup [enc p.1, enc p.2]
  dec w := match w with
    | .tup [a, b] => match (dec a : Option α), (dec b : Option β) with
      | some x, some y => some (x, y)
      | _, _ => none
    | _ => none
  dec_enc p := by simp only [dec_enc]
  enc_dec w a h := by
    split at h
    · split at h
      · rename_i h1 h2
        cases h
        rw [enc_dec _ _ h1, enc_dec _ _ h2]
      · cases h
    · cases h
  dep := max (dep α) (dep β) + 1
  ok p := by
    rw [okW]
    simp [okW_mono _ _ (ok p.1) (max (dep α) (dep β)) (Nat.le_max_left _ _), okW_mono _ _ (ok p.2) (max (dep α) (dep β)) (Nat.le_max_right _ _)]
  eqE p q := by
    simp only [eqP, eqPs, Bool.and_true, Bool.and_eq_true, eqE]
    exact ⟨fun h => Prod.ext h.1 h.2, fun h => by rw [h]; exact ⟨rfl, rfl⟩⟩
/-- a history: the pages, the place -/
structure Hist where
  ps : List Str
  at_ : Nat
  deriving DecidableEq
instance : Enc Hist where
  enc h := .tup [.tup (h.ps.map W.str), .int h.at_]
  dec w := (dec w : Option (List Str × Nat)).map fun p => ⟨p.1, p.2⟩
  dec_enc h := by
    have : (dec (.tup [.tup (h.ps.map W.str), .int h.at_]) : Option (List Str × Nat)) = some (h.ps, h.at_) := dec_enc (h.ps, h.at_)
    rw [this]; rfl
  enc_dec w a h := by
    obtain ⟨p, h1, h2⟩ := Option.map_eq_some_iff.mp h
    rw [enc_dec w p h1, ← h2]; rfl
  dep := 3
  ok h := ok (h.ps, h.at_)
  eqE a b := by
    have := eqE (a.ps, a.at_) (b.ps, b.at_)
    refine this.trans ?_
    cases a; cases b
    simp
theorem enc_hist (h : Hist) : (enc h : W) = .tup [.tup (h.ps.map W.str), .int h.at_] := rfl
/-- an action; go is the menus' -/
inductive Act where
  | visit (p : Str)
  | back
  | forward
  | go (i : Nat)
  deriving DecidableEq
def Act.enc : Act → W
  | .visit p => .tup [.str "visit", .str p]
  | .back => .tup [.str "back"]
  | .forward => .tup [.str "forward"]
  | .go i => .tup [.str "go", .int i]
def Act.dec : W → Option Act
  | .tup [.str a, .str p] => if a = "visit" then some (.visit p) else none
  | .tup [.str a] => if a = "back" then some .back else if a = "forward" then some .forward else none
  | .tup [.str a, .int i] => if a = "go" ∧ 0 ≤ i then some (.go i.toNat) else none
  | _ => none
instance : Enc Act where
  enc := Act.enc
  dec := Act.dec
  dec_enc a := by cases a <;> simp [Act.enc, Act.dec]
  enc_dec w a h := by
    unfold Act.dec at h
    split at h
    · split at h
      · rename_i e; cases h; subst e; rfl
      · cases h
    · split at h
      · rename_i e; cases h; subst e; rfl
      · split at h
        · rename_i e; cases h; subst e; rfl
        · cases h
    · split at h
      · rename_i e; cases h; obtain ⟨e, e2⟩ := e; subst e; simp [Act.enc]; omega
      · cases h
    · cases h
  dep := 2
  ok a := by cases a <;> rfl
  eqE a b := by cases a <;> cases b <;> simp [Act.enc, eqP, eqPs]; omega
@[simp] theorem enc_visit (p : Str) : (enc (Act.visit p) : W) = .tup [.str "visit", .str p] := rfl
@[simp] theorem enc_back : (enc Act.back : W) = .tup [.str "back"] := rfl
@[simp] theorem enc_forward : (enc Act.forward : W) = .tup [.str "forward"] := rfl
@[simp] theorem enc_go (i : Nat) : (enc (Act.go i) : W) = .tup [.str "go", .int i] := rfl
/-- a sighting -/
structure Sight where
  p : Str
  b : Bool
  f : Bool
  deriving DecidableEq
instance : Enc Sight where
  enc s := .tup [.str s.p, .bl s.b, .bl s.f]
  dec w := match w with
    | .tup [.str p, .bl b, .bl f] => some ⟨p, b, f⟩
    | _ => none
  dec_enc _ := rfl
  enc_dec w a h := by
    split at h
    · cases h; rfl
    · cases h
  dep := 2
  ok _ := rfl
  eqE a b := by cases a; cases b; simp [eqP, eqPs]
theorem enc_sight (s : Sight) : (enc s : W) = .tup [.str s.p, .bl s.b, .bl s.f] := rfl
@[simp] theorem enc_nat (n : Nat) : (enc n : W) = .int n := rfl
@[simp] theorem enc_int (n : Int) : (enc n : W) = .int n := rfl
@[simp] theorem enc_bool (n : Bool) : (enc n : W) = .bl n := rfl
@[simp] theorem enc_str (n : Str) : (enc n : W) = .str n := rfl
theorem enc_list {α : Type} [Enc α] (l : List α) : (enc l : W) = .tup (l.map enc) := rfl
theorem enc_pair {α β : Type} [Enc α] [Enc β] (a : α) (b : β) : (enc (a, b) : W) = .tup [enc a, enc b] := rfl

/-- == of encoded values -/
theorem eqW_enc {α : Type} [Enc α] [DecidableEq α] (M : Mem) (a b : α) (h : dep α ≤ 64 := by decide) : eqW M (enc a) (enc b) = some (decide (a = b)) := by
  rw [eqW_P M (okW_mono _ _ (ok a) 64 h) (okW_mono _ _ (ok b) 64 h)]
  congr 1
  rw [Bool.eq_iff_iff, eqE, decide_eq_true_eq]
@[simp] theorem eqW_str (M : Mem) (a b : Str) : eqW M (.str a) (.str b) = some (decide (a = b)) := eqW_enc M a b
@[simp] theorem eqW_int (M : Mem) (a b : Int) : eqW M (.int a) (.int b) = some (decide (a = b)) := eqW_enc M a b
@[simp] theorem eqW_bl (M : Mem) (a b : Bool) : eqW M (.bl a) (.bl b) = some (decide (a = b)) := eqW_enc M a b

theorem okW_closed : ∀ (k : Nat) (w : W), okW k w = true → ∀ n, w.closed n = true
  | 0, _, h, _ => by cases h
  | k + 1, w, h, n => by
    cases w with
    | tup ws =>
      rw [okW] at h
      rw [W.closed]
      induction ws with
      | nil => rfl
      | cons w ws ih =>
        rw [List.all_cons, Bool.and_eq_true] at h
        rw [W.closeds, okW_closed k w h.1 n, ih h.2]; rfl
    | ref _ => rw [okW] at h; cases h
    | _ => rfl
theorem enc_closed {α : Type} [Enc α] (a : α) (n : Nat) : (enc a : W).closed n = true := okW_closed _ _ (ok a) n

/-- promises of pure defs -/
def fn1 {α β : Type} [Enc α] [Enc β] (f : α → Option β) : Fn := fun ws M => match ws with
  | [x] => match (dec x : Option α) with
    | some a => (f a).map fun b => (enc b, M)
    | none => none
  | _ => none
def fn2 {α β γ : Type} [Enc α] [Enc β] [Enc γ] (f : α → β → Option γ) : Fn := fun ws M => match ws with
  | [x, y] => match (dec x : Option α), (dec y : Option β) with
    | some a, some b => (f a b).map fun c => (enc c, M)
    | _, _ => none
  | _ => none
def fn3 {α β γ δ : Type} [Enc α] [Enc β] [Enc γ] [Enc δ] (f : α → β → γ → Option δ) : Fn := fun ws M => match ws with
  | [x, y, z] => match (dec x : Option α), (dec y : Option β), (dec z : Option γ) with
    | some a, some b, some c => (f a b c).map fun d => (enc d, M)
    | _, _, _ => none
  | _ => none
theorem fn1_eq {α β : Type} [Enc α] [Enc β] (f : α → Option β) (a : α) (M : Mem) : fn1 f [enc a] M = (f a).map fun b => (enc b, M) := by
  unfold fn1; simp only [dec_enc]
theorem fn2_eq {α β γ : Type} [Enc α] [Enc β] [Enc γ] (f : α → β → Option γ) (a : α) (b : β) (M : Mem) : fn2 f [enc a, enc b] M = (f a b).map fun c => (enc c, M) := by
  unfold fn2; simp only [dec_enc]
theorem fn3_eq {α β γ δ : Type} [Enc α] [Enc β] [Enc γ] [Enc δ] (f : α → β → γ → Option δ) (a : α) (b : β) (c : γ) (M : Mem) : fn3 f [enc a, enc b, enc c] M = (f a b c).map fun d => (enc d, M) := by
  unfold fn3; simp only [dec_enc]
theorem keeps1 {α β : Type} [Enc α] [Enc β] {f : α → Option β} {n : Nat} {body : CS} (h : ∀ a b M, f a = some b → ∃ g, body (some (enc a) :: List.replicate (n - 1) none) M = some (.rt (enc b) (M ++ g))) : Keeps n body (fn1 f) := by
  refine KeepsP.keeps ?_
  intro ws M w M' hc hw e
  unfold fn1 at e
  split at e
  · split at e
    · rename_i x _ a ha
      obtain ⟨b, hb, e⟩ := Option.map_eq_some_iff.mp e
      cases e
      obtain ⟨g, hg⟩ := h a b M hb
      rw [enc_dec _ _ ha]
      exact ⟨g, .inl hg, Nat.le_refl _, hc, enc_closed b _⟩
    · cases e
  · cases e
theorem keeps2 {α β γ : Type} [Enc α] [Enc β] [Enc γ] {f : α → β → Option γ} {n : Nat} {body : CS}
    (h : ∀ a b c M, f a b = some c → ∃ g, body (some (enc a) :: some (enc b) :: List.replicate (n - 2) none) M = some (.rt (enc c) (M ++ g))) : Keeps n body (fn2 f) := by
  refine KeepsP.keeps ?_
  intro ws M w M' hc hw e
  unfold fn2 at e
  split at e
  · split at e
    · rename_i x y _ _ a b ha hb
      obtain ⟨c, hcc, e⟩ := Option.map_eq_some_iff.mp e
      cases e
      obtain ⟨g, hg⟩ := h a b c M hcc
      rw [enc_dec _ _ ha, enc_dec _ _ hb]
      exact ⟨g, .inl hg, Nat.le_refl _, hc, enc_closed c _⟩
    · cases e
  · cases e
theorem keeps3 {α β γ δ : Type} [Enc α] [Enc β] [Enc γ] [Enc δ] {f : α → β → γ → Option δ} {n : Nat} {body : CS}
    (h : ∀ a b c d M, f a b c = some d → ∃ g, body (some (enc a) :: some (enc b) :: some (enc c) :: List.replicate (n - 3) none) M = some (.rt (enc d) (M ++ g))) : Keeps n body (fn3 f) := by
  refine KeepsP.keeps ?_
  intro ws M w M' hc hw e
  unfold fn3 at e
  split at e
  · split at e
    · rename_i x y z _ _ _ a b c ha hb hcc
      obtain ⟨d, hd, e⟩ := Option.map_eq_some_iff.mp e
      cases e
      obtain ⟨g, hg⟩ := h a b c d M hd
      rw [enc_dec _ _ ha, enc_dec _ _ hb, enc_dec _ _ hcc]
      exact ⟨g, .inl hg, Nat.le_refl _, hc, enc_closed d _⟩
    · cases e
  · cases e

/-! ### items, slices, ranges in plain words -/
theorem ixW_nat {n j : Nat} (h : j < n) : ixW n (j : Int) = some j := by
  unfold ixW
  rw [if_pos (Int.natCast_nonneg j), if_pos (by omega)]
  simp
@[simp] theorem ixW_0 {n : Nat} : ixW (n + 1) 0 = some 0 := ixW_nat (j := 0) (by omega)
@[simp] theorem ixW_1 {n : Nat} : ixW (n + 2) 1 = some 1 := ixW_nat (j := 1) (by omega)
@[simp] theorem ixW_2 {n : Nat} : ixW (n + 3) 2 = some 2 := ixW_nat (j := 2) (by omega)
theorem sIx_nat (n d k : Nat) : sIx n d (some (k : Int)) = min k n := by
  unfold sIx
  simp only
  rw [if_neg (by omega)]
  simp
theorem cutW_lo {α : Type} (xs : List α) (k : Nat) : cutW xs (some (k : Int)) none = xs.drop k := by
  unfold cutW
  rw [sIx_nat]
  show (xs.drop (min k xs.length)).take (xs.length - min k xs.length) = _
  by_cases h : k ≤ xs.length
  · rw [Nat.min_eq_left h]
    exact List.take_of_length_le (by simp)
  · rw [Nat.min_eq_right (by omega), List.drop_length, List.drop_of_length_le (by omega)]
    simp
theorem cutW_hi {α : Type} (xs : List α) (k : Nat) : cutW xs none (some (k : Int)) = xs.take k := by
  unfold cutW
  rw [sIx_nat]
  show (xs.drop 0).take (min k xs.length - 0) = _
  rw [List.drop_zero, Nat.sub_zero]
  by_cases h : k ≤ xs.length
  · rw [Nat.min_eq_left h]
  · rw [Nat.min_eq_right (by omega), List.take_length, List.take_of_length_le (by omega)]
@[simp] theorem cutW_hi1 {α : Type} (xs : List α) (k : Nat) : cutW xs none (some ((k : Int) + 1)) = xs.take (k + 1) := cutW_hi xs (k + 1)
@[simp] theorem cutW_lo1 {α : Type} (xs : List α) (k : Nat) : cutW xs (some ((k : Int) + 1)) none = xs.drop (k + 1) := cutW_lo xs (k + 1)
@[simp] theorem cutW_hi0 {α : Type} (xs : List α) (k : Nat) : cutW xs none (some (k : Int)) = xs.take k := cutW_hi xs k
@[simp] theorem cutW_lo0 {α : Type} (xs : List α) (k : Nat) : cutW xs (some (k : Int)) none = xs.drop k := cutW_lo xs k
theorem cutW_map {α β : Type} (f : α → β) (xs : List α) (lo hi : Option Int) : cutW (xs.map f) lo hi = (cutW xs lo hi).map f := by
  unfold cutW
  simp [List.map_take, List.map_drop]
end BF

set_option Elab.async false
set_option linter.all false
set_option autoImplicit false
set_option maxRecDepth 10000
/-! Loops and comprehensions by an invariant; the tape. -/
namespace BF
open PySem Enc

theorem forL_ind {gd : Mem → Bool} {g : CG} {body : CS} (ws : List W) (P : Nat → Sl → Mem → Prop) {σ : Sl} {M : Mem} (h0 : P 0 σ M) (hg : ∀ i σ M, P i σ M → gd M = true)
    (step : ∀ i w σ M, ws[i]? = some w → P i σ M → ∃ σ1, g w σ = some σ1 ∧ ∃ σ2 M2, (body σ1 M = some (.nx σ2 M2) ∨ body σ1 M = some (.ct σ2 M2)) ∧ P (i + 1) σ2 M2) :
    ∃ σ' M', forL gd g body ws σ M = some (.nx σ' M') ∧ P ws.length σ' M' := by
  induction ws generalizing P σ M with
  | nil => exact ⟨σ, M, by rw [forL, if_pos (hg 0 σ M h0)], h0⟩
  | cons w ws ih =>
    obtain ⟨σ1, h1, σ2, M2, h2, h3⟩ := step 0 w σ M rfl h0
    obtain ⟨σ', M', e, p⟩ := ih (fun i => P (i + 1)) h3 (fun i => hg (i + 1)) fun i w' σ M hw hp => step (i + 1) w' σ M hw hp
    refine ⟨σ', M', ?_, p⟩
    rw [forL, if_pos (hg 0 σ M h0), h1]
    rcases h2 with h2 | h2
    · show (body σ1 M).bind _ = _
      rw [h2]; exact e
    · show (body σ1 M).bind _ = _
      rw [h2]; exact e
def contO (gd : Mem → Bool) (g : CG) (body : CS) (ws : List W) : Out → Option Out
  | .nx σ' M' => forL gd g body ws σ' M'
  | .ct σ' M' => forL gd g body ws σ' M'
  | .bk σ' M' => some (.nx σ' M')
  | .rt w M' => some (.rt w M')
theorem forL_cons {gd : Mem → Bool} {g : CG} {body : CS} {w : W} {ws : List W} {σ σ1 : Sl} {M : Mem} {o : Out} (h0 : gd M = true) (h1 : g w σ = some σ1) (h2 : body σ1 M = some o) : forL gd g body (w :: ws) σ M = contO gd g body ws o := by
  rw [forL, if_pos h0, h1]
  show (body σ1 M).bind _ = _
  rw [h2]
  cases o <;> rfl
theorem forL_nil {gd : Mem → Bool} {g : CG} {body : CS} {σ : Sl} {M : Mem} (h0 : gd M = true) : forL gd g body [] σ M = some (.nx σ M) := by rw [forL, if_pos h0]
/-- a loop whose turns may return -/
theorem forL_ret {gd : Mem → Bool} {g : CG} {body : CS} (ws : List W) (P : Nat → Sl → Mem → Prop) (R : W → Mem → Prop) {σ : Sl} {M : Mem} (h0 : P 0 σ M) (hg : ∀ i σ M, P i σ M → gd M = true)
    (step : ∀ i w σ M, ws[i]? = some w → P i σ M → ∃ σ1, g w σ = some σ1 ∧ ∃ o, body σ1 M = some o ∧ match o with
      | .nx σ2 M2 => P (i + 1) σ2 M2
      | .ct σ2 M2 => P (i + 1) σ2 M2
      | .bk _ _ => False
      | .rt v M2 => R v M2) :
    (∃ σ' M', forL gd g body ws σ M = some (.nx σ' M') ∧ P ws.length σ' M') ∨ ∃ v M', forL gd g body ws σ M = some (.rt v M') ∧ R v M' := by
  induction ws generalizing P σ M with
  | nil => exact .inl ⟨σ, M, by rw [forL, if_pos (hg 0 σ M h0)], h0⟩
  | cons w ws ih =>
    obtain ⟨σ1, h1, o, h2, h3⟩ := step 0 w σ M rfl h0
    rw [forL_cons (hg 0 σ M h0) h1 h2]
    cases o with
    | nx σ2 M2 => exact ih (fun i => P (i + 1)) h3 (fun i => hg (i + 1)) fun i w' σ M hw hp => step (i + 1) w' σ M hw hp
    | ct σ2 M2 => exact ih (fun i => P (i + 1)) h3 (fun i => hg (i + 1)) fun i w' σ M hw hp => step (i + 1) w' σ M hw hp
    | bk σ2 M2 => exact h3.elim
    | rt v M2 => exact .inr ⟨v, M2, rfl, h3⟩
theorem lcL_ind {gd : Mem → Bool} {g : CG} {t : CT} {e : CE} {vs : List Nat} {σ : Sl} {D : Nat} (ws : List W) (P : Nat → List W → Mem → Prop) {M : Mem} {acc0 : List W} (h0 : P 0 acc0 M) (hg : ∀ i acc M, P i acc M → gd M = true)
    (step : ∀ i w acc M, ws[i]? = some w → P i acc M → ∃ σ1, g w (wipe σ vs) = some σ1 ∧ ∃ b M1, t σ1 M = some (b, M1) ∧
      if b = true then ∃ x M2, e σ1 M1 = some (x, M2) ∧ M2[D]? = some (.lst acc) ∧ acc.length < 16777216 ∧ P (i + 1) (acc ++ [x]) (M2.set D (.lst (acc ++ [x]))) else P (i + 1) acc M1) :
    ∃ M' acc, lcL gd g t e vs σ D ws M = some M' ∧ P ws.length acc M' := by
  induction ws generalizing P M acc0 with
  | nil => exact ⟨M, acc0, by rw [lcL, if_pos (hg 0 acc0 M h0)], h0⟩
  | cons w ws ih =>
    obtain ⟨σ1, h1, b, M1, h2, h3⟩ := step 0 w acc0 M rfl h0
    have go : ∀ {M2 : Mem} {acc2 : List W}, P 1 acc2 M2 → ∃ M' acc, lcL gd g t e vs σ D ws M2 = some M' ∧ P (w :: ws).length acc M' := fun {M2 acc2} hp =>
      ih (fun i => P (i + 1)) hp (fun i => hg (i + 1)) fun i w' acc M hw hp => step (i + 1) w' acc M hw hp
    have e0 : lcL gd g t e vs σ D (w :: ws) M = (if b = true then
        (e σ1 M1).bind fun q => match q.2[D]? with
          | some (.lst acc) => if acc.length < 16777216 then lcL gd g t e vs σ D ws (q.2.set D (.lst (acc ++ [q.1]))) else none
          | _ => none
      else lcL gd g t e vs σ D ws M1) := by
      rw [lcL, if_pos (hg 0 acc0 M h0), h1]
      show (t σ1 M).bind _ = _
      rw [h2]; rfl
    rw [e0]
    split at h3
    · rename_i hb
      obtain ⟨x, M2, h4, h5, h6, h7⟩ := h3
      rw [if_pos hb, h4]
      show ∃ M' acc, (match M2[D]? with
        | some (.lst acc) => if acc.length < 16777216 then lcL gd g t e vs σ D ws (M2.set D (.lst (acc ++ [x]))) else none
        | _ => none) = some M' ∧ _
      rw [h5]
      simp only [if_pos h6]
      exact go h7
    · rename_i hb
      rw [if_neg hb]
      exact go h3
/-- items that change nothing: their values in a row -/
theorem lcL_pure {gd : Mem → Bool} {g : CG} {e : CE} {vs : List Nat} {σ : Sl} (ws : List W) (f : W → W) (M : Mem) (acc0 : List W) (hl : acc0.length + ws.length ≤ 16777216) (hg : ∀ l, gd (M ++ [.lst l]) = true)
    (h : ∀ w ∈ ws, ∀ l, ∃ σ1, g w (wipe σ vs) = some σ1 ∧ e σ1 (M ++ [.lst l]) = some (f w, M ++ [.lst l])) :
    lcL gd g tTrue e vs σ M.length ws (M ++ [.lst acc0]) = some (M ++ [.lst (acc0 ++ ws.map f)]) := by
  induction ws generalizing acc0 with
  | nil => rw [lcL, if_pos (hg _)]; simp
  | cons w ws ih =>
    obtain ⟨σ1, h1, h2⟩ := h w List.mem_cons_self acc0
    rw [lcL, if_pos (hg _), h1]
    simp only [List.length_cons] at hl
    simp only [Option.bind_some, tTrue_eq, if_true, h2]
    rw [show (M ++ [MO.lst acc0])[M.length]? = some (.lst acc0) by simp]
    simp only [if_pos (show acc0.length < 16777216 by omega)]
    rw [show (M ++ [MO.lst acc0]).set M.length (.lst (acc0 ++ [f w])) = M ++ [.lst (acc0 ++ [f w])] by simp]
    rw [ih (acc0 ++ [f w]) (by simp; omega) fun w' hw l => h w' (List.mem_cons_of_mem _ hw) l]
    simp
/-- .. with a test -/
theorem lcL_filter {gd : Mem → Bool} {g : CG} {t : CT} {e : CE} {vs : List Nat} {σ : Sl} (ws : List W) (f : W → W) (p : W → Bool) (M : Mem) (acc0 : List W) (hl : acc0.length + ws.length ≤ 16777216) (hg : ∀ l, gd (M ++ [.lst l]) = true)
    (h : ∀ w ∈ ws, ∀ l, ∃ σ1, g w (wipe σ vs) = some σ1 ∧ t σ1 (M ++ [.lst l]) = some (p w, M ++ [.lst l]) ∧ (p w = true → e σ1 (M ++ [.lst l]) = some (f w, M ++ [.lst l]))) :
    lcL gd g t e vs σ M.length ws (M ++ [.lst acc0]) = some (M ++ [.lst (acc0 ++ (ws.filter p).map f)]) := by
  induction ws generalizing acc0 with
  | nil => rw [lcL, if_pos (hg _)]; simp
  | cons w ws ih =>
    obtain ⟨σ1, h1, h2, h3⟩ := h w List.mem_cons_self acc0
    rw [lcL, if_pos (hg _), h1]
    simp only [List.length_cons] at hl
    simp only [Option.bind_some, h2]
    by_cases hp : p w = true
    · rw [if_pos hp, h3 hp]
      simp only [Option.bind_some]
      rw [show (M ++ [MO.lst acc0])[M.length]? = some (.lst acc0) by simp]
      simp only [if_pos (show acc0.length < 16777216 by omega)]
      rw [show (M ++ [MO.lst acc0]).set M.length (.lst (acc0 ++ [f w])) = M ++ [.lst (acc0 ++ [f w])] by simp]
      rw [ih (acc0 ++ [f w]) (by simp; omega) fun w' hw l => h w' (List.mem_cons_of_mem _ hw) l, List.filter_cons_of_pos hp]
      simp
    · rw [if_neg hp, ih acc0 (by omega) fun w' hw l => h w' (List.mem_cons_of_mem _ hw) l, List.filter_cons_of_neg hp]

/-! ### the tape -/
/-- the place and the rest of the tape -/
abbrev Dr := Int × Int
def mixT (cell i : Int) : Int :=
  let c := (cell + 1000003 * i) % 2305843009213693951
  let c := (c * c + 1181783497276652981 * c + 2049848353892358983) % 2305843009213693951
  (c * c + 1442695040888963407) % 2305843009213693951
def nextT (ns : List Int) (i : Int) : Int :=
  let cell := if 0 < ns.length then ns.getD (i % ns.length).toNat 0 else 0
  if (ns.length : Int) ≤ i ∨ cell < 10 ^ 18 then mixT cell i else cell
def drawD (ns : List Int) (many : Nat) (s : Dr) : Nat × Dr :=
  let s := if s.2 < many then (s.1 + 1, nextT ns s.1) else s
  ((s.2 % many).toNat, (s.1, s.2 / many))
theorem drawD_lt (ns : List Int) {many : Nat} (s : Dr) (h : 0 < many) : (drawD ns many s).1 < many := by
  unfold drawD
  simp only
  have h1 := Int.emod_nonneg (if s.2 < (many : Int) then (s.1 + 1, nextT ns s.1) else s).2 (show (many : Int) ≠ 0 by omega)
  have h2 := Int.emod_lt_of_pos (if s.2 < (many : Int) then (s.1 + 1, nextT ns s.1) else s).2 (show (0 : Int) < many by omega)
  omega
/-- the memory while a law runs: the script, its copy, the tape -/
def TM (ns : List Int) (s : Dr) (g : Mem) : Mem := .ro (ns.map W.int) :: .lst (ns.map W.int) :: .lst [.ref 1, .int s.1, .int s.2] :: g
/-- promises of defs that draw -/
def withTM {α : Type} (M : Mem) (f : List Int → Dr → Mem → Option α) : Option α := match M with
  | .ro us :: .lst vs :: .lst [.ref 1, .int i, .int c] :: g => match asInts us, asInts vs with
    | some ns, some ms => if ns = ms then f ns (i, c) g else none
    | _, _ => none
  | _ => none
theorem withTM_eq {α : Type} (ns : List Int) (s : Dr) (g : Mem) (f : List Int → Dr → Mem → Option α) : withTM (TM ns s g) f = f ns s g := by
  unfold withTM TM
  simp only [asInts_map, if_true]
theorem withTM_some {α : Type} {M : Mem} {f : List Int → Dr → Mem → Option α} {a : α} (h : withTM M f = some a) : ∃ ns s g, M = TM ns s g ∧ f ns s g = some a := by
  unfold withTM at h
  split at h
  · split at h
    · rename_i h1 h2
      split at h
      · rename_i e
        subst e
        exact ⟨_, _, _, by rw [asInts_some h1, asInts_some h2]; rfl, h⟩
      · cases h
    · cases h
  · cases h
def fnT1 {α β : Type} [Enc α] [Enc β] (f : α → List Int → Dr → Option (β × Dr)) : Fn := fun ws M => match ws with
  | [.ref 2, x] => match (dec x : Option α) with
    | some a => withTM M fun ns s g => (f a ns s).map fun p => (enc p.1, TM ns p.2 g)
    | none => none
  | _ => none
def fnT2 {α β γ : Type} [Enc α] [Enc β] [Enc γ] (f : α → β → List Int → Dr → Option (γ × Dr)) : Fn := fun ws M => match ws with
  | [.ref 2, x, y] => match (dec x : Option α), (dec y : Option β) with
    | some a, some b => withTM M fun ns s g => (f a b ns s).map fun p => (enc p.1, TM ns p.2 g)
    | _, _ => none
  | _ => none
def fnT3 {α β γ δ : Type} [Enc α] [Enc β] [Enc γ] [Enc δ] (f : α → β → γ → List Int → Dr → Option (δ × Dr)) : Fn := fun ws M => match ws with
  | [.ref 2, x, y, z] => match (dec x : Option α), (dec y : Option β), (dec z : Option γ) with
    | some a, some b, some c => withTM M fun ns s g => (f a b c ns s).map fun p => (enc p.1, TM ns p.2 g)
    | _, _, _ => none
  | _ => none
theorem fnT1_eq {α β : Type} [Enc α] [Enc β] (f : α → List Int → Dr → Option (β × Dr)) (a : α) (ns : List Int) (s : Dr) (g : Mem) : fnT1 f [.ref 2, enc a] (TM ns s g) = (f a ns s).map fun p => (enc p.1, TM ns p.2 g) := by
  unfold fnT1
  simp only [dec_enc, withTM_eq]
theorem fnT2_eq {α β γ : Type} [Enc α] [Enc β] [Enc γ] (f : α → β → List Int → Dr → Option (γ × Dr)) (a : α) (b : β) (ns : List Int) (s : Dr) (g : Mem) : fnT2 f [.ref 2, enc a, enc b] (TM ns s g) = (f a b ns s).map fun p => (enc p.1, TM ns p.2 g) := by
  unfold fnT2
  simp only [dec_enc, withTM_eq]
theorem fnT3_eq {α β γ δ : Type} [Enc α] [Enc β] [Enc γ] [Enc δ] (f : α → β → γ → List Int → Dr → Option (δ × Dr)) (a : α) (b : β) (c : γ) (ns : List Int) (s : Dr) (g : Mem) : fnT3 f [.ref 2, enc a, enc b, enc c] (TM ns s g) = (f a b c ns s).map fun p => (enc p.1, TM ns p.2 g) := by
  unfold fnT3
  simp only [dec_enc, withTM_eq]
theorem closeds_ints (ns : List Int) (k : Nat) : W.closeds k (ns.map W.int) = true := by
  induction ns with
  | nil => rfl
  | cons n ns ih => rw [List.map_cons, W.closeds, ih]; rfl
theorem closed_TM {ns : List Int} {s s' : Dr} {g : Mem} (h : Closed (TM ns s g)) : Closed (TM ns s' g) := by
  intro mo hm
  have hl : (TM ns s' g).length = (TM ns s g).length := rfl
  rw [hl]
  rcases List.mem_cons.mp hm with rfl | hm
  · exact closeds_ints ns _
  rcases List.mem_cons.mp hm with rfl | hm
  · exact closeds_ints ns _
  rcases List.mem_cons.mp hm with rfl | hm
  · show W.closeds _ [.ref 1, .int s'.1, .int s'.2] = true
    simp [W.closeds, W.closed, TM]
  · exact h mo (List.mem_cons_of_mem _ (List.mem_cons_of_mem _ (List.mem_cons_of_mem _ hm)))
@[simp high] theorem TM_get0 (ns : List Int) (s : Dr) (g : Mem) : (TM ns s g)[0]? = some (.ro (ns.map W.int)) := nr rfl
@[simp high] theorem TM_get1 (ns : List Int) (s : Dr) (g : Mem) : (TM ns s g)[1]? = some (.lst (ns.map W.int)) := nr rfl
@[simp high] theorem TM_get2 (ns : List Int) (s : Dr) (g : Mem) : (TM ns s g)[2]? = some (.lst [.ref 1, .int s.1, .int s.2]) := nr rfl
@[simp high] theorem TM_get3 (ns : List Int) (s : Dr) (g : Mem) (n : Nat) : (TM ns s g)[n + 3]? = g[n]? := nr rfl
@[simp] theorem TM_set3 (ns : List Int) (s : Dr) (g : Mem) (n : Nat) (x : MO) : (TM ns s g).set (n + 3) x = TM ns s (g.set n x) := nr rfl
@[simp] theorem TM_prefix (ns : List Int) (s : Dr) (g g' : Mem) : TM ns s g <+: TM ns s (g ++ g') := ⟨g', rfl⟩
@[simp] theorem TM_append (ns : List Int) (s : Dr) (g g' : Mem) : TM ns s g ++ g' = TM ns s (g ++ g') := nr rfl
@[simp] theorem TM_length (ns : List Int) (s : Dr) (g : Mem) : (TM ns s g).length = g.length + 3 := nr rfl
theorem keepsT1 {α β : Type} [Enc α] [Enc β] {f : α → List Int → Dr → Option (β × Dr)} {n : Nat} {body : CS}
    (h : ∀ a ns s g b s', f a ns s = some (b, s') → ∃ g', body (some (.ref 2) :: some (enc a) :: List.replicate (n - 2) none) (TM ns s g) = some (.rt (enc b) (TM ns s' (g ++ g')))) : Keeps n body (fnT1 f) := by
  refine KeepsP.keeps ?_
  intro ws M w M' hc hw e
  unfold fnT1 at e
  split at e
  · split at e
    · rename_i x _ a ha
      obtain ⟨ns, s, g, eM, e2⟩ := withTM_some e
      subst eM
      obtain ⟨⟨b, s'⟩, hb, e3⟩ := Option.map_eq_some_iff.mp e2
      cases e3
      obtain ⟨g', hg⟩ := h a ns s g b s' hb
      rw [enc_dec _ _ ha]
      exact ⟨g', .inl hg, Nat.le_refl _, closed_TM hc, enc_closed b _⟩
    · cases e
  · cases e
theorem keepsT2 {α β γ : Type} [Enc α] [Enc β] [Enc γ] {f : α → β → List Int → Dr → Option (γ × Dr)} {n : Nat} {body : CS}
    (h : ∀ a b ns s g c s', f a b ns s = some (c, s') → ∃ g', body (some (.ref 2) :: some (enc a) :: some (enc b) :: List.replicate (n - 3) none) (TM ns s g) = some (.rt (enc c) (TM ns s' (g ++ g')))) : Keeps n body (fnT2 f) := by
  refine KeepsP.keeps ?_
  intro ws M w M' hc hw e
  unfold fnT2 at e
  split at e
  · split at e
    · rename_i x y _ _ a b ha hb
      obtain ⟨ns, s, g, eM, e2⟩ := withTM_some e
      subst eM
      obtain ⟨⟨c, s'⟩, hcc, e3⟩ := Option.map_eq_some_iff.mp e2
      cases e3
      obtain ⟨g', hg⟩ := h a b ns s g c s' hcc
      rw [enc_dec _ _ ha, enc_dec _ _ hb]
      exact ⟨g', .inl hg, Nat.le_refl _, closed_TM hc, enc_closed c _⟩
    · cases e
  · cases e
theorem keepsT3 {α β γ δ : Type} [Enc α] [Enc β] [Enc γ] [Enc δ] {f : α → β → γ → List Int → Dr → Option (δ × Dr)} {n : Nat} {body : CS}
    (h : ∀ a b c ns s g d s', f a b c ns s = some (d, s') → ∃ g', body (some (.ref 2) :: some (enc a) :: some (enc b) :: some (enc c) :: List.replicate (n - 4) none) (TM ns s g) = some (.rt (enc d) (TM ns s' (g ++ g')))) : Keeps n body (fnT3 f) := by
  refine KeepsP.keeps ?_
  intro ws M w M' hc hw e
  unfold fnT3 at e
  split at e
  · split at e
    · rename_i x y z _ _ _ a b c ha hb hz
      obtain ⟨ns, s, g, eM, e2⟩ := withTM_some e
      subst eM
      obtain ⟨⟨d, s'⟩, hcc, e3⟩ := Option.map_eq_some_iff.mp e2
      cases e3
      obtain ⟨g', hg⟩ := h a b c ns s g d s' hcc
      rw [enc_dec _ _ ha, enc_dec _ _ hb, enc_dec _ _ hz]
      exact ⟨g', .inl hg, Nat.le_refl _, closed_TM hc, enc_closed d _⟩
    · cases e
  · cases e

/-! ### lists of encoded values -/
theorem toD_lst {α : Type} [Enc α] (M : Mem) (n : Nat) (as : List α) (h : M[n]? = some (.lst (as.map enc)) ∨ M[n]? = some (.ro (as.map enc))) (hd : dep α ≤ 63) : toD M 64 (.ref n) = some (.list (as.map fun a => dP (enc a))) := by
  have e : mapO (toD M 63) (as.map enc) = some (as.map fun a => dP (enc a)) := mapO_map (fun a => toD_P M 63 _ (okW_mono _ _ (ok a) 63 hd)) as
  rw [toD]
  rcases h with h | h
  · rw [h]; simp only [e]; rfl
  · rw [h]; simp only [e]; rfl
theorem eqvAll_map {α : Type} [Enc α] (hd : dep α ≤ 63) : ∀ as bs : List α, PyData.eqvAll (as.map fun a => dP (enc a)) (bs.map fun a => dP (enc a)) = true ↔ as = bs
  | [], [] => by simp [PyData.eqvAll]
  | [], _ :: _ => by simp [PyData.eqvAll]
  | _ :: _, [] => by simp [PyData.eqvAll]
  | a :: as, b :: bs => by
    rw [List.map_cons, List.map_cons, PyData.eqvAll, Bool.and_eq_true, eqvAll_map hd as bs, eqv_P 63 _ _ (okW_mono _ _ (ok a) 63 hd) (okW_mono _ _ (ok b) 63 hd), eqE]
    simp
theorem eqW_lst {α : Type} [Enc α] [DecidableEq α] (M : Mem) (n m : Nat) (as bs : List α) (h1 : M[n]? = some (.lst (as.map enc))) (h2 : M[m]? = some (.lst (bs.map enc))) (hd : dep α ≤ 63 := by decide) : eqW M (.ref n) (.ref m) = some (decide (as = bs)) := by
  unfold eqW
  rw [toD_lst M n as (.inl h1) hd, toD_lst M m bs (.inl h2) hd]
  show some (PyData.eqv (.list _) (.list _)) = some _
  congr 1
  simp only [PyData.eqv]
  rw [Bool.eq_iff_iff, eqvAll_map hd, decide_eq_true_eq]

/-! ### sequences: a list or a tuple -/
def seqW (M : Mem) : W → Option (Bool × List W)
  | .tup ws => some (false, ws)
  | .ref n => match M[n]? with
    | some (.lst ws) => some (true, ws)
    | some (.ro ws) => some (true, ws)
    | _ => none
  | _ => none
def isScal : W → Bool
  | .non | .bl _ | .int _ | .str _ => true
  | _ => false
def isBl : W → Bool
  | .bl _ => true
  | _ => false
section
variable {M : Mem} {x : W} {b : Bool} {ws : List W}
theorem seqW_cases (h : seqW M x = some (b, ws)) : (x = .tup ws ∧ b = false) ∨ ∃ n, x = .ref n ∧ b = true ∧ (M[n]? = some (.lst ws) ∨ M[n]? = some (.ro ws)) := by
  unfold seqW at h
  split at h
  · cases h; exact .inl ⟨rfl, rfl⟩
  · split at h
    · rename_i e; cases h; exact .inr ⟨_, rfl, rfl, .inl e⟩
    · rename_i e; cases h; exact .inr ⟨_, rfl, rfl, .inr e⟩
    · cases h
  · cases h
theorem get_app {g : Mem} {n : Nat} {mo : MO} (h : M[n]? = some mo) : (M ++ g)[n]? = some mo := by
  rw [List.getElem?_append_left (List.getElem?_eq_some_iff.mp h).1]; exact h
theorem seqW_app {g : Mem} (h : seqW M x = some (b, ws)) : seqW (M ++ g) x = some (b, ws) := by
  rcases seqW_cases h with ⟨rfl, rfl⟩ | ⟨n, rfl, rfl, h | h⟩
  · rfl
  · simp [seqW, get_app h]
  · simp [seqW, get_app h]
theorem isi2_seq (h : seqW M x = some (b, ws)) : gIsi2 "list" "tuple" M x = some (.bl true, M) := by
  rcases seqW_cases h with ⟨rfl, rfl⟩ | ⟨n, rfl, rfl, h | h⟩
  · rfl
  · simp [gIsi2, tyW, h, isTy]
  · simp [gIsi2, tyW, h, isTy]
theorem isiL_seq (h : seqW M x = some (b, ws)) : gIsi "list" M x = some (.bl b, M) := by
  rcases seqW_cases h with ⟨rfl, rfl⟩ | ⟨n, rfl, rfl, h | h⟩
  · rfl
  · simp [gIsi, tyW, h, isTy]
  · simp [gIsi, tyW, h, isTy]
theorem isiT_seq (h : seqW M x = some (b, ws)) : gIsi "tuple" M x = some (.bl (!b), M) := by
  rcases seqW_cases h with ⟨rfl, rfl⟩ | ⟨n, rfl, rfl, h | h⟩
  · rfl
  · simp [gIsi, tyW, h, isTy]
  · simp [gIsi, tyW, h, isTy]
theorem len_seq (h : seqW M x = some (b, ws)) : pLen [x] M = some (.int ws.length, M) := by
  rcases seqW_cases h with ⟨rfl, rfl⟩ | ⟨n, rfl, rfl, h | h⟩
  · rfl
  · simp [h]
  · simp [h]
theorem ix_seq' (h : seqW M x = some (b, ws)) {k : Nat} {w : W} (hk : ws[k]? = some w) : gIx M x (.int k) = some (w, M) := by
  have hlt : k < ws.length := (List.getElem?_eq_some_iff.mp hk).1
  rcases seqW_cases h with ⟨rfl, rfl⟩ | ⟨n, rfl, rfl, h | h⟩
  · simp [ixW_nat hlt, hk]
  · simp [h, ixW_nat hlt, hk]
  · simp [h, ixW_nat hlt, hk]
theorem isi2_scal (h : isScal x = true) : gIsi2 "list" "tuple" M x = some (.bl false, M) := by cases x <;> first | rfl | cases h
theorem isiL_scal (h : isScal x = true) : gIsi "list" M x = some (.bl false, M) := by cases x <;> first | rfl | cases h
theorem isiT_scal (h : isScal x = true) : gIsi "tuple" M x = some (.bl false, M) := by cases x <;> first | rfl | cases h
theorem isiB_scal (h : isScal x = true) : gIsi "bool" M x = some (.bl (isBl x), M) := by cases x <;> first | rfl | cases h
end
theorem mapO_at {α β : Type} {f : α → Option β} : ∀ {as : List α} {bs : List β}, mapO f as = some bs → bs.length = as.length ∧ ∀ (i : Nat) (a : α), as[i]? = some a → ∃ b, bs[i]? = some b ∧ f a = some b
  | [], bs, h => by cases h; exact ⟨rfl, fun i a h => by simp at h⟩
  | a :: as, bs, h => by
    rw [mapO] at h
    split at h
    · rename_i b bs' h1 h2
      cases h
      obtain ⟨l, e⟩ := mapO_at h2
      refine ⟨by simp [l], fun i a' hi => ?_⟩
      cases i with
      | zero => simp at hi; subst hi; exact ⟨b, rfl, h1⟩
      | succ i => simpa using e i a' (by simpa using hi)
    · cases h
theorem rangeW_mem {lo : Int} {n : Nat} {w : W} (h : w ∈ rangeW lo n) : ∃ i, i < n ∧ w = .int (lo + (i : Nat)) := by
  unfold rangeW at h
  obtain ⟨i, hi, rfl⟩ := List.mem_map.mp h
  exact ⟨i, List.mem_range.mp hi, rfl⟩

/-! ### promises of defs that hand back a new list -/
mutual
theorem W.closed_mono {k j : Nat} (h : k ≤ j) : ∀ w : W, w.closed k = true → w.closed j = true
  | .ref n, c => by rw [W.closed] at c ⊢; exact decide_eq_true (Nat.lt_of_lt_of_le (of_decide_eq_true c) h)
  | .tup ws, c => by rw [W.closed] at c ⊢; exact W.closeds_mono h ws c
  | .non, _ => rfl
  | .bl _, _ => rfl
  | .int _, _ => rfl
  | .str _, _ => rfl
theorem W.closeds_mono {k j : Nat} (h : k ≤ j) : ∀ ws : List W, W.closeds k ws = true → W.closeds j ws = true
  | [], _ => rfl
  | w :: ws, c => by
    rw [W.closeds, Bool.and_eq_true] at c ⊢
    exact ⟨W.closed_mono h w c.1, W.closeds_mono h ws c.2⟩
end
theorem closed_mono {k j : Nat} {mo : MO} (c : mo.closed k = true) (h : k ≤ j) : mo.closed j = true := by
  cases mo with
  | lst ws => exact W.closeds_mono h ws c
  | ro ws => exact W.closeds_mono h ws c
  | dT m kvs =>
    rw [MO.closed, List.all_eq_true] at c ⊢
    intro p hp
    have := c p hp
    rw [Bool.and_eq_true] at this ⊢
    exact ⟨W.closed_mono h _ this.1, W.closed_mono h _ this.2⟩
  | dK kvs =>
    rw [MO.closed, List.all_eq_true] at c ⊢
    intro p hp
    have := c p hp
    rw [Bool.and_eq_true] at this ⊢
    exact ⟨W.closed_mono h _ this.1, W.closed_mono h _ this.2⟩
theorem closeds_enc {γ : Type} [Enc γ] (cs : List γ) (k : Nat) : W.closeds k (cs.map enc) = true := by
  induction cs with
  | nil => rfl
  | cons c cs ih => rw [List.map_cons, W.closeds, enc_closed, ih]; rfl
theorem closed_app {M g : Mem} (h : Closed M) (hg : ∀ mo ∈ g, mo.closed (M ++ g).length = true) : Closed (M ++ g) := by
  intro mo hm
  rcases List.mem_append.mp hm with hm | hm
  · exact closed_mono (h mo hm) (by simp)
  · exact hg mo hm
/-- the new list stands at n among what the body has laid -/
theorem keeps_new {γ : Type} [Enc γ] {n : Nat} {body : CS} {F : Fn} (h : ∀ ws M w M', F ws M = some (w, M') → ∃ cs : List γ, w = .ref M.length ∧ M' = M ++ [.lst (cs.map enc)] ∧
    ∃ k g, body (ws.map some ++ List.replicate (n - ws.length) none) M = some (.rt (.ref k) (M ++ g)) ∧ M.length ≤ k ∧ (M ++ g)[k]? = some (.lst (cs.map enc))) : Keeps n body F := by
  intro ws M w M' hc _ e
  obtain ⟨cs, rfl, rfl, k, g, h1, h2, h3⟩ := h ws M w M' e
  have hid : ∀ i < M.length, (fun i => if i < M.length then i else k) i = i := fun i hi => if_pos hi
  refine ⟨fun i => if i < M.length then i else k, M ++ g, .inl ?_, hid, fun i mo hi => ?_, fun i j hi hj e => ?_, by simp, ?_, ?_⟩
  · rw [W.ren, if_neg (Nat.lt_irrefl _)]; exact h1
  · by_cases hl : i < M.length
    · rw [List.getElem?_append_left hl] at hi
      rw [MO.ren_eq hid (hc mo (List.mem_of_getElem? hi))]
      show (M ++ g)[if i < M.length then i else k]? = _
      rw [if_pos hl, List.getElem?_append_left hl]; exact hi
    · have e0 : i = M.length := by
        have := (List.getElem?_eq_some_iff.mp hi).1
        simp at this; omega
      subst e0
      simp at hi
      subst hi
      show (M ++ g)[if M.length < M.length then M.length else k]? = _
      rw [if_neg (Nat.lt_irrefl _), MO.ren_eq hid (mo := .lst (cs.map enc)) (closeds_enc cs _)]
      exact h3
  · simp only at e
    simp at hi hj
    split at e <;> split at e <;> omega
  · exact closed_app hc fun mo hm => by
      rw [List.mem_singleton] at hm
      subst hm
      exact closeds_enc cs _
  · rw [W.closed]; simp
def fnL1 {α γ : Type} [Enc α] [Enc γ] (f : α → Option (List γ)) : Fn := fun ws M => match ws with
  | [x] => match (dec x : Option α) with
    | some a => (f a).map fun c => (.ref M.length, M ++ [.lst (c.map enc)])
    | none => none
  | _ => none
def fnL2 {α β γ : Type} [Enc α] [Enc β] [Enc γ] (f : α → β → Option (List γ)) : Fn := fun ws M => match ws with
  | [x, y] => match (dec x : Option α), (dec y : Option β) with
    | some a, some b => (f a b).map fun c => (.ref M.length, M ++ [.lst (c.map enc)])
    | _, _ => none
  | _ => none
def fnL3 {α β δ γ : Type} [Enc α] [Enc β] [Enc δ] [Enc γ] (f : α → β → δ → Option (List γ)) : Fn := fun ws M => match ws with
  | [x, y, z] => match (dec x : Option α), (dec y : Option β), (dec z : Option δ) with
    | some a, some b, some d => (f a b d).map fun c => (.ref M.length, M ++ [.lst (c.map enc)])
    | _, _, _ => none
  | _ => none
theorem fnL1_eq {α γ : Type} [Enc α] [Enc γ] (f : α → Option (List γ)) (a : α) (M : Mem) : fnL1 f [enc a] M = (f a).map fun c => (.ref M.length, M ++ [.lst (c.map enc)]) := by
  unfold fnL1; simp only [dec_enc]
theorem fnL2_eq {α β γ : Type} [Enc α] [Enc β] [Enc γ] (f : α → β → Option (List γ)) (a : α) (b : β) (M : Mem) : fnL2 f [enc a, enc b] M = (f a b).map fun c => (.ref M.length, M ++ [.lst (c.map enc)]) := by
  unfold fnL2; simp only [dec_enc]
theorem fnL3_eq {α β δ γ : Type} [Enc α] [Enc β] [Enc δ] [Enc γ] (f : α → β → δ → Option (List γ)) (a : α) (b : β) (d : δ) (M : Mem) : fnL3 f [enc a, enc b, enc d] M = (f a b d).map fun c => (.ref M.length, M ++ [.lst (c.map enc)]) := by
  unfold fnL3; simp only [dec_enc]
theorem keepsL1 {α γ : Type} [Enc α] [Enc γ] {f : α → Option (List γ)} {n : Nat} {body : CS}
    (h : ∀ a cs M, f a = some cs → ∃ k g, body (some (enc a) :: List.replicate (n - 1) none) M = some (.rt (.ref k) (M ++ g)) ∧ M.length ≤ k ∧ (M ++ g)[k]? = some (.lst (cs.map enc))) : Keeps n body (fnL1 f) := by
  refine keeps_new (γ := γ) fun ws M w M' e => ?_
  unfold fnL1 at e
  split at e
  · split at e
    · rename_i x _ a ha
      obtain ⟨c, hcc, e2⟩ := Option.map_eq_some_iff.mp e
      cases e2
      rw [enc_dec _ _ ha]
      exact ⟨c, rfl, rfl, h a c M hcc⟩
    · cases e
  · cases e
theorem keepsL2 {α β γ : Type} [Enc α] [Enc β] [Enc γ] {f : α → β → Option (List γ)} {n : Nat} {body : CS}
    (h : ∀ a b cs M, f a b = some cs → ∃ k g, body (some (enc a) :: some (enc b) :: List.replicate (n - 2) none) M = some (.rt (.ref k) (M ++ g)) ∧ M.length ≤ k ∧ (M ++ g)[k]? = some (.lst (cs.map enc))) : Keeps n body (fnL2 f) := by
  refine keeps_new (γ := γ) fun ws M w M' e => ?_
  unfold fnL2 at e
  split at e
  · split at e
    · rename_i x y _ _ a b ha hb
      obtain ⟨c, hcc, e2⟩ := Option.map_eq_some_iff.mp e
      cases e2
      rw [enc_dec _ _ ha, enc_dec _ _ hb]
      exact ⟨c, rfl, rfl, h a b c M hcc⟩
    · cases e
  · cases e
theorem keepsL3 {α β δ γ : Type} [Enc α] [Enc β] [Enc δ] [Enc γ] {f : α → β → δ → Option (List γ)} {n : Nat} {body : CS}
    (h : ∀ a b d cs M, f a b d = some cs → ∃ k g, body (some (enc a) :: some (enc b) :: some (enc d) :: List.replicate (n - 3) none) M = some (.rt (.ref k) (M ++ g)) ∧ M.length ≤ k ∧ (M ++ g)[k]? = some (.lst (cs.map enc))) : Keeps n body (fnL3 f) := by
  refine keeps_new (γ := γ) fun ws M w M' e => ?_
  unfold fnL3 at e
  split at e
  · split at e
    · rename_i x y z _ _ _ a b d ha hb hd
      obtain ⟨c, hcc, e2⟩ := Option.map_eq_some_iff.mp e
      cases e2
      rw [enc_dec _ _ ha, enc_dec _ _ hb, enc_dec _ _ hd]
      exact ⟨c, rfl, rfl, h a b d c M hcc⟩
    · cases e
  · cases e

/-! ### .. with what was laid left open -/
theorem keeps1p {α β : Type} [Enc α] [Enc β] {f : α → Option β} {n : Nat} {body : CS} (h : ∀ a b M, f a = some b → ∃ M2, body (some (enc a) :: List.replicate (n - 1) none) M = some (.rt (enc b) M2) ∧ M <+: M2) : Keeps n body (fn1 f) :=
  keeps1 fun a b M e => by
    obtain ⟨M2, h1, g, rfl⟩ := h a b M e
    exact ⟨g, h1⟩
theorem keeps2p {α β γ : Type} [Enc α] [Enc β] [Enc γ] {f : α → β → Option γ} {n : Nat} {body : CS}
    (h : ∀ a b c M, f a b = some c → ∃ M2, body (some (enc a) :: some (enc b) :: List.replicate (n - 2) none) M = some (.rt (enc c) M2) ∧ M <+: M2) : Keeps n body (fn2 f) :=
  keeps2 fun a b c M e => by
    obtain ⟨M2, h1, g, rfl⟩ := h a b c M e
    exact ⟨g, h1⟩
theorem keeps3p {α β γ δ : Type} [Enc α] [Enc β] [Enc γ] [Enc δ] {f : α → β → γ → Option δ} {n : Nat} {body : CS}
    (h : ∀ a b c d M, f a b c = some d → ∃ M2, body (some (enc a) :: some (enc b) :: some (enc c) :: List.replicate (n - 3) none) M = some (.rt (enc d) M2) ∧ M <+: M2) : Keeps n body (fn3 f) :=
  keeps3 fun a b c d M e => by
    obtain ⟨M2, h1, g, rfl⟩ := h a b c d M e
    exact ⟨g, h1⟩
theorem TM_pre {ns : List Int} {s : Dr} {g M2 : Mem} (h : TM ns s g <+: M2) : ∃ g', M2 = TM ns s (g ++ g') := by
  obtain ⟨g', rfl⟩ := h
  exact ⟨g', rfl⟩
theorem keepsT1p {α β : Type} [Enc α] [Enc β] {f : α → List Int → Dr → Option (β × Dr)} {n : Nat} {body : CS}
    (h : ∀ a ns s g b s', f a ns s = some (b, s') → ∃ M2, body (some (.ref 2) :: some (enc a) :: List.replicate (n - 2) none) (TM ns s g) = some (.rt (enc b) M2) ∧ TM ns s' g <+: M2) : Keeps n body (fnT1 f) :=
  keepsT1 fun a ns s g b s' e => by
    obtain ⟨M2, h1, h2⟩ := h a ns s g b s' e
    obtain ⟨g', rfl⟩ := TM_pre h2
    exact ⟨g', h1⟩
theorem keepsT2p {α β γ : Type} [Enc α] [Enc β] [Enc γ] {f : α → β → List Int → Dr → Option (γ × Dr)} {n : Nat} {body : CS}
    (h : ∀ a b ns s g c s', f a b ns s = some (c, s') → ∃ M2, body (some (.ref 2) :: some (enc a) :: some (enc b) :: List.replicate (n - 3) none) (TM ns s g) = some (.rt (enc c) M2) ∧ TM ns s' g <+: M2) : Keeps n body (fnT2 f) :=
  keepsT2 fun a b ns s g c s' e => by
    obtain ⟨M2, h1, h2⟩ := h a b ns s g c s' e
    obtain ⟨g', rfl⟩ := TM_pre h2
    exact ⟨g', h1⟩
theorem keepsT3p {α β γ δ : Type} [Enc α] [Enc β] [Enc γ] [Enc δ] {f : α → β → γ → List Int → Dr → Option (δ × Dr)} {n : Nat} {body : CS}
    (h : ∀ a b c ns s g d s', f a b c ns s = some (d, s') → ∃ M2, body (some (.ref 2) :: some (enc a) :: some (enc b) :: some (enc c) :: List.replicate (n - 4) none) (TM ns s g) = some (.rt (enc d) M2) ∧ TM ns s' g <+: M2) : Keeps n body (fnT3 f) :=
  keepsT3 fun a b c ns s g d s' e => by
    obtain ⟨M2, h1, h2⟩ := h a b c ns s g d s' e
    obtain ⟨g', rfl⟩ := TM_pre h2
    exact ⟨g', h1⟩
end BF

set_option Elab.async false
set_option linter.all false
set_option autoImplicit false
set_option maxRecDepth 10000
/-! Defs that stand at the top of the text. -/
namespace BF
open PySem PySem.Spec
open PyProof.Rows L2
/-- this def stands under this name -/
def DefAt (K : PySem.W.Frag) (mg : Str → Option Value) (x : Str) (st : Stmt) : Prop := ∃ f fd, Fun K x x st f fd ∧ mg x = some (.ref f)
/-- .. and keeps this promise -/
def Known (P : Program) (w : World) (K : PySem.W.Frag) (mg : Str → Option Value) (base : Heap) (k : Nat) (x : Str) (ps : List Str) (F : Fn) : Prop :=
  ∃ f fd, FnOk P w K mg base CX0 k f fd ps (spF ⟨K, w⟩ ps.length F) ∧ mg x = some (.ref f) ∧ PySem.W.keepIn K (.ref f) = true ∧ Binds K fd ps []
/-- what binding one's arguments by place gives -/
abbrev BindsAll (x : Str) (st : Stmt) (ps : List Str) : Prop := ∀ (kV doc pm : Value) (an : Option Addr) (cdv ct : Value) (us : List Value), us.length = ps.length → bindArgs (PySem.W.fnOf x x (defArgs st) (defBody st) (defScope st) .none kV doc pm an cdv ct) ⟨us, []⟩ = pure (ps.zip us)
section
variable {P : Program} {w : World} {K : PySem.W.Frag} {mg : Str → Option Value} {base : Heap} {x : Str} {st : Stmt} {N ps : List Str} {k : Nat} {body : CS} {G : Fn}
theorem known (D : DefAt K mg x st) (S : FnScope N ps (defScope st)) (hb : BindsAll x st ps) (hk : Keeps N.length body G)
    (der : ∀ (f : Addr) (cdv : Value) (A : Around) (outer : List Env) (s : Shared) (H : Hp) (E : XK), Room k (A.deeper (envOfC x (defScope st) s.heap.objs.size f cdv)) →
      ESs (cxOf CX0 P w K mg base N x (defScope st) f cdv A outer s H E).nox (defBody st) body) : Known P w K mg base (k + 1) x ps G := by
  obtain ⟨f, fd, F, g⟩ := D
  exact ⟨f, fd, fn_ok F S hk (der f), g, F.kp, F.binds hb⟩
/-- a promise of nothing -/
theorem known0 (D : DefAt K mg x st) (S : FnScope N ps (defScope st)) (hb : BindsAll x st ps) (hG : ∀ ws M, G ws M = none) : Known P w K mg base (k + 1) x ps G := by
  obtain ⟨f, fd, F, g⟩ := D
  refine ⟨f, fd, F.ok S (fun vs H Q E h => h.1) (fun cdv A outer s H vs Q E hr h => ?_), g, F.kp, F.binds hb⟩
  obtain ⟨_, _, _, _, _, _, _, _, e, _⟩ := h
  rw [hG] at e
  cases e
theorem defAt {h : Heap} {f : Addr} {oc : Value} {od an : Option Addr} {osl : Array (Option Value)} {kV doc pm cdv ct : Value} (X : K.In h) (G : h.Ns mainGlobals mg)
    (a : PySem.W.nsIn K mainGlobals x = some (some (.ref f))) (l : K.lookup f = some ⟨oc, od, .func (PySem.W.fnOf x x (defArgs st) (defBody st) (defScope st) .none kV doc pm an cdv ct), osl⟩)
    (c : PySem.W.codeIn K cdv x = true) (k : PySem.W.keepIn K (.ref f) = true) : DefAt K mg x st := ⟨_, _, fun_mk l c k, PySem.W.mg_of X G a⟩
end
section
variable {X : Cx} {x : Str} {p pos : Pos} {e : Expr} {es : List Expr} {cs : List CE}
theorem r_callK {F : Fn} {k : Nat} {ps : List Str} (G : Known X.prog X.w X.K X.mg X.base k x ps F) (hr : Room k X.A) (hg : Gl X x)
    (ha : EA X (e :: es) cs) (hn : cs.length = ps.length := by rfl) (hdb : (x == ("__debug__" : Str)) = false := by decide) (he : starEach (e :: es) X.env = (false, eval e X.env) :: starEach es X.env := by rfl) (hpl : (backTo pos (starEach es X.env)).any (·.1) = false := by rfl) :
    EV X (.Call (.Name x p) (e :: es) [] pos) (eN F cs) := by
  obtain ⟨f, fd, G, hm, hk, hb⟩ := G
  exact r_call G hr hg hm hk hb ha hn hdb he hpl
end
/-- the head's part of a law -/
theorem law_head {l : PySem.W.OpenLaw} {w : World} {K : PySem.W.Frag} {h : Heap} {mg : Str → Option Value} {fa f : Addr} {k : Nat} {st : Stmt} {oc : Value} {od an : Option Addr} {osl : Array (Option Value)} {kV doc pm cdv ct : Value} (X : K.In h) (G : h.Ns mainGlobals mg) (hfa : mg "law" = some (.ref fa))
    (a : PySem.W.nsIn K mainGlobals "law" = some (some (.ref f))) (lk : K.lookup f = some ⟨oc, od, .func (PySem.W.fnOf "law" "law" (defArgs st) (defBody st) (defScope st) .none kV doc pm an cdv ct), osl⟩) (c : PySem.W.codeIn K cdv "law" = true) (kp : PySem.W.keepIn K (.ref f) = true)
    (hb : BindsAll "law" st ["script"]) (ok : ∀ (base : Heap) (fd : FuncData), Fun K "law" "law" st fa fd → FnOk l.prog w K mg base CX0 k fa fd ["script"] (spF ⟨K, w⟩ (["script"] : List Str).length lawF)) :
    ∃ fd : FuncData, (∀ (s : Shared) (v : Value), BindsTo s fd ⟨[v], []⟩ [("script", v)]) ∧ ∀ base : Heap, K.In base → base.Ns mainGlobals mg → FnOk l.prog w K mg base CX0 k fa fd ["script"] (spLaw K) := by
  have e := hfa.symm.trans (PySem.W.mg_of X G a)
  cases e
  exact ⟨PySem.W.fnOf "law" "law" (defArgs st) (defBody st) (defScope st) .none kV doc pm an cdv ct, fun s v => .of_eq (hb kV doc pm an cdv ct [v] rfl), fun base _ _ => law_ok rfl (ok base _ (fun_mk lk c kp))⟩
end BF

set_option Elab.async false
set_option linter.all false
set_option autoImplicit false
set_option maxRecDepth 10000
/-! More operations. -/
namespace BF
open PySem PySem.Spec
open PyProof.Rows L2
/-- x += y of ints -/
def gAdd1 (M : Mem) (x y : W) : Option (W × Mem) := match x, y with
  | .int i, .int j => some (.int (i + j), M)
  | _, _ => none
@[simp] theorem gAdd1_int {M : Mem} (i j : Int) : gAdd1 M (.int i) (.int j) = some (.int (i + j), M) := nr rfl
/-- the least of ints -/
def minI : Int → List Int → Int
  | m, [] => m
  | m, x :: xs => minI (if x < m then x else m) xs
theorem minI_spec : ∀ (xs : List Int) (m : Int), minI m xs ∈ m :: xs ∧ ∀ y ∈ m :: xs, minI m xs ≤ y
  | [], m => ⟨List.mem_cons_self, fun y hy => by
      rcases List.mem_cons.mp hy with rfl | h
      · exact Int.le_refl _
      · cases h⟩
  | x :: xs, m => by
    obtain ⟨h1, h2⟩ := minI_spec xs (if x < m then x else m)
    rw [minI]
    refine ⟨?_, fun y hy => ?_⟩
    · rcases List.mem_cons.mp h1 with h | h
      · rw [h]; split
        · exact List.mem_cons_of_mem _ List.mem_cons_self
        · exact List.mem_cons_self
      · exact List.mem_cons_of_mem _ (List.mem_cons_of_mem _ h)
    · have h0 := h2 _ List.mem_cons_self
      rcases List.mem_cons.mp hy with rfl | hy
      · refine Int.le_trans h0 ?_
        split <;> omega
      rcases List.mem_cons.mp hy with rfl | hy
      · refine Int.le_trans h0 ?_
        split <;> omega
      · exact h2 y (List.mem_cons_of_mem _ hy)
theorem minI_eq {m x : Int} {xs : List Int} (h1 : m ∈ x :: xs) (h2 : ∀ y ∈ x :: xs, m ≤ y) : minI x xs = m := by
  obtain ⟨h3, h4⟩ := minI_spec xs x
  have := h2 _ h3
  have := h4 _ h1
  omega
/-- the ints of a list or a tuple -/
def intsAt (M : Mem) : W → Option (List Int)
  | .ref n => match M[n]? with
    | some (.lst ws) => asInts ws
    | some (.ro ws) => asInts ws
    | _ => none
  | _ => none
def pMinL : Fn := fun ws M => match ws with
  | [w] => match intsAt M w with
    | some (m :: ms) => some (.int (minI m ms), M)
    | _ => none
  | _ => none
@[simp] theorem pMinL_eq {M : Mem} (w : W) : pMinL [w] M = match intsAt M w with
    | some (m :: ms) => some (.int (minI m ms), M)
    | _ => none := nr rfl
@[simp] theorem intsAt_eq {M : Mem} (n : Nat) : intsAt M (.ref n) = match M[n]? with
    | some (.lst ws) => asInts ws
    | some (.ro ws) => asInts ws
    | _ => none := nr rfl
def pSum : Fn := fun ws M => match ws with
  | [w] => match intsAt M w with
    | some ms => some (.int ms.sum, M)
    | _ => none
  | _ => none
@[simp] theorem pSum_eq {M : Mem} (w : W) : pSum [w] M = match intsAt M w with
    | some ms => some (.int ms.sum, M)
    | _ => none := nr rfl
@[simp high] theorem pMin_nat {M : Mem} (i j : Nat) : pMin [.int i, .int j] M = some (.int ((min i j : Nat) : Int), M) := by
  rw [pMin_eq]
  congr 3
  split <;> omega
@[simp high] theorem pMax_nat {M : Mem} (i j : Nat) : pMax [.int i, .int j] M = some (.int ((max i j : Nat) : Int), M) := by
  unfold pMax
  simp only
  congr 3
  split <;> omega
@[simp] theorem gLt_nat {M : Mem} (i j : Nat) : gLt M (.int i) (.int j) = some (.bl (decide (i < j)), M) := by
  show some (W.bl (decide ((i : Int) < j)), M) = _
  congr 3
  exact decide_eq_decide.mpr (by omega)
instance : Enc (Option Int) where
  enc o := match o with
    | none => .non
    | some i => .int i
  dec w := match w with
    | .non => some none
    | .int i => some (some i)
    | _ => none
  dec_enc a := by cases a <;> rfl
  enc_dec w a h := by
    split at h
    · cases h; rfl
    · cases h; rfl
    · cases h
  dep := 1
  ok a := by cases a <;> rfl
  eqE a b := by cases a <;> cases b <;> simp [eqP]
@[simp] theorem enc_on : (Enc.enc (none : Option Int) : W) = .non := rfl
@[simp] theorem enc_os (i : Int) : (Enc.enc (some i : Option Int) : W) = .int i := rfl
theorem map_encS (l : List Str) : l.map (Enc.enc : Str → W) = l.map W.str := rfl
@[simp] theorem eqW_strs (M : Mem) (a b : List Str) : eqW M (.tup (a.map W.str)) (.tup (b.map W.str)) = some (decide (a = b)) := eqW_enc (α := List Str) M a b
@[simp] theorem eqW_hist (M : Mem) (a b : List Str) (i j : Nat) : eqW M (.tup [.tup (a.map W.str), .int i]) (.tup [.tup (b.map W.str), .int j]) = some (decide (a = b ∧ i = j)) := by
  have := eqW_enc (α := Hist) M ⟨a, i⟩ ⟨b, j⟩
  rw [show decide (a = b ∧ i = j) = decide ((⟨a, i⟩ : Hist) = ⟨b, j⟩) from decide_eq_decide.mpr (by simp)]
  exact this
theorem map_encI (l : List Int) : l.map (Enc.enc : Int → W) = l.map W.int := rfl
@[simp] theorem small62s : small62 0 = true ∧ small62 1 = true ∧ small62 2 = true ∧ small62 3 = true ∧ small62 4 = true ∧ small62 5 = true ∧ small62 6 = true ∧ small62 7 = true ∧ small62 8 = true ∧ small62 9 = true ∧ small62 10 = true ∧ small62 11 = true ∧ small62 12 = true ∧ small62 13 = true ∧ small62 14 = true ∧ small62 15 = true ∧ small62 16 = true ∧ small62 17 = true ∧ small62 18 = true ∧ small62 19 = true ∧ small62 20 = true ∧ small62 21 = true ∧ small62 22 = true ∧ small62 23 = true ∧ small62 24 = true ∧ small62 25 = true ∧ small62 26 = true ∧ small62 27 = true ∧ small62 28 = true ∧ small62 29 = true ∧ small62 30 = true ∧ small62 31 = true ∧ small62 32 = true ∧ small62 33 = true ∧ small62 34 = true ∧ small62 35 = true ∧ small62 36 = true ∧ small62 37 = true ∧ small62 38 = true ∧ small62 39 = true ∧ small62 40 = true ∧ small62 41 = true ∧ small62 42 = true ∧ small62 43 = true ∧ small62 44 = true ∧ small62 45 = true ∧ small62 46 = true ∧ small62 47 = true ∧ small62 48 = true ∧ small62 49 = true ∧ small62 50 = true ∧ small62 51 = true ∧ small62 52 = true ∧ small62 53 = true ∧ small62 54 = true ∧ small62 55 = true ∧ small62 56 = true ∧ small62 57 = true ∧ small62 58 = true ∧ small62 59 = true ∧ small62 60 = true ∧ small62 61 = true ∧ small62 62 = true ∧ small62 63 = true ∧ small62 64 = true := by
  refine ⟨?_, ?_, ?_, ?_, ?_, ?_, ?_, ?_, ?_, ?_, ?_, ?_, ?_, ?_, ?_, ?_, ?_, ?_, ?_, ?_, ?_, ?_, ?_, ?_, ?_, ?_, ?_, ?_, ?_, ?_, ?_, ?_, ?_, ?_, ?_, ?_, ?_, ?_, ?_, ?_, ?_, ?_, ?_, ?_, ?_, ?_, ?_, ?_, ?_, ?_, ?_, ?_, ?_, ?_, ?_, ?_, ?_, ?_, ?_, ?_, ?_, ?_, ?_, ?_, ?_⟩ <;> rfl
@[simp] theorem small64s : small64 0 = true ∧ small64 1 = true ∧ small64 2 = true ∧ small64 3 = true ∧ small64 4 = true ∧ small64 5 = true ∧ small64 6 = true ∧ small64 7 = true ∧ small64 8 = true ∧ small64 9 = true ∧ small64 10 = true ∧ small64 11 = true ∧ small64 12 = true ∧ small64 13 = true ∧ small64 14 = true ∧ small64 15 = true ∧ small64 16 = true ∧ small64 17 = true ∧ small64 18 = true ∧ small64 19 = true ∧ small64 20 = true ∧ small64 21 = true ∧ small64 22 = true ∧ small64 23 = true ∧ small64 24 = true ∧ small64 25 = true ∧ small64 26 = true ∧ small64 27 = true ∧ small64 28 = true ∧ small64 29 = true ∧ small64 30 = true ∧ small64 31 = true ∧ small64 32 = true := by
  refine ⟨?_, ?_, ?_, ?_, ?_, ?_, ?_, ?_, ?_, ?_, ?_, ?_, ?_, ?_, ?_, ?_, ?_, ?_, ?_, ?_, ?_, ?_, ?_, ?_, ?_, ?_, ?_, ?_, ?_, ?_, ?_, ?_, ?_⟩ <;> rfl
@[simp] theorem ite_sub_nat (a b : Nat) : (if b < a then (a : Int) - b else 0) = ((a - b : Nat) : Int) := by split <;> omega
@[simp high] theorem pMax_sub {M : Mem} (m a b : Nat) : pMax [.int m, .int ((a : Int) - b)] M = some (.int ((max m (a - b) : Nat) : Int), M) := by
  unfold pMax
  simp only
  congr 3
  split <;> omega
/-- a while loop, turn by turn -/
theorem whileL_on {t : CT} {body : CS} {n : Nat} {σ σ' : Sl} {M M1 M' : Mem} (h1 : t σ M = some (true, M1)) (h2 : body σ M1 = some (.nx σ' M')) : whileL t body (n + 1) σ M = whileL t body n σ' M' := by
  rw [whileL, h1]
  simp only [Option.bind_some, if_true, h2]
theorem whileL_off {t : CT} {body : CS} {n : Nat} {σ : Sl} {M M1 : Mem} (h1 : t σ M = some (false, M1)) : whileL t body (n + 1) σ M = some (.nx σ M1) := by
  rw [whileL, h1]
  rfl
section
variable {K : KW}
theorem l_iadd : Lift2 K (rI0 fun i j => .int (i + j)) gAdd1 := lift_int0 (f' := fun i j => .int (i + j)) (fun M x y p h => by
  unfold gAdd1 at h; split at h
  · cases h; exact ⟨_, _, rfl, rfl, rfl⟩
  · cases h) fun _ _ _ _ => .int _
theorem rds_asInts {H : Hp} {loc : List Addr} : ∀ {ns : List Int} {xs : List V}, Rds K H loc xs (ns.map W.int) → xs = ns.map V.int
  | [], [], _ => rfl
  | n :: ns, x :: xs, r => by
    cases r with
    | cons h t =>
      cases h
      rw [rds_asInts t]; rfl
theorem intsAt_seq {H : Hp} {loc : List Addr} {M : Mem} {v : V} {w : W} {ns : List Int} (s : Store K H loc M) (r : Rd K H loc v w) (h : intsAt M w = some ns) : ∃ a, v = .ref a ∧ SqL K H a (ns.map V.int) := by
  unfold intsAt at h
  split at h
  · cases r with
    | ref hn =>
      split at h
      · rename_i zs hz
        obtain ⟨xs, q1, q2⟩ := s.ok _ _ _ hn hz
        have e := rds_asInts (by rw [← asInts_some h]; exact q2)
        subst e
        exact ⟨_, rfl, SqL.of q1⟩
      · rename_i zs hz
        obtain ⟨xs, q1, q2⟩ := s.ok _ _ _ hn hz
        have e := rds_asInts (by rw [← asInts_some h]; exact q2)
        subst e
        exact ⟨_, rfl, q1.sq⟩
      · cases h
  · cases h
theorem n_minL : LiftN K (rMin K) pMinL := by
  intro H loc M ws vs w M' Q s r e aft
  unfold pMinL at e
  split at e
  · split at e
    · rename_i w0 _ m ms hm
      cases e
      match vs, r with
      | [_], .cons r1 .nil =>
        obtain ⟨a, rfl, sq⟩ := intsAt_seq s r1 hm
        refine ⟨a, _, rfl, sq, Nat.zero_lt_succ _, fun z h1 h2 => ?_⟩
        rw [← minI_eq h1 h2]
        exact aft _ H loc s (.int _) .refl (List.prefix_refl _)
    · cases e
  · cases e
theorem n_sum : LiftN K (rSum K) pSum := by
  intro H loc M ws vs w M' Q s r e aft
  unfold pSum at e
  split at e
  · split at e
    · rename_i w0 _ ms hm
      cases e
      match vs, r with
      | [_], .cons r1 .nil =>
        obtain ⟨a, rfl, sq⟩ := intsAt_seq s r1 hm
        exact ⟨a, _, rfl, sq, aft _ H loc s (.int _) .refl (List.prefix_refl _)⟩
    · cases e
  · cases e
end
end BF

set_option Elab.async false
set_option linter.all false
set_option autoImplicit false
set_option maxRecDepth 100000
set_option maxHeartbeats 4000000
/-! A tuple so many times, at any count. -/
namespace BF
open PySem PySem.Spec
open PyProof.Rows L2
theorem mul_none (l : Addr) (items : Array Value) (n : Nat) (dd : Option Addr) (sl : Array (Option Value)) (x : Int) (u : Tok) (c0 : (decide (x < -(2 ^ 63)) || decide (x ≥ 2 ^ 63)) = false) (c1 : (items.isEmpty || x == 1) = false) (c2 : (decide (x ≤ 0) || items.isEmpty) = true) :
    Meets (Builtin.«tuple.__mul__» ⟨[.ref l, .int x u], []⟩) (fun _ R s => s.heap.get? l = some { cls := .type "tuple", dict := dd, data := .seq items n, slots := sl } ∧
      R (.ok (.ret (Value.ref s.heap.objs.size))) { s with heap := s.heap.push { cls := Value.type "tuple", data := Data.seq #[] }, toks := s.toks }) :=
  .of_wp fun prog w A R s h => by
    obtain ⟨hp, g, d, tk, os⟩ := s
    obtain ⟨hl, h⟩ := h
    have f1 := AutoSeq1.idx_int
    wp_walk using wpAny_loadPart' hl
    repeat (first
      | (refine wpAny_ite_false (decide_eq_false (by rw [c0]; exact Bool.false_ne_true)) ?_; wp_walk using wpAny_loadPart' hl)
      | (refine wpAny_ite_false (decide_eq_false (by rw [c1]; exact Bool.false_ne_true)) ?_; wp_walk using wpAny_loadPart' hl)
      | (refine wpAny_ite_true (decide_eq_true c2) ?_; wp_walk using wpAny_loadPart' hl))
    exact ⟨_, rfl, h⟩
theorem mul_once (l : Addr) (items : Array Value) (n : Nat) (dd : Option Addr) (sl : Array (Option Value)) (x : Int) (u : Tok) (c0 : (decide (x < -(2 ^ 63)) || decide (x ≥ 2 ^ 63)) = false) (c1 : (items.isEmpty || x == 1) = true) :
    Meets (Builtin.«tuple.__mul__» ⟨[.ref l, .int x u], []⟩) (fun _ R s => s.heap.get? l = some { cls := .type "tuple", dict := dd, data := .seq items n, slots := sl } ∧
      R (.ok (.ret (Value.ref l))) s) :=
  .of_wp fun prog w A R s h => by
    obtain ⟨hp, g, d, tk, os⟩ := s
    obtain ⟨hl, h⟩ := h
    have f1 := AutoSeq1.idx_int
    wp_walk using wpAny_loadPart' hl
    repeat (first
      | (refine wpAny_ite_false (decide_eq_false (by rw [c0]; exact Bool.false_ne_true)) ?_; wp_walk using wpAny_loadPart' hl)
      | (refine wpAny_ite_true (decide_eq_true c1) ?_; wp_walk using wpAny_loadPart' hl))
    exact ⟨_, rfl, h⟩
def rRepA (K : KW) : R2 := fun x y H Q => ∃ l k xs, x = .ref l ∧ y = .int k ∧ SqT K H l xs ∧ -1000 ≤ k ∧ k ≤ 1000 ∧ xs.length ≤ 1000 ∧ (xs = [] ∨ k = 1 → Q (.ref l) H) ∧ (¬ (xs = [] ∨ k = 1) → ∀ p, H p = none → Q (.ref p) (upd H p (.tup (List.replicate k.toNat xs).flatten)))
section
variable {X : Cx}
theorem op_repA : OpR X (binaryOp .Mult) (rRepA X.KW) := by
  intro pins s σ H x y v u Q I rx ry h
  obtain ⟨l, k, xs, rfl, rfl, hT, h0, h1, hz, q1, q2⟩ := h
  by_cases hk : 2 ≤ k ∧ xs ≠ []
  · exact op_repT pins s σ H _ _ v u Q I rx ry ⟨l, k, xs, rfl, rfl, hT, hk.2, hk.1, h1, hz, q2 (fun z => z.elim hk.2 (fun z => by omega))⟩
  cases rx
  obtain ⟨t, rfl⟩ := ry
  obtain ⟨its, r, ⟨⟨cls, dd, data, sl⟩, ho, hc, n, hd⟩, hs⟩ := I.tuple hT
  simp only at hc hd
  subst hc hd
  have hle : its.length = xs.length := r.length.symm
  have c0 : (decide (k < -(2 ^ 63)) || decide (k ≥ 2 ^ 63)) = false := by
    rw [decide_eq_false (by omega), decide_eq_false (by omega)] <;> rfl
  have hem : its.toArray.isEmpty = decide (xs = []) := by
    cases its with
    | nil => cases xs with
      | nil => rfl
      | cons _ _ => cases hle
    | cons _ _ => cases xs with
      | nil => cases hle
      | cons _ _ => rfl
  by_cases hc1 : xs = [] ∨ k = 1
  · have c1 : (its.toArray.isEmpty || k == 1) = true := by
      rw [hem]
      rcases hc1 with z | z
      · rw [z]; rfl
      · rw [z]; simp
    refine wpAny_binaryOp_repeat_ref (T := "tuple") (U := "int") (by decide) ⟨_, ho, rfl⟩ (fun s' => typeIs_int s' k t) noFill_tuple_mul F.fills_int_mul F.slot_int_rmul repeat_tuple F.slot_int_index.lookup
      (call_meets F.slot_int_rmul (typeIs_int s k t) F.entry_int_rmul (F.args_int_rmul_2 _ _) (int_rmul_tuple k t l its.toArray n dd sl)
        ⟨ho, rfl, ⟨_, ho, rfl⟩, call_meets F.slot_tuple_mul ⟨_, ho, rfl⟩ F.entry_tuple_mul (F.args_tuple_mul_2 _ _) (mul_once l its.toArray n dd sl k t c0 c1) ⟨ho, ?_⟩⟩)
    exact ⟨.ref l, _, I, rfl, q1 hc1⟩
  · have hk0 : k ≤ 0 := by
      by_cases hx : xs = []
      · exact absurd (.inl hx) hc1
      · by_cases h2 : 2 ≤ k
        · exact absurd ⟨h2, hx⟩ hk
        · have : k ≠ 1 := fun z => hc1 (.inr z)
          omega
    have hx : xs ≠ [] := fun z => hc1 (.inl z)
    have c1 : (its.toArray.isEmpty || k == 1) = false := by
      rw [hem, decide_eq_false hx, Bool.false_or]
      exact beq_eq_false_iff_ne.mpr (by omega)
    have c2 : (decide (k ≤ 0) || its.toArray.isEmpty) = true := by rw [decide_eq_true hk0]; rfl
    refine wpAny_binaryOp_repeat_ref (T := "tuple") (U := "int") (by decide) ⟨_, ho, rfl⟩ (fun s' => typeIs_int s' k t) noFill_tuple_mul F.fills_int_mul F.slot_int_rmul repeat_tuple F.slot_int_index.lookup
      (call_meets F.slot_int_rmul (typeIs_int s k t) F.entry_int_rmul (F.args_int_rmul_2 _ _) (int_rmul_tuple k t l its.toArray n dd sl)
        ⟨ho, rfl, ⟨_, ho, rfl⟩, call_meets F.slot_tuple_mul ⟨_, ho, rfl⟩ F.entry_tuple_mul (F.args_tuple_mul_2 _ _) (mul_none l its.toArray n dd sl k t c0 c1 c2) ⟨ho, ?_⟩⟩)
    have qn := q2 hc1
    rw [show k.toNat = 0 by omega] at qn
    refine ⟨.ref s.heap.objs.size, _, I.laid (t' := s.toks) (o := .tup []) (fun b ob q => Heap.get?_push_of_some _ q) (Nat.le_refl _) ?_, rfl, qn _ (I.hok.fresh (Nat.le_refl _))⟩
    exact ⟨Nat.zero_le _, [], .nil, IsTup.new _ _⟩
end
/-- a tuple so many times -/
def gRepA (M : Mem) (x y : W) : Option (W × Mem) := match x, y with
  | .tup a, .int k => if a.length ≤ 1000 ∧ k ≤ 1000 ∧ -1000 ≤ k then some (.tup (List.replicate k.toNat a).flatten, M) else none
  | _, _ => none
@[simp] theorem gRepA_tup {M : Mem} (a : List W) (k : Int) : gRepA M (.tup a) (.int k) = if a.length ≤ 1000 ∧ k ≤ 1000 ∧ -1000 ≤ k then some (.tup (List.replicate k.toNat a).flatten, M) else none := nr rfl
theorem rds_rep {K : KW} {H : Hp} {loc : List Addr} {xs : List V} {ws : List W} (r : Rds K H loc xs ws) : ∀ k : Nat, Rds K H loc (List.replicate k xs).flatten (List.replicate k ws).flatten
  | 0 => .nil
  | k + 1 => by
    rw [List.replicate_succ, List.replicate_succ, List.flatten_cons, List.flatten_cons]
    exact r.append (rds_rep r k)
theorem l_rep {K : KW} : Lift2 K (rRepA K) gRepA := by
  intro H loc M x y v u w M' Q s rx ry e aft
  unfold gRepA at e
  split at e
  · rename_i a k
    split at e
    · rename_i hz
      cases e
      cases ry
      cases rx with
      | tup sq rs =>
        rename_i p xs
        refine ⟨p, k, xs, rfl, rfl, sq, hz.2.2, hz.2.1, by rw [rs.length]; exact hz.1, fun hc => ?_, fun hc l hl => aft_tup s (rds_rep rs k.toNat) hl aft⟩
        refine aft _ H loc s ?_ .refl (List.prefix_refl _)
        have e1 : (List.replicate k.toNat a).flatten = a := by
          rcases hc with hc | hc
          · subst hc
            cases rs
            induction k.toNat with
            | zero => rfl
            | succ n ih => rw [List.replicate_succ, List.flatten_cons, ih]; rfl
          · rw [hc]; simp
        rw [e1]
        exact .tup sq rs
    · cases e
  · cases e
/-- int(x) of an int or a truth value -/
def pInt : Fn := fun ws M => match ws with
  | [.int i] => some (.int i, M)
  | [.bl k] => some (.int (if k then 1 else 0), M)
  | _ => none
@[simp] theorem pInt_bl {M : Mem} (k : Bool) : pInt [.bl k] M = some (.int (if k = true then 1 else 0), M) := nr rfl
theorem n_int {K : KW} : LiftN K (fun xs H Q => (∃ i, xs = [.int i] ∧ Q (.int i) H) ∨ ∃ k, xs = [.bl k] ∧ Q (.int (if k then 1 else 0)) H) pInt := by
  intro H loc M ws vs w M' Q s r e aft
  unfold pInt at e
  split at e
  · cases e
    match vs, r with
    | [_], .cons (.int _) .nil => exact .inl ⟨_, rfl, aft _ H loc s (.int _) .refl (List.prefix_refl _)⟩
  · cases e
    match vs, r with
    | [_], .cons (.bl _) .nil => exact .inr ⟨_, rfl, aft _ H loc s (.int _) .refl (List.prefix_refl _)⟩
  · cases e
end BF

set_option Elab.async false
set_option linter.all false
set_option autoImplicit false
set_option maxRecDepth 100000
/-! The letters of a text; constants of the module; all(..); is of truth values. -/
namespace BF
open PySem PySem.Spec
open PyProof.Rows L2
def charsW (x : Str) : List W := x.cps.toList.map fun c => .str ⟨#[c]⟩
def iStr (e : CE) : CI := fun σ M => (e σ M).bind fun p => match p.1 with
  | .str x => some (charsW x, gdT, p.2)
  | _ => none
@[simp] theorem iStr_eq {σ : Sl} {M : Mem} (e : CE) : iStr e σ M = (e σ M).bind fun p => match p.1 with
  | .str x => some (charsW x, gdT, p.2)
  | _ => none := nr rfl
/-- a letter in a text -/
def gInS (M : Mem) (x y : W) : Option (W × Mem) := match x, y with
  | .str a, .str z => match a.cps.toList with
    | [c] => some (.bl (decide (c ∈ z.cps.toList)), M)
    | _ => none
  | _, _ => none
def gNotInS (M : Mem) (x y : W) : Option (W × Mem) := match x, y with
  | .str a, .str z => match a.cps.toList with
    | [c] => some (.bl (!decide (c ∈ z.cps.toList)), M)
    | _ => none
  | _, _ => none
@[simp] theorem gInS_one {M : Mem} (c : Nat) (z : Str) : gInS M (.str ⟨#[c]⟩) (.str z) = some (.bl (decide (c ∈ z.cps.toList)), M) := nr rfl
@[simp] theorem gNotInS_one {M : Mem} (c : Nat) (z : Str) : gNotInS M (.str ⟨#[c]⟩) (.str z) = some (.bl (!decide (c ∈ z.cps.toList)), M) := nr rfl
/-- truth values only -/
def asBls : List W → Option (List Bool)
  | [] => some []
  | .bl b :: ws => (asBls ws).map (b :: ·)
  | _ :: _ => none
theorem asBls_map : ∀ bs : List Bool, asBls (bs.map W.bl) = some bs
  | [] => rfl
  | b :: bs => by rw [List.map_cons, asBls, asBls_map bs]; rfl
theorem asBls_some : ∀ {ws : List W} {bs : List Bool}, asBls ws = some bs → ws = bs.map W.bl
  | [], bs, h => by cases h; rfl
  | .bl b :: ws, bs, h => by
    rw [asBls] at h
    obtain ⟨cs, h1, rfl⟩ := Option.map_eq_some_iff.mp h
    rw [List.map_cons, ← asBls_some h1]
  | .non :: _, _, h => by cases h
  | .int _ :: _, _, h => by cases h
  | .str _ :: _, _, h => by cases h
  | .tup _ :: _, _, h => by cases h
  | .ref _ :: _, _, h => by cases h
def pAll : Fn := fun ws M => match ws with
  | [.ref n] => match M[n]? with
    | some (.lst ws) => (asBls ws).map fun bs => (.bl (bs.all id), M)
    | _ => none
  | _ => none
@[simp] theorem pAll_ref {M : Mem} (n : Nat) : pAll [.ref n] M = match M[n]? with
    | some (.lst ws) => (asBls ws).map fun bs => (.bl (bs.all id), M)
    | _ => none := nr rfl
def gIsB (M : Mem) (x y : W) : Option (W × Mem) := match x, y with
  | .bl a, .bl b => some (.bl (decide (a = b)), M)
  | _, _ => none
def gNotB (M : Mem) (x y : W) : Option (W × Mem) := match x, y with
  | .bl a, .bl b => some (.bl (!decide (a = b)), M)
  | _, _ => none
@[simp] theorem gIsB_eq {M : Mem} (a b : Bool) : gIsB M (.bl a) (.bl b) = some (.bl (decide (a = b)), M) := nr rfl
@[simp] theorem gNotB_eq {M : Mem} (a b : Bool) : gNotB M (.bl a) (.bl b) = some (.bl (!decide (a = b)), M) := nr rfl
/-- the length of a text -/
def pLenS : Fn := fun ws M => match ws with
  | [.str x] => some (.int x.length, M)
  | _ => none
@[simp] theorem pLenS_eq {M : Mem} (x : Str) : pLenS [.str x] M = some (.int x.length, M) := nr rfl
section
variable {K : KW}
theorem n_lenS : LiftN K (fun xs H Q => ∃ z, xs = [.str z] ∧ z.length ≤ sizeLine ∧ Q (.int z.length) H) pLenS := by
  intro H loc M ws vs w M' Q s r e aft
  unfold pLenS at e
  split at e
  · cases e
    match vs, r with
    | [_], .cons (.str z h1 h2) .nil => exact ⟨z, rfl, by rw [sizeLine_eq]; omega, aft _ H loc s (.int _) .refl (List.prefix_refl _)⟩
  · cases e
theorem l_inS : Lift2 K rInS gInS := by
  intro H loc M x y v u w M' Q s rx ry e aft
  unfold gInS at e
  split at e
  · rename_i a z
    split at e
    · rename_i c hc
      cases e
      cases rx; cases ry
      have : a = ⟨#[c]⟩ := by
        obtain ⟨cs⟩ := a
        congr 1
        exact Array.toList_inj.mp hc
      exact ⟨c, z, by rw [this], rfl, aft _ H loc s (.bl _) .refl (List.prefix_refl _)⟩
    · cases e
  · cases e
theorem l_notInS : Lift2 K rNotInS gNotInS := by
  intro H loc M x y v u w M' Q s rx ry e aft
  unfold gNotInS at e
  split at e
  · rename_i a z
    split at e
    · rename_i c hc
      cases e
      cases rx; cases ry
      have : a = ⟨#[c]⟩ := by
        obtain ⟨cs⟩ := a
        congr 1
        exact Array.toList_inj.mp hc
      exact ⟨c, z, by rw [this], rfl, aft _ H loc s (.bl _) .refl (List.prefix_refl _)⟩
    · cases e
  · cases e
theorem l_isB : Lift2 K rIsB gIsB := by
  intro H loc M x y v u w M' Q s rx ry e aft
  unfold gIsB at e
  split at e
  · cases e
    cases rx; cases ry
    exact ⟨_, _, rfl, rfl, aft _ H loc s (.bl _) .refl (List.prefix_refl _)⟩
  · cases e
theorem l_notB : Lift2 K rNotB gNotB := by
  intro H loc M x y v u w M' Q s rx ry e aft
  unfold gNotB at e
  split at e
  · cases e
    cases rx; cases ry
    exact ⟨_, _, rfl, rfl, aft _ H loc s (.bl _) .refl (List.prefix_refl _)⟩
  · cases e
theorem rds_bls {H : Hp} {loc : List Addr} : ∀ {bs : List Bool} {xs : List V}, Rds K H loc xs (bs.map W.bl) → xs = bs.map V.bl
  | [], [], _ => rfl
  | b :: bs, x :: xs, r => by
    cases r with
    | cons h t =>
      cases h
      rw [rds_bls t]; rfl
theorem n_all : LiftN K (rAll K) pAll := by
  intro H loc M ws vs w M' Q s r e aft
  unfold pAll at e
  split at e
  · split at e
    · rename_i zs hz
      obtain ⟨bs, hb, e⟩ := Option.map_eq_some_iff.mp e
      cases e
      match vs, r with
      | [_], .cons (.ref (a := a) hn) .nil =>
        obtain ⟨xs, q1, q2⟩ := s.ok _ _ _ hn hz
        have e := rds_bls (by rw [← asBls_some hb]; exact q2)
        subst e
        exact ⟨a, bs, rfl, SqL.of q1, aft _ H loc s (.bl _) .refl (List.prefix_refl _)⟩
    · cases e
  · cases e
theorem walk_of_str {H : Hp} {loc : List Addr} {x : Str} (hx : PyData.strOk x = true) : WalkW K H loc (Its x) (charsW x) gdT :=
  fun i H1 loc1 M s ex l _ => ⟨fun w hw => by
    unfold charsW at hw
    rw [List.getElem?_map] at hw
    obtain ⟨c, hc, rfl⟩ := Option.map_eq_some_iff.mp hw
    have hc2 : x.cps[i]? = some c := by rw [← Array.getElem?_toList]; exact hc
    have hi : i < x.cps.size := by
      have := (List.getElem?_eq_some_iff.mp hc).1
      simpa using this
    refine ⟨hi, fun v H2 y => ?_⟩
    obtain ⟨rfl, d, hd, rfl⟩ := y
    rw [hc2] at hd
    cases hd
    have hcl : c < 0x110000 := by
      have h2 := hx
      unfold PyData.strOk at h2
      rw [Array.all_eq_true] at h2
      obtain ⟨h3, h4⟩ := Array.getElem?_eq_some_iff.mp hc2
      have := h2 i h3
      rw [h4] at this
      exact of_decide_eq_true this
    exact ⟨.str _ (by simpa [PyData.strOk] using hcl) (by show 1 ≤ _; decide), s, .refl⟩, fun hl => by
      unfold charsW at hl
      show x.cps.size ≤ i
      simpa using hl⟩
end
section
variable {X : Cx} {tg iter : Expr} {ca : CE}
theorem i_str (h : EV X iter ca) : EI X tg iter (iStr ca) := (pi_str h).mono fun σV H R ⟨loc, σ, M, ws, gd, M', rel, e, aft⟩ => by
  obtain ⟨p, hp, e⟩ := bind_some e
  refine run1 rel hp fun v H1 loc1 rel1 rd1 ex1 l1 => ?_
  split at e
  · rename_i zs hz
    cases e
    rw [hz] at rd1
    cases rd1 with
    | str _ h1 h2 => exact ⟨_, rfl, aft _ H1 loc1 rel1.st ex1 l1 (walk_of_str h1)⟩
  · cases e
/-- a constant of the module -/
def GlobV (mg : Str → Option Value) (x : Str) (v : V) : Prop := ∃ u, mg x = some u ∧ RelV v u
theorem r_globI {x : Str} {i : Int} {pos : Pos} (hg : Gl X x) (hm : GlobV X.mg x (.int i)) (hd : (x == ("__debug__" : Str)) = false := by decide) : EV X (.Name x pos) (eL (.int i)) := by
  obtain ⟨u, h1, h2⟩ := hm
  exact lit_aux (fun _ _ => .int i) (pe_glob hg h1 h2 hd)
theorem r_globS {x z : Str} {pos : Pos} (hg : Gl X x) (hm : GlobV X.mg x (.str z)) (h : PyData.strOk z = true := by decide +kernel) (h2 : z.length ≤ 16777216 := by decide +kernel) (hd : (x == ("__debug__" : Str)) = false := by decide) : EV X (.Name x pos) (eL (.str z)) := by
  obtain ⟨u, h1, h3⟩ := hm
  exact lit_aux (fun _ _ => .str z h h2) (pe_glob hg h1 h3 hd)
end
end BF

set_option Elab.async false
set_option linter.all false
set_option autoImplicit false
set_option maxRecDepth 100000
/-! tuple(range(n)). -/
namespace BF
open PySem PySem.Spec
open PyProof.Rows L2
def pTupRg : Fn := fun ws M => match ws with
  | [.int n] => if n.natAbs ≤ 16777216 then some (.tup (rangeW 0 n.toNat), M) else none
  | _ => none
@[simp] theorem pTupRg_eq {M : Mem} (n : Int) : pTupRg [.int n] M = if n.natAbs ≤ 16777216 then some (.tup (rangeW 0 n.toNat), M) else none := nr rfl
theorem rds_map {K : KW} {H : Hp} {loc : List Addr} {f : Nat → V} {g : Nat → W} (h : ∀ i, Rd K H loc (f i) (g i)) : ∀ l : List Nat, Rds K H loc (l.map f) (l.map g)
  | [] => .nil
  | a :: l => .cons (h a) (rds_map h l)
theorem r_tupRg {X : Cx} {e : Expr} {ca : CE} {p p2 pos pos2 : Pos} (hg : Gl X "tuple") (hm : X.mg "tuple" = none) (hg2 : Gl X "range") (hm2 : X.mg "range" = none) (ha : EV X e ca) (hc : X.calm = true := by rfl)
    (na2 : starEach [e] X.env = (false, eval e X.env) :: starEach [] X.env := by rfl) (na : starEach [.Call (.Name "range" p2) [e] [] pos2] X.env = (false, eval (.Call (.Name "range" p2) [e] [] pos2) X.env) :: starEach [] X.env := by rfl) :
    EV X (.Call (.Name "tuple" p) [.Call (.Name "range" p2) [e] [] pos2] [] pos) (eN pTupRg [ca]) :=
  (pe_tupRg hc hg hm (prg_1 hg2 hm2 ha na2) na).mono fun σV H Q ⟨loc, σ, M, w, M', rel, e, aft⟩ => by
    obtain ⟨q, hq, e⟩ := bind_some e
    obtain ⟨r, hr, hq⟩ := bind_some hq
    obtain ⟨t, ht, hq⟩ := bind_some hq
    cases ht
    cases hq
    refine run1 rel hr fun v H1 loc1 rel1 rd1 ex1 l1 => ?_
    unfold pTupRg at e
    simp only at e
    split at e
    · rename_i n hn
      split at e
      · rename_i hz
        cases e
        obtain ⟨hn1, _⟩ := List.cons.inj hn
        rw [hn1] at rd1
        cases rd1
        refine ⟨n, rfl, ⟨by omega, by omega, by omega, by omega, by omega⟩, fun l hl => ?_⟩
        refine aft_tup rel1.st ?_ hl (aft.after ex1 l1)
        unfold rgV rangeW
        rw [Int.sub_zero]
        exact rds_map (fun i => .int _) _
      · cases e
    · cases e
end BF

set_option Elab.async false
set_option linter.all false
set_option autoImplicit false
set_option maxRecDepth 100000
/-! sum(..) of a list or of a tuple. -/
namespace BF
open PySem PySem.Spec
open PyProof.Rows L2
def rSumT (K : KW) : List V → Hp → VK → Prop := fun vs H Q => ∃ (a : Addr) (ns : List Int), vs = [V.ref a] ∧ SqT K H a (ns.map V.int) ∧ Q (.int ns.sum) H
theorem cr_sumT {X : Cx} (hc : X.calm = true) : CallR X (.builtin "sum") (rSumT X.KW) := by
  intro pins s σ H vs us Q I r h
  obtain ⟨a, ns, rfl, hs, q⟩ := h
  obtain ⟨its, rv, hl, _⟩ := I.tuple hs
  rw [Vals.ref1 r]
  have hi := rv.ints
  obtain ⟨xs, e⟩ := hi.allInts.items
  have hn : numsOf (intItems xs).toList = ns := by rw [← e]; exact hi.numsOf
  rw [nums_intItems] at hn
  rw [e] at hl
  refine PySem.W.ktm_sumG (I.ok.hd hc) hl fun h' tk t' hk => ?_
  rw [preSum_eq, List.take_of_length_le (by simp), hn]
  exact ⟨.int _, H, I.kept hk, ⟨_, rfl⟩, q⟩
theorem cr_sumW {X : Cx} (hc : X.calm = true) : CallR X (.builtin "sum") (fun vs H Q => rSum X.KW vs H Q ∨ rSumT X.KW vs H Q) := by
  intro pins s σ H vs us Q I r h
  rcases h with h | h
  · exact cr_sum hc pins s σ H vs us Q I r h
  · exact cr_sumT hc pins s σ H vs us Q I r h
def pSumW : Fn := fun ws M => match ws with
  | [.tup us] => (asInts us).map fun ns => (.int ns.sum, M)
  | [.ref n] => (intsAt M (.ref n)).map fun ns => (.int ns.sum, M)
  | _ => none
@[simp] theorem pSumW_tup {M : Mem} (us : List W) : pSumW [.tup us] M = (asInts us).map fun ns => (.int ns.sum, M) := nr rfl
@[simp] theorem pSumW_ref {M : Mem} (n : Nat) : pSumW [.ref n] M = (intsAt M (.ref n)).map fun ns => (.int ns.sum, M) := nr rfl
theorem n_sumW {K : KW} : LiftN K (fun vs H Q => rSum K vs H Q ∨ rSumT K vs H Q) pSumW := by
  intro H loc M ws vs w M' Q s r e aft
  unfold pSumW at e
  split at e
  · rename_i us
    obtain ⟨ns, hn, e⟩ := Option.map_eq_some_iff.mp e
    cases e
    match vs, r with
    | [_], .cons (.tup sq rs) .nil =>
      have e := rds_asInts (by rw [← asInts_some hn]; exact rs)
      subst e
      exact .inr ⟨_, ns, rfl, sq, aft _ H loc s (.int _) .refl (List.prefix_refl _)⟩
  · obtain ⟨ns, hn, e⟩ := Option.map_eq_some_iff.mp e
    cases e
    match vs, r with
    | [_], .cons r1 .nil =>
      obtain ⟨a, rfl, sq⟩ := intsAt_seq s r1 hn
      exact .inl ⟨a, ns, rfl, sq, aft _ H loc s (.int _) .refl (List.prefix_refl _)⟩
  · cases e
end BF

set_option Elab.async false
set_option linter.all false
set_option autoImplicit false
set_option maxRecDepth 100000
/-! Dicts whose keys are numbers and texts. -/
namespace BF
open PySem PySem.Spec
open PyProof.Rows L2
theorem hu1 {k : Nat} {A : Around} (hr : Room k A) : A.units + 1 < cLine := by have := hr.un; omega
def keyOf : W → Option Key
  | .int i => some (.inl i)
  | .str x => some (.inr x)
  | _ => none
@[simp] theorem keyOf_keyW (k : Key) : keyOf (keyW k) = some k := by cases k <;> rfl
theorem keyOf_some {w : W} {k : Key} (h : keyOf w = some k) : w = keyW k := by
  cases w <;> simp [keyOf] at h <;> subst h <;> rfl
/-- what stands at the key -/
def valW : List (W × W) → Key → Option W
  | [], _ => none
  | p :: ps, k => if keyOf p.1 = some k then some p.2 else valW ps k
/-- in its place, or at the end -/
def putW (ws : List (W × W)) (k : Key) (w : W) : List (W × W) :=
  if (ws.any fun p => decide (keyOf p.1 = some k)) = true then ws.map fun p => if keyOf p.1 = some k then (p.1, w) else p else ws ++ [(keyW k, w)]
section
variable {K : KW} {H : Hp} {loc : List Addr}
theorem rd_key {v : V} {w : W} {k : Key} (r : Rd K H loc v w) (h : keyOf w = some k) : v = kV k := by
  cases r <;> simp [keyOf] at h <;> subst h <;> rfl
theorem val_rel : ∀ {kvs : List (Key × V)} {ws : List (W × W)} {k : Key}, kvs.map (fun p => keyW p.1) = ws.map (·.1) → Rds K H loc (kvs.map (·.2)) (ws.map (·.2)) →
    (valW ws k = none → valV kvs k = none) ∧ ∀ w, valW ws k = some w → ∃ v, valV kvs k = some v ∧ Rd K H loc v w
  | [], [], k, _, _ => ⟨fun _ => rfl, fun w h => by cases h⟩
  | [], _ :: _, _, h, _ => by cases h
  | _ :: _, [], _, h, _ => by cases h
  | p :: kvs, q :: ws, k, h, r => by
    simp only [List.map_cons, List.cons.injEq] at h
    cases r with
    | cons r1 r2 =>
      obtain ⟨h1, h2⟩ := val_rel (k := k) h.2 r2
      have hk : keyOf q.1 = some p.1 := by rw [← h.1, keyOf_keyW]
      rw [valW, hk]
      by_cases e : p.1 = k
      · rw [if_pos (by rw [e]), valV_pos e]
        exact ⟨fun z => (by cases z), fun w z => (by cases z; exact ⟨_, rfl, r1⟩)⟩
      · rw [if_neg (by simpa using e), valV_neg e]
        exact ⟨h1, h2⟩
end
/-- {} -/
def eDict : CE := fun _ M => some (.ref M.length, M ++ [.dK []])
@[simp] theorem eDict_eq {σ : Sl} {M : Mem} : eDict σ M = some (.ref M.length, M ++ [.dK []]) := nr rfl
/-- d[k] -/
def gGet (M : Mem) (x y : W) : Option (W × Mem) := match x, keyOf y with
  | .ref n, some k => match M[n]? with
    | some (.dK ws) => (valW ws k).map fun w => (w, M)
    | some (.dT .lockF ws) => (valW ws k).map fun w => (w, M)
    | _ => none
  | _, _ => none
section
variable {X : Cx} {a b : Expr} {ca cb : CE} {pos : Pos}
theorem r_dict : EV X (.Dict [] [] pos) eDict := pe_dnewK.mono fun σV H Q ⟨loc, σ, M, w, M', rel, e, aft⟩ => by
  cases e
  intro p hp
  refine aft _ _ (loc ++ [p]) (rel.st.new hp ⟨[], upd_same, rfl, fun _ h => (by cases h), .nil⟩) (.ref (last_get rel.st.len.symm)) (.new hp) (List.prefix_append _ _)
theorem r_get (hu : X.A.units + 1 < cLine) (ha : EV X a ca) (hb : EV X b cb) (hs : NoSl b) : EV X (.Subscript a b pos) (e2 gGet ca cb) := (pe_dget hu ha hb hs).mono fun σV H Q ⟨loc, σ, M, w, M', rel, e, aft⟩ => by
  obtain ⟨p, hp, e⟩ := bind_some e
  obtain ⟨q, hq, e⟩ := bind_some e
  refine run1 rel hp fun v H1 loc1 rel1 rd1 ex1 l1 => run1 rel1 hq fun u H2 loc2 rel2 rd2 ex2 l2 => ?_
  unfold gGet at e
  split at e
  · rename_i n k hn hk
    split at e
    · rename_i ws hw
      obtain ⟨x, hx, e⟩ := Option.map_eq_some_iff.mp e
      cases e
      rw [hn] at rd1
      cases rd1 with
      | ref hl =>
        obtain ⟨kvs, h1, h2, h3, h4⟩ := rel2.st.ok _ _ _ (pre_get l2 hl) hw
        obtain ⟨v2, g1, g2⟩ := (val_rel h2 h4).2 _ hx
        exact ⟨_, v2, rfl, .inl ⟨kvs, k, .inl h1, rd_key rd2 hk, g1.symm⟩, aft _ H2 loc2 rel2.st g2 (ex1.trans ex2) (l1.trans l2)⟩
    · rename_i ws hw
      obtain ⟨x, hx, e⟩ := Option.map_eq_some_iff.mp e
      cases e
      rw [hn] at rd1
      cases rd1 with
      | ref hl =>
        obtain ⟨od, kvs, h1, h2⟩ := rel2.st.ok _ _ _ (pre_get l2 hl) hw
        obtain ⟨v2, g1, g2⟩ := (val_rel h2.keys h2.vs).2 _ hx
        exact ⟨_, v2, rfl, .inl ⟨kvs, k, .inr ⟨od, h1⟩, rd_key rd2 hk, g1.symm⟩, aft _ H2 loc2 rel2.st g2 (ex1.trans ex2) (l1.trans l2)⟩
    · cases e
  · cases e
/-- a display of three texts -/
def eDisp3 (k1 v1 k2 v2 k3 v3 : Str) : CE := fun _ M => some (.ref M.length, M ++ [.dK [(.str k1, .str v1), (.str k2, .str v2), (.str k3, .str v3)]])
@[simp] theorem eDisp3_eq {σ : Sl} {M : Mem} (k1 v1 k2 v2 k3 v3 : Str) : eDisp3 k1 v1 k2 v2 k3 v3 σ M = some (.ref M.length, M ++ [.dK [(.str k1, .str v1), (.str k2, .str v2), (.str k3, .str v3)]]) := nr rfl
theorem upd_again {H : Hp} {p : Addr} {a b : HO} : upd (upd H p a) p b = upd H p b := by
  funext x
  by_cases h : x = p
  · subst h; rw [upd_same, upd_same]
  · rw [upd_ne h, upd_ne h, upd_ne h]
theorem merge3 {k1 k2 k3 : Str} {v1 v2 v3 : V} (h12 : k1 ≠ k2) (h13 : k1 ≠ k3) (h23 : k2 ≠ k3) : mergeK [] [(.inr k1, v1), (.inr k2, v2), (.inr k3, v3)] = [((.inr k1 : Key), v1), (.inr k2, v2), (.inr k3, v3)] := by
  have e12 : ¬ ((Sum.inr k1 : Key) = Sum.inr k2) := fun z => h12 (Sum.inr.inj z)
  have e13 : ¬ ((Sum.inr k1 : Key) = Sum.inr k3) := fun z => h13 (Sum.inr.inj z)
  have e23 : ¬ ((Sum.inr k2 : Key) = Sum.inr k3) := fun z => h23 (Sum.inr.inj z)
  simp [mergeK, putK, h12, h13, h23]
theorem r_disp3 {k1 v1 k2 v2 k3 v3 : Str} {i1 i2 i3 j1 j2 j3 p1 p2 p3 q1 q2 q3} (h12 : k1 ≠ k2 := by decide +kernel) (h13 : k1 ≠ k3 := by decide +kernel) (h23 : k2 ≠ k3 := by decide +kernel)
    (o1 : KeyOk (.inr k1) := by exact ⟨by decide +kernel, by decide +kernel⟩) (o2 : KeyOk (.inr k2) := by exact ⟨by decide +kernel, by decide +kernel⟩) (o3 : KeyOk (.inr k3) := by exact ⟨by decide +kernel, by decide +kernel⟩)
    (w1 : KeyOk (.inr v1) := by exact ⟨by decide +kernel, by decide +kernel⟩) (w2 : KeyOk (.inr v2) := by exact ⟨by decide +kernel, by decide +kernel⟩) (w3 : KeyOk (.inr v3) := by exact ⟨by decide +kernel, by decide +kernel⟩) :
    EV X (.Dict [some (.Constant (.str k1) i1 p1), some (.Constant (.str k2) i2 p2), some (.Constant (.str k3) i3 p3)] [.Constant (.str v1) j1 q1, .Constant (.str v2) j2 q2, .Constant (.str v3) j3 q3] pos) (eDisp3 k1 v1 k2 v2 k3 v3) :=
  (pe_disp (pps_cons pe_str pe_str (pps_cons pe_str pe_str (pps_cons pe_str pe_str pps_nil))) rfl rfl (by simp) (by simp)).mono fun σV H Q ⟨loc, σ, M, w, M', rel, e, aft⟩ => by
    cases e
    intro p hp
    refine ⟨upd_same, [(.inr k1, .str v1), (.inr k2, .str v2), (.inr k3, .str v3)], rfl, by simp, ?_⟩
    rw [upd_again, merge3 h12 h13 h23]
    refine aft _ _ (loc ++ [p]) (rel.st.new hp ⟨_, upd_same, rfl, fun q hq => ?_, .cons (.str _ w1.1 w1.2) (.cons (.str _ w2.1 w2.2) (.cons (.str _ w3.1 w3.2) .nil))⟩) (.ref (last_get rel.st.len.symm)) (.new hp) (List.prefix_append _ _)
    rcases List.mem_cons.mp hq with rfl | hq
    · exact o1
    rcases List.mem_cons.mp hq with rfl | hq
    · exact o2
    rw [List.mem_singleton] at hq
    rw [hq]; exact o3
end
end BF

set_option Elab.async false
set_option linter.all false
set_option autoImplicit false
set_option maxRecDepth 100000
/-! Dicts whose keys are nested tuples. -/
namespace BF
open PySem PySem.Spec
open PyProof.Rows L2
/-- a tuple as such a key -/
def keyT (w : W) : Option NestedKey := match w with
  | .tup ws => match keyNs ws with
    | some ks => if (NestedKey.tup ks).depth ≤ 8 then some (.tup ks) else none
    | none => none
  | _ => none
theorem keyT_some {w : W} {k : NestedKey} (h : keyT w = some k) : keyN w = some k ∧ k.depth ≤ 8 ∧ ∃ ws, w = .tup ws := by
  unfold keyT at h
  split at h
  · split at h
    · rename_i ks hk
      split at h
      · rename_i hd
        cases h
        exact ⟨by rw [keyN, hk]; rfl, hd, _, rfl⟩
      · cases h
    · cases h
  · cases h
/-- what stands at the key -/
def valN (ws : List (W × W)) (k : NestedKey) : Option W := (ws.find? fun p => decide (keyN p.1 = some k)).map (·.2)
/-- in its place, or at the end -/
def putN (ws : List (W × W)) (k : NestedKey) (x w : W) : List (W × W) :=
  if (valN ws k).isSome = true then ws.map fun p => if keyN p.1 = some k then (p.1, w) else p else ws ++ [(x, w)]
def valE (es : NE) (k : NestedKey) : Option V := (es.find? fun e => decide (e.1 = k)).map (·.2.2)
def putE (es : NE) (k : NestedKey) (b : Addr) (v : V) : NE :=
  if (valE es k).isSome = true then es.map fun e => if e.1 = k then (e.1, e.2.1, v) else e else es ++ [(k, b, v)]
theorem paired_get? {α β : Type} {G : α → β → Prop} {l₁ : List α} {l₂ : List β} (h : Paired G l₁ l₂) {i : Nat} {b : β} (e : l₂[i]? = some b) : ∃ a, l₁[i]? = some a ∧ G a b := by
  induction h generalizing i with
  | nil => simp at e
  | cons r t ih =>
    cases i with
    | zero => simp only [List.getElem?_cons_zero, Option.some.injEq] at e; subst e; exact ⟨_, rfl, r⟩
    | succ i => simp only [List.getElem?_cons_succ] at e ⊢; exact ih e
section
variable {X : Cx} {pins : List (Addr × Obj)} {σ : L2.St} {H : Hp} {s : Shared} {loc : List Addr}
mutual
theorem nest_is (I : Inv X pins σ H s) : ∀ {w : W} {v : V} {u : Value} {k : NestedKey}, Rd X.KW H loc v w → keyN w = some k → RelV v u → NestedIs s.heap k u
  | .non, _, _, _, r, e, q => by cases r; cases e; cases q; exact .none
  | .bl b, _, _, _, r, e, q => by cases r; cases e; cases q; exact .bool rfl
  | .int i, _, _, _, r, e, q => by cases r; cases e; obtain ⟨t, rfl⟩ := q; exact .int i t
  | .str x, _, _, _, r, e, q => by cases r; cases e; obtain ⟨t, rfl⟩ := q; exact .text x t
  | .tup ws, _, _, _, r, e, q => by
    cases r with
    | tup sq rs =>
      rw [keyN] at e
      obtain ⟨ks, hk, rfl⟩ := Option.map_eq_some_iff.mp e
      cases (show _ = Value.ref _ from q)
      obtain ⟨its, rv, ⟨o, ho, hc, n, hd⟩, _⟩ := I.tuple sq
      exact .tup ho hc hd (by rw [List.toList_toArray]; exact nest_all I rs hk rv)
  | .ref _, _, _, _, r, e, q => by cases e
theorem nest_all (I : Inv X pins σ H s) : ∀ {ws : List W} {vs : List V} {us : List Value} {ks : List NestedKey}, Rds X.KW H loc vs ws → keyNs ws = some ks → Vals vs us → NestedAll s.heap ks us
  | [], _, _, _, r, e, q => by cases r; cases e; cases q; exact .nil
  | w :: ws, _, _, _, r, e, q => by
    cases r with
    | cons r1 r2 =>
      cases q with
      | cons q1 q2 =>
        rw [keyNs] at e
        split at e
        · rename_i k ks h1 h2
          cases e
          exact .cons (nest_is I r1 h1 q1) (nest_all I r2 h2 q2)
        · cases e
end
theorem nest_key (I : Inv X pins σ H s) {w : W} {v : V} {u : Value} {k : NestedKey} (r : Rd X.KW H loc v w) (h : keyT w = some k) (q : RelV v u) : ∃ a, v = .ref a ∧ u = .ref a ∧ (nestedKind X.prog X.w).is s.heap k a := by
  obtain ⟨h1, h2, ws, rfl⟩ := keyT_some h
  have n := nest_is I r h1 q
  cases r with
  | @tup a xs _ sq rs =>
    cases (show _ = Value.ref _ from q)
    exact ⟨a, rfl, rfl, n, h2⟩
theorem nest_dict (I : Inv X pins σ H s) {es : NE} {ws : List (W × W)} {a : Addr} (n : NestOk X.KW H loc es ws) (e : L2.Rd H a (nestO X.w a es)) :
    es.length ≤ sizeLine ∧ (a == sysModules) = false ∧ ∃ xs, NP es xs ∧ s.heap.DictOfH (nestedKind X.prog X.w) a xs := by
  have ob : ObjOk X.prog X.w H s.heap a (nestO X.w a es) := rd_of I.hok e
  obtain ⟨⟨z, hd, xs, np, o, en, ep, h1, h2, h3, h4, h5⟩, _⟩ := ob
  refine ⟨z, hd, xs, np, o, en, ep, h1, h2, h3, h4, fun x hx => ?_, h5⟩
  obtain ⟨i, hi⟩ := List.getElem?_of_mem hx
  obtain ⟨q, hq, e1, e2, _⟩ := paired_get? np hi
  have k1 : (es.map fun e => some e.1)[i]? = some (some q.1) := by rw [List.getElem?_map, hq]; rfl
  have k2 : (es.map fun e => V.ref e.2.1)[i]? = some (.ref q.2.1) := by rw [List.getElem?_map, hq]; rfl
  obtain ⟨w, hw, rw'⟩ := n.ks.get' k2
  rw [n.keys, List.getElem?_map] at k1
  rw [List.getElem?_map] at hw
  cases hp : ws[i]? with
  | none => rw [hp] at hw; cases hw
  | some p =>
    rw [hp] at k1 hw
    have k3 : keyN p.1 = some q.1 := Option.some.inj k1
    have k4 : p.1 = w := Option.some.inj hw
    rw [← k4] at rw'
    have := nest_is I rw' k3 (u := .ref q.2.1) rfl
    rw [e1, e2] at this
    exact ⟨this, by rw [← e1]; exact n.dep q (List.mem_of_getElem? hq)⟩
theorem np_val {es : NE} {xs : List (NestedKey × Addr × Value)} (r : NP es xs) (k : NestedKey) : RelO (valE es k) ((atKey xs k).map (·.2)) := by
  unfold valE atKey
  induction r with
  | nil => trivial
  | @cons p q ps qs h t ih =>
    obtain ⟨e1, e2, e3⟩ := h
    by_cases e : p.1 = k
    · rw [List.find?_cons_of_pos (by simpa using e), List.find?_cons_of_pos (by rw [← e1]; simpa using e)]
      exact e3
    · rw [List.find?_cons_of_neg (by simpa using e), List.find?_cons_of_neg (by rw [← e1]; simpa using e)]
      exact ih
theorem np_put {es : NE} {xs : List (NestedKey × Addr × Value)} (r : NP es xs) (k : NestedKey) (b : Addr) {v : V} {u : Value} (q : RelV v u) : NP (putE es k b v) (storedH xs k b u) := by
  unfold putE storedH
  have e : (valE es k).isSome = (atKey xs k).isSome := by
    have := np_val r k
    rw [this.isSome_eq, Option.isSome_map]
  rw [e]
  split
  · rename_i hz
    clear e hz
    induction r with
    | nil => exact .nil
    | @cons p x ps qs h t ih =>
      rw [List.map_cons, List.map_cons]
      refine .cons ?_ ih
      obtain ⟨e1, e2, e3⟩ := h
      unfold putAt
      by_cases e : p.1 = k
      · rw [if_pos e, if_pos (by rw [← e1]; exact e)]; exact ⟨e1, e2, q⟩
      · rw [if_neg e, if_neg (by rw [← e1]; exact e)]; exact ⟨e1, e2, e3⟩
  · exact Paired.snoc r ⟨rfl, rfl, q⟩
theorem ok_val {es : NE} {ws : List (W × W)} {K : KW} (n : NestOk K H loc es ws) (k : NestedKey) : (valN ws k = none → valE es k = none) ∧ ∀ w, valN ws k = some w → ∃ v, valE es k = some v ∧ Rd K H loc v w := by
  have h1 := n.keys
  have h4 := n.vs
  clear n
  unfold valN valE
  induction es generalizing ws with
  | nil =>
    cases ws with
    | nil => exact ⟨fun _ => rfl, fun w h => (by cases h)⟩
    | cons _ _ => cases h1
  | cons e es ih =>
    cases ws with
    | nil => cases h1
    | cons p ws =>
      simp only [List.map_cons, List.cons.injEq] at h1 h4
      cases h4 with
      | cons r1 r2 =>
        by_cases he : e.1 = k
        · have hp : keyN p.1 = some k := by rw [← h1.1, he]
          rw [List.find?_cons_of_pos (by simpa using hp), List.find?_cons_of_pos (by simpa using he)]
          exact ⟨fun z => (by cases z), fun w z => (by cases z; exact ⟨_, rfl, r1⟩)⟩
        · have hp : ¬ keyN p.1 = some k := by rw [← h1.1]; simpa using he
          rw [List.find?_cons_of_neg (by simpa using hp), List.find?_cons_of_neg (by simpa using he)]
          exact ih h1.2 r2
theorem rds_map2 {K : KW} {es : NE} {ws : List (W × W)} {k : NestedKey} {v : V} {w : W} (r : Rd K H loc v w) (hk : es.map (fun e => some e.1) = ws.map (fun p => keyN p.1)) (h : Rds K H loc (es.map fun e => e.2.2) (ws.map (·.2))) :
    Rds K H loc ((es.map fun e => if e.1 = k then (e.1, e.2.1, v) else e).map fun e => e.2.2) ((ws.map fun p => if keyN p.1 = some k then (p.1, w) else p).map (·.2)) := by
  induction es generalizing ws with
  | nil =>
    cases ws with
    | nil => exact .nil
    | cons _ _ => cases hk
  | cons e es ih =>
    cases ws with
    | nil => cases hk
    | cons p ws =>
      simp only [List.map_cons, List.cons.injEq] at hk h ⊢
      cases h with
      | cons r1 r2 =>
        refine .cons ?_ (ih hk.2 r2)
        by_cases he : e.1 = k
        · rw [if_pos he, if_pos (by rw [← hk.1, he])]; exact r
        · rw [if_neg he, if_neg (by rw [← hk.1]; simpa using he)]; exact r1
theorem ok_put {K : KW} {es : NE} {ws : List (W × W)} {k : NestedKey} {b : Addr} {v : V} {x w : W} (n : NestOk K H loc es ws) (hx : keyN x = some k) (hd : k.depth ≤ 8) (rx : Rd K H loc (.ref b) x) (rv : Rd K H loc v w) : NestOk K H loc (putE es k b v) (putN ws k x w) := by
  have e : (valE es k).isSome = (valN ws k).isSome := by
    obtain ⟨a1, a2⟩ := ok_val n k
    cases h : valN ws k with
    | none => rw [a1 h]; rfl
    | some y => obtain ⟨v, hv, _⟩ := a2 y h; rw [hv]; rfl
  unfold putE putN
  rw [e]
  split
  · have e1 : (fun e : NestedKey × Addr × V => (if e.1 = k then (e.1, e.2.1, v) else e).1) = fun e => e.1 := by funext e; split <;> rfl
    have e2 : (fun e : NestedKey × Addr × V => (if e.1 = k then (e.1, e.2.1, v) else e).2.1) = fun e => e.2.1 := by funext e; split <;> rfl
    have e3 : (fun p : W × W => (if keyN p.1 = some k then (p.1, w) else p).1) = fun p => p.1 := by funext p; split <;> rfl
    refine ⟨?_, fun q hq => ?_, ?_, rds_map2 rv n.keys n.vs⟩
    · rw [List.map_map, List.map_map]
      have := n.keys
      refine Eq.trans (List.map_congr_left fun e _ => ?_) (this.trans (List.map_congr_left fun p _ => ?_))
      · exact congrArg some (congrFun e1 e)
      · exact congrArg keyN (congrFun e3 p).symm
    · obtain ⟨q0, hq0, rfl⟩ := List.mem_map.mp hq
      have := n.dep q0 hq0
      split <;> exact this
    · have := n.ks
      rw [List.map_map, List.map_map]
      rw [show ((fun e : NestedKey × Addr × V => V.ref e.2.1) ∘ fun e => if e.1 = k then (e.1, e.2.1, v) else e) = fun e => V.ref e.2.1 from funext fun e => congrArg V.ref (congrFun e2 e)]
      rw [show ((fun p : W × W => p.1) ∘ fun p => if keyN p.1 = some k then (p.1, w) else p) = fun p => p.1 from e3]
      exact this
  · refine ⟨?_, fun q hq => ?_, ?_, ?_⟩
    · rw [List.map_append, List.map_append, n.keys]
      simp only [List.map_cons, List.map_nil, hx]
    · rcases List.mem_append.mp hq with hq | hq
      · exact n.dep q hq
      · rw [List.mem_singleton] at hq; subst hq; exact hd
    · rw [List.map_append, List.map_append]
      exact n.ks.append (.cons rx .nil)
    · rw [List.map_append, List.map_append]
      exact n.vs.append (.cons rv .nil)
theorem putE_length (es : NE) (k : NestedKey) (b : Addr) (v : V) : (putE es k b v).length ≤ es.length + 1 := by
  unfold putE
  split <;> simp
theorem nest_new {P : Program} {w : World} {H' : Hp} {h' : Heap} {a : Addr} {es : NE} {xs : List (NestedKey × Addr × Value)} (z : es.length ≤ sizeLine) (hd : (a == sysModules) = false) (np : NP es xs) (dd : h'.DictOfH (nestedKind P w) a xs) : ObjOk P w H' h' a (nestO w a es) := by
  obtain ⟨o, en, ep, h1, h2, h3, h4, _, h5⟩ := dd
  exact ⟨⟨z, hd, xs, np, o, en, ep, h1, h2, h3, h4, h5⟩, ⟨o, h1⟩, fun g1 g2 ⟨z, hd, xs, np, o, en, ep, h1, h2, h3, h4, h5⟩ k => ⟨z, hd, xs, np, o, en, ep, k _ h1, h2, h3, h4, h5⟩⟩
end
end BF

set_option Elab.async false
set_option linter.all false
set_option autoImplicit false
set_option maxRecDepth 100000
/-! Dicts whose keys are nested tuples: the rules. -/
namespace BF
open PySem PySem.Spec
open PyProof.Rows L2
/-- what the dict at a holds at the key y -/
def NGet (K : KW) (H : Hp) (a : Addr) (y : V) (o : Option V) : Prop := ∃ loc es ws x k, L2.Rd H a (nestO K.wd a es) ∧ NestOk K H loc es ws ∧ Rd K H loc y x ∧ keyT x = some k ∧ o = valE es k
/-- a is such a dict -/
def NIs (K : KW) (H : Hp) (a : Addr) : Prop := ∃ loc es ws, L2.Rd H a (nestO K.wd a es) ∧ NestOk K H loc es ws
section
variable {X : Cx} {pins : List (Addr × Obj)} {σ : L2.St} {H : Hp} {s : Shared} {a : Addr} {y v d : V} {u r : Value} {o : Option V} {E : Value → Shared → Prop}
theorem nget_at (I : Inv X pins σ H s) (g : NGet X.KW H a y o) (ry : RelV y u) : ∃ b k xs, u = .ref b ∧ (nestedKind X.prog X.w).is s.heap k b ∧ (a == sysModules) = false ∧ s.heap.DictOfH (nestedKind X.prog X.w) a xs ∧ RelO o ((atKey xs k).map (·.2)) := by
  obtain ⟨loc, es, ws, x, k, h1, h2, h3, h4, rfl⟩ := g
  obtain ⟨b, _, rfl, hk⟩ := nest_key I h3 h4 ry
  obtain ⟨_, hd, xs, np, dd⟩ := nest_dict I h2 h1
  exact ⟨b, k, xs, rfl, hk, hd, dd, np_val np k⟩
theorem room_nest {A : Around} (hu : A.units + 64 < cLine) : (nestedKind X.prog X.w).room A.in1 := by
  show A.units + 1 + 8 < cLine
  omega
theorem n_getItem {Q : Value → Shared → Prop} (hu : X.A.units + 64 < cLine) (I : Inv X pins σ H s) (g : NGet X.KW H a y (some v)) (ry : RelV y u) (h : ∀ w' s', Inv X pins σ H s' → RelV v w' → Q w' s') :
    s.TypeIs (.ref a) "dict" ∧ wpAny (model X.prog X.w) X.A (getItem (.ref a) u) Q E s := by
  obtain ⟨b, k, xs, rfl, hk, hd, dd, ro⟩ := nget_at I g ry
  obtain ⟨w', hw, rw'⟩ := RelO.some_of ro
  obtain ⟨p, hp, hp2⟩ := Option.map_eq_some_iff.mp hw
  refine ⟨dd.typeIs, wpAny_getItem_heap (room_nest hu) hk dd hp ?_⟩
  rw [hp2]
  exact h w' _ (I.tok _) rw'
def rNIn (K : KW) : R2 := fun x z H Q => ∃ a o, z = .ref a ∧ NGet K H a x o ∧ Q (.bl o.isSome) H
def rNNotIn (K : KW) : R2 := fun x z H Q => ∃ a o, z = .ref a ∧ NGet K H a x o ∧ Q (.bl (!o.isSome)) H
theorem op_nin (hu : X.A.units + 64 < cLine) : OpR X (compareOp .In) (rNIn X.KW) := by
  intro pins s σ H x z v u Q I rx rz h
  obtain ⟨a, o, rfl, g, q⟩ := h
  cases (show u = Value.ref a from rz)
  obtain ⟨b, k, xs, rfl, hk, hd, dd, ro⟩ := nget_at I g rx
  refine wpAny_in_heap (room_nest hu) hk hd dd ⟨.bl o.isSome, H, I.tok _, ?_, q⟩
  have := ro.isSome_eq
  rw [Option.isSome_map] at this
  rw [this]
  rfl
theorem op_nnotin (hu : X.A.units + 64 < cLine) : OpR X (compareOp .NotIn) (rNNotIn X.KW) := by
  intro pins s σ H x z v u Q I rx rz h
  obtain ⟨a, o, rfl, g, q⟩ := h
  cases (show u = Value.ref a from rz)
  obtain ⟨b, k, xs, rfl, hk, hd, dd, ro⟩ := nget_at I g rx
  refine wpAny_notIn_heap (room_nest hu) hk hd dd ⟨.bl (!o.isSome), H, I.tok _, ?_, q⟩
  have := ro.isSome_eq
  rw [Option.isSome_map] at this
  rw [this]
  rfl
/-- a[y] = v -/
def rNPut (K : KW) : TSet := fun x y v H Q => ∃ a es k b ws loc z, x = .ref a ∧ y = .ref b ∧ H a = some (nestO K.wd a es) ∧ NestOk K H loc es ws ∧ Rd K H loc y z ∧ keyT z = some k ∧ es.length < sizeLine ∧ Q (upd H a (nestO K.wd a (putE es k b v)))
theorem o_nput (hu : X.A.units + 64 < cLine) : PSet X (rNPut X.KW) := by
  intro pins s σ H o i v ov iv u Q I ro ri rv h
  obtain ⟨a, es, k, b, ws, loc, z, rfl, rfl, e, n, rz, hz, hl, q⟩ := h
  cases (show ov = Value.ref a from ro)
  cases (show iv = Value.ref b from ri)
  obtain ⟨b', eb, eb2, hk⟩ := nest_key I rz hz (u := .ref b) rfl
  cases eb
  obtain ⟨hz2, hd, xs, np, dd⟩ := nest_dict I n (.inl e)
  have hlx : xs.length ≤ sizeLine := by rw [← Paired.length np]; exact hz2
  refine wpAny_setItem_heap (hsz := hlx) (room_nest hu) hk dd fun h' dd' hs => ⟨_, ?_, q⟩
  have hl2 : (putE es k b v).length ≤ sizeLine := by have := putE_length es k b v; omega
  have he : ∃ q, h'.get? a = some q := let ⟨q, _, _, hq, _⟩ := dd'; ⟨q, hq⟩
  exact d_write I (by rw [e]; exact True.intro) hs he (nest_new hl2 hd (np_put np k b rv) dd')
/-- a.get(y, d) -/
theorem n_get2 {Q : Value → Shared → Prop} (hu : X.A.units + 64 < cLine) (I : Inv X pins σ H s) (g : NGet X.KW H a y o) (ry : RelV y u) (rd : RelV d r) (h : ∀ w' s', Inv X pins σ H s' → RelV (o.getD d) w' → Q w' s') :
    wpAny (model X.prog X.w) X.A (call (.builtin "dict.get") [.ref a, u, r]) Q E s := by
  obtain ⟨b, k, xs, rfl, hk, hd, dd, ro⟩ := nget_at I g ry
  exact call_meetsIn PySem.F.slot_dict_get dd.typeIs PySem.F.entry_dict_get (PySem.F.args_dict_get_3 _ _ _) (meetsH_dict_get_default (nestedKind X.prog X.w) a b hd r) ⟨room_nest hu, k, xs, hk, dd, h _ _ (I.tok _) (ro.getD rd)⟩
theorem n_get1 {Q : Value → Shared → Prop} (hu : X.A.units + 64 < cLine) (I : Inv X pins σ H s) (g : NGet X.KW H a y o) (ry : RelV y u) (h : ∀ w' s', Inv X pins σ H s' → RelV (o.getD .non) w' → Q w' s') :
    wpAny (model X.prog X.w) X.A (call (.builtin "dict.get") [.ref a, u]) Q E s := by
  obtain ⟨b, k, xs, rfl, hk, hd, dd, ro⟩ := nget_at I g ry
  exact call_meetsIn PySem.F.slot_dict_get dd.typeIs PySem.F.entry_dict_get (PySem.F.args_dict_get_2 _ _) (meetsH_dict_get (nestedKind X.prog X.w) a b hd) ⟨room_nest hu, k, xs, hk, dd, h _ _ (I.tok _) (ro.getD rfl)⟩
theorem nis_at (I : Inv X pins σ H s) (d : NIs X.KW H a) : s.TypeIs (.ref a) "dict" ∧ (∀ b, Value.ref a = .ref b → ∃ ob, s.heap.get? b = some ob ∧ ob.dict = none) := by
  obtain ⟨loc, es, ws, h1, h2⟩ := d
  obtain ⟨_, hd, xs, np, dd⟩ := nest_dict I h2 h1
  refine ⟨dd.typeIs, fun b q => ?_⟩
  cases q
  obtain ⟨ob, _, _, g1, g2, _⟩ := dd
  exact ⟨ob, g1, g2.2.1⟩
end

/-! ### the plain operations -/
/-- the entries of such a dict, walked or not -/
def nestAt (M : Mem) (n : Nat) : Option (List (W × W)) := match M[n]? with
  | some (.dT .nest ws) => some ws
  | some (.dT .lockN ws) => some ws
  | _ => none
def gGetN (M : Mem) (x y : W) : Option (W × Mem) := match x, keyT y with
  | .ref n, some k => ((nestAt M n).bind fun ws => valN ws k).map fun w => (w, M)
  | _, _ => none
def gInN (M : Mem) (x y : W) : Option (W × Mem) := match y, keyT x with
  | .ref n, some k => (nestAt M n).map fun ws => (.bl (valN ws k).isSome, M)
  | _, _ => none
def gNotInN (M : Mem) (x y : W) : Option (W × Mem) := match y, keyT x with
  | .ref n, some k => (nestAt M n).map fun ws => (.bl (!(valN ws k).isSome), M)
  | _, _ => none
def putNM (M : Mem) (o x w : W) : Option Mem := match o, keyT x with
  | .ref n, some k => match M[n]? with
    | some (.dT .nest ws) => if ws.length < 16777216 then some (M.set n (.dT .nest (putN ws k x w))) else none
    | _ => none
  | _, _ => none
/-- o.get(k, d) -/
def eGetN2 (o k d : CE) : CE := fun σ M => (o σ M).bind fun p => match p.1 with
  | .ref n => if (nestAt p.2 n).isSome = true then (k σ p.2).bind fun q => (d σ q.2).bind fun r => match keyT q.1 with
    | some kk => (nestAt r.2 n).map fun ws => ((valN ws kk).getD r.1, r.2)
    | none => none
    else none
  | _ => none
/-- o.get(k) -/
def eGetN1 (o k : CE) : CE := fun σ M => (o σ M).bind fun p => match p.1 with
  | .ref n => if (nestAt p.2 n).isSome = true then (k σ p.2).bind fun q => match keyT q.1 with
    | some kk => (nestAt q.2 n).map fun ws => ((valN ws kk).getD .non, q.2)
    | none => none
    else none
  | _ => none
def eDictN : CE := fun _ M => some (.ref M.length, M ++ [.dT .nest []])
@[simp] theorem eDictN_eq {σ : Sl} {M : Mem} : eDictN σ M = some (.ref M.length, M ++ [.dT .nest []]) := nr rfl
/-- {k: v} -/
def eNDisp (k v : CE) : CE := fun σ M => (k σ (M ++ [.dT .nest []])).bind fun p => (v σ p.2).bind fun q => match keyT p.1 with
  | some kk => match q.2[M.length]? with
    | some (.dT .nest []) => some (.ref M.length, q.2.set M.length (.dT .nest [(p.1, q.1)]))
    | _ => none
  | none => none
section
variable {K : KW} {H : Hp} {loc : List Addr} {M : Mem}
theorem nestAt_ok (s : Store K H loc M) {n : Nat} {a : Addr} {ws : List (W × W)} (ha : loc[n]? = some a) (h : nestAt M n = some ws) : ∃ es, L2.Rd H a (nestO K.wd a es) ∧ NestOk K H loc es ws := by
  unfold nestAt at h
  split at h
  · rename_i ws' hw
    cases h
    obtain ⟨es, h1, h2⟩ := s.ok n a _ ha hw
    exact ⟨es, .inl h1, h2⟩
  · rename_i ws' hw
    cases h
    obtain ⟨o, es, h1, h2⟩ := s.ok n a _ ha hw
    exact ⟨es, .inr ⟨o, h1⟩, h2⟩
  · cases h
theorem nget_of (s : Store K H loc M) {n : Nat} {a : Addr} {ws : List (W × W)} {y : V} {x : W} {k : NestedKey} (ha : loc[n]? = some a) (h : nestAt M n = some ws) (ry : Rd K H loc y x) (hk : keyT x = some k) :
    ∃ o, NGet K H a y o ∧ (valN ws k = none → o = none) ∧ ∀ w, valN ws k = some w → ∃ v, o = some v ∧ Rd K H loc v w := by
  obtain ⟨es, h1, h2⟩ := nestAt_ok s ha h
  obtain ⟨h3, h4⟩ := ok_val h2 k
  exact ⟨valE es k, ⟨loc, es, ws, x, k, h1, h2, ry, hk, rfl⟩, h3, h4⟩
theorem nget_isSome {o : Option V} {w : Option W} (h1 : w = none → o = none) (h2 : ∀ x, w = some x → ∃ v, o = some v ∧ Rd K H loc v x) : o.isSome = w.isSome := by
  cases w with
  | none => rw [h1 rfl]; rfl
  | some x => obtain ⟨v, rfl, _⟩ := h2 x rfl; rfl
theorem nget_getD {o : Option V} {w : Option W} {d : V} {e : W} (h1 : w = none → o = none) (h2 : ∀ x, w = some x → ∃ v, o = some v ∧ Rd K H loc v x) (h3 : Rd K H loc d e) : Rd K H loc (o.getD d) (w.getD e) := by
  cases w with
  | none => rw [h1 rfl]; exact h3
  | some x => obtain ⟨v, rfl, r⟩ := h2 x rfl; exact r
theorem l_inN : Lift2 K (rNIn K) gInN := by
  intro H loc M x y v u w M' Q s rx ry e aft
  unfold gInN at e
  split at e
  · rename_i n k hk
    obtain ⟨ws, hw, e⟩ := Option.map_eq_some_iff.mp e
    cases e
    cases ry with
    | ref ha =>
      obtain ⟨o, g, g1, g2⟩ := nget_of s ha hw rx hk
      refine ⟨_, o, rfl, g, ?_⟩
      rw [nget_isSome g1 g2]
      exact aft _ H loc s (.bl _) .refl (List.prefix_refl _)
  · cases e
theorem l_notInN : Lift2 K (rNNotIn K) gNotInN := by
  intro H loc M x y v u w M' Q s rx ry e aft
  unfold gNotInN at e
  split at e
  · rename_i n k hk
    obtain ⟨ws, hw, e⟩ := Option.map_eq_some_iff.mp e
    cases e
    cases ry with
    | ref ha =>
      obtain ⟨o, g, g1, g2⟩ := nget_of s ha hw rx hk
      refine ⟨_, o, rfl, g, ?_⟩
      rw [nget_isSome g1 g2]
      exact aft _ H loc s (.bl _) .refl (List.prefix_refl _)
  · cases e
theorem p_nput : LiftP K (rNPut K) putNM := by
  intro H loc M x y z o i v M' Q s rx ry rz e h
  unfold putNM at e
  split at e
  · rename_i n k hk
    split at e
    · rename_i ws hw
      split at e
      · rename_i hl
        cases e
        cases rx with
        | @ref a _ ha =>
          obtain ⟨es, h1, h2⟩ := s.ok n a _ ha hw
          obtain ⟨kn, kd, us, rfl⟩ := keyT_some hk
          cases ry with
          | @tup b xs _ sq rs =>
            have hle : es.length = ws.length := by
              have := congrArg List.length h2.keys
              simpa using this
            refine ⟨a, es, k, b, ws, loc, .tup us, rfl, rfl, h1, h2, .tup sq rs, hk, by rw [hle]; exact hl, ?_⟩
            have ex : Ext K H (upd H a (nestO K.wd a (putE es k b v))) := .upd h1 trivial
            refine h _ loc (s.put ha hw rfl rfl ⟨_, upd_same, (ok_put h2 kn kd (.tup sq rs) rz).mono ex (List.prefix_refl _)⟩) ex (List.prefix_refl _)
      · cases e
    · cases e
  · cases e
end
section
variable {X : Cx} {a b c : Expr} {ca cb cc : CE} {pos apos cpos : Pos}
theorem r_getN (hu : X.A.units + 64 < cLine) (ha : EV X a ca) (hb : EV X b cb) (hs : NoSl b) : EV X (.Subscript a b pos) (e2 gGetN ca cb) := ⟨fun pins s σV H Q I ⟨loc, σ, M, w, M', rel, e, aft⟩ => by
  obtain ⟨p, hp, e⟩ := bind_some e
  obtain ⟨q, hq, e⟩ := bind_some e
  refine subD_of PySem.F.slot_dict_getitem.lookup hs (thn (ha.run pins s σV H (fun x H1 => TC X.KW cb σV H1 fun y H2 => ∃ a v, x = .ref a ∧ NGet X.KW H2 a y (some v) ∧ Q v H2) I ?_) fun u s1 ⟨x, H1, I1, rx, q1⟩ => thn (hb.run pins s1 σV H1 _ I1 q1) fun iv s2 ⟨y, H2, I2, ry, a, v, ex, g, q2⟩ => ?_)
  · refine run1 rel hp fun v H1 loc1 rel1 rd1 ex1 l1 => run1 rel1 hq fun u H2 loc2 rel2 rd2 ex2 l2 => ?_
    unfold gGetN at e
    split at e
    · rename_i n k hn hk
      obtain ⟨z, hz, e⟩ := Option.map_eq_some_iff.mp e
      obtain ⟨ws, hw, hz⟩ := bind_some hz
      cases e
      rw [hn] at rd1
      cases rd1 with
      | ref hl =>
        obtain ⟨o, g, g1, g2⟩ := nget_of rel2.st (pre_get l2 hl) hw rd2 hk
        obtain ⟨v, rfl, rv⟩ := g2 _ hz
        exact ⟨_, v, rfl, g, aft _ H2 loc2 rel2.st rv (ex1.trans ex2) (l1.trans l2)⟩
    · cases e
  · subst ex
    obtain rfl : u = Value.ref a := rx
    exact n_getItem hu I2 g ry fun w' s3 I3 rw' => ⟨v, H2, I3, rw', q2⟩⟩
theorem r_getN2 (hu : X.A.units + 64 < cLine) (ha : EV X a ca) (hb : EV X b cb) (hc : EV X c cc) (m : M2 X a "get" apos b c cpos := by exact ⟨by rfl, by rfl, by rfl, by rfl⟩) : EV X (.Call (.Attribute a "get" apos) [b, c] [] cpos) (eGetN2 ca cb cc) := ⟨fun pins s σV H Q I ⟨loc, σ, M, w, M', rel, e, aft⟩ => by
  obtain ⟨p, hp, e⟩ := bind_some e
  refine wpAny_Call_method m.base m.few m.line PySem.F.plainAttrs_dict PySem.F.slot_dict_get PySem.F.type_dict_get (thn (ha.run pins s σV H (fun x H1 => ∃ a, x = .ref a ∧ NIs X.KW H1 a ∧ TC X.KW cb σV H1 fun y H2 => TC X.KW cc σV H2 fun z H3 => ∃ o, NGet X.KW H3 a y o ∧ Q (o.getD z) H3) I ?_) fun u s1 ⟨x, H1, I1, rx, a, ex, d, q1⟩ => ?_)
  · refine run1 rel hp fun v H1 loc1 rel1 rd1 ex1 l1 => ?_
    split at e
    · rename_i n hn
      split at e
      · rename_i hz
        obtain ⟨ws0, hw0⟩ := Option.isSome_iff_exists.mp hz
        rw [hn] at rd1
        cases rd1 with
        | @ref ad _ hl =>
          obtain ⟨es, h1, h2⟩ := nestAt_ok rel1.st hl hw0
          obtain ⟨q, hq, e⟩ := bind_some e
          obtain ⟨r, hr, e⟩ := bind_some e
          refine ⟨ad, rfl, ⟨loc1, es, ws0, h1, h2⟩, run1 rel1 hq fun y H2 loc2 rel2 rd2 ex2 l2 => run1 rel2 hr fun z H3 loc3 rel3 rd3 ex3 l3 => ?_⟩
          split at e
          · rename_i kk hk
            obtain ⟨ws, hw, e⟩ := Option.map_eq_some_iff.mp e
            cases e
            obtain ⟨o, g, g1, g2⟩ := nget_of rel3.st (pre_get l3 (pre_get l2 hl)) hw (rd2.mono ex3 l3) hk
            exact ⟨o, g, aft _ H3 loc3 rel3.st (nget_getD g1 g2 rd3) ((ex1.trans ex2).trans ex3) ((l1.trans l2).trans l3)⟩
          · cases e
      · cases e
    · cases e
  · subst ex
    obtain rfl : u = Value.ref a := rx
    obtain ⟨t1, t2⟩ := nis_at I1 d
    refine ⟨t1, t2, ?_⟩
    rw [m.trees]
    refine Calls.callWith_builtin rfl (Calls.evalArgs_plain (Calls.spliced_cons (thn (hb.run pins s1 σV H1 _ I1 q1) fun iv s2 ⟨y, H2, I2, ry, q2⟩ =>
      Calls.spliced_cons (thn (hc.run pins s2 σV H2 _ I2 q2) fun fv s3 ⟨z, H3, I3, rz, ov, g, q3⟩ => Calls.spliced_nil ?_))))
    exact n_get2 hu I3 g ry rz fun w' s4 I4 rw' => ⟨_, H3, I4, rw', q3⟩⟩
theorem r_getN1 (hu : X.A.units + 64 < cLine) (ha : EV X a ca) (hb : EV X b cb) (m : M1 X a "get" apos b cpos := by exact ⟨by rfl, by rfl, by rfl, by rfl⟩) : EV X (.Call (.Attribute a "get" apos) [b] [] cpos) (eGetN1 ca cb) := ⟨fun pins s σV H Q I ⟨loc, σ, M, w, M', rel, e, aft⟩ => by
  obtain ⟨p, hp, e⟩ := bind_some e
  refine wpAny_Call_method m.base m.few m.line PySem.F.plainAttrs_dict PySem.F.slot_dict_get PySem.F.type_dict_get (thn (ha.run pins s σV H (fun x H1 => ∃ a, x = .ref a ∧ NIs X.KW H1 a ∧ TC X.KW cb σV H1 fun y H2 => ∃ o, NGet X.KW H2 a y o ∧ Q (o.getD .non) H2) I ?_) fun u s1 ⟨x, H1, I1, rx, a, ex, d, q1⟩ => ?_)
  · refine run1 rel hp fun v H1 loc1 rel1 rd1 ex1 l1 => ?_
    split at e
    · rename_i n hn
      split at e
      · rename_i hz
        obtain ⟨ws0, hw0⟩ := Option.isSome_iff_exists.mp hz
        rw [hn] at rd1
        cases rd1 with
        | @ref ad _ hl =>
          obtain ⟨es, h1, h2⟩ := nestAt_ok rel1.st hl hw0
          obtain ⟨q, hq, e⟩ := bind_some e
          refine ⟨ad, rfl, ⟨loc1, es, ws0, h1, h2⟩, run1 rel1 hq fun y H2 loc2 rel2 rd2 ex2 l2 => ?_⟩
          split at e
          · rename_i kk hk
            obtain ⟨ws, hw, e⟩ := Option.map_eq_some_iff.mp e
            cases e
            obtain ⟨o, g, g1, g2⟩ := nget_of rel2.st (pre_get l2 hl) hw rd2 hk
            exact ⟨o, g, aft _ H2 loc2 rel2.st (nget_getD g1 g2 .non) (ex1.trans ex2) (l1.trans l2)⟩
          · cases e
      · cases e
    · cases e
  · subst ex
    obtain rfl : u = Value.ref a := rx
    obtain ⟨t1, t2⟩ := nis_at I1 d
    refine ⟨t1, t2, ?_⟩
    rw [m.trees]
    refine Calls.callWith_builtin rfl (Calls.evalArgs_plain (Calls.spliced_cons (thn (hb.run pins s1 σV H1 _ I1 q1) fun iv s2 ⟨y, H2, I2, ry, ov, g, q2⟩ => Calls.spliced_nil ?_)))
    exact n_get1 hu I2 g ry fun w' s4 I4 rw' => ⟨_, H2, I4, rw', q2⟩⟩
theorem nest_empty (h : Heap) {w : World} {H' : Hp} {P : Program} (hb : sysModules < h.objs.size) : ObjOk P w H' (h.push { cls := .type "dict", data := .dict #[] }) h.objs.size (nestO w h.objs.size []) :=
  nest_new (Nat.zero_le _) (beq_eq_false_iff_ne.mpr (Ne.symm (Nat.ne_of_lt hb))) .nil (Heap.DictOfH.new h)
theorem new_nest {K : KW} {H : Hp} {loc : List Addr} {M : Mem} {q : Addr} (s : Store K H loc M) (hq : H q = none) : Store K (upd H q (nestO K.wd q [])) (loc ++ [q]) (M ++ [.dT .nest []]) :=
  s.new hq ⟨[], upd_same, ⟨rfl, fun _ h => (by cases h), .nil, .nil⟩⟩
theorem r_dictN : EV X (.Dict [] [] pos) eDictN := ⟨fun pins s σV H Q I ⟨loc, σ, M, w, M', rel, e, aft⟩ => by
  cases e
  have hn := I.hok.fresh (Nat.le_refl s.heap.objs.size)
  refine wpAny_Dict_empty ⟨.ref s.heap.objs.size, _, I.laid (a := s.heap.objs.size) (o := nestO X.w s.heap.objs.size []) (t' := s.toks) (fun _ _ q => Heap.get?_push_of_some _ q) (Nat.le_refl _) (nest_empty s.heap I.big), rfl, ?_⟩
  exact aft _ _ (loc ++ [s.heap.objs.size]) (new_nest rel.st hn) (.ref (last_get rel.st.len.symm)) (.new hn) (List.prefix_append _ _)⟩
theorem r_ndisp (hu : X.A.units + 64 < cLine) (ha : EV X a ca) (hb : EV X b cb) (hz : (evalEachOpt [some a] X.env).zip ((evalEach [b] X.env).map fun v => do let x ← v; standAt pos; pure x) = (pairTrees [some a] [b] X.env pos).map fun p => (some p.1, p.2) := by rfl) :
    EV X (.Dict [some a] [b] pos) (eNDisp ca cb) := ⟨fun pins s σV H Q I ⟨loc, σ, M, w, M', rel, e, aft⟩ => by
  have hn := I.hok.fresh (Nat.le_refl s.heap.objs.size)
  have I1 := I.laid (a := s.heap.objs.size) (o := nestO X.w s.heap.objs.size []) (h' := s.heap.push { cls := .type "dict", data := .dict #[] }) (t' := s.toks) (fun _ _ q => Heap.get?_push_of_some _ q) (Nat.le_refl _) (nest_empty s.heap I.big)
  have rel1 := rel.move (new_nest rel.st hn) (.new hn) (List.prefix_append _ [s.heap.objs.size])
  have hlast : (loc ++ [s.heap.objs.size])[M.length]? = some s.heap.objs.size := last_get rel.st.len.symm
  obtain ⟨p, hp, e⟩ := bind_some e
  obtain ⟨q, hq, e⟩ := bind_some e
  split at e
  · rename_i kk hk
    split at e
    · rename_i hM
      cases e
      rw [arm_eval_Dict, hz, dictDisplay_pairs _ (by intro z; cases z) (by show 1 < 17; decide)]
      refine wpAny_bind (wpAny_standAt (wpAny_bind (wpAny_subDictH (knd := nestedKind X.prog X.w) (show X.A.units + 8 < cLine by omega) (by show 1 ≤ 15; decide) ?_)))
      refine pairTrees_cons_walk (thn (ha.run pins _ σV _ (fun x H1 => TC X.KW cb σV H1 fun y H2 => ∃ loc2 b, Store X.KW H2 loc2 q.2 ∧ loc2[M.length]? = some s.heap.objs.size ∧ x = .ref b ∧ Rd X.KW H2 loc2 x p.1 ∧ Rd X.KW H2 loc2 y q.1 ∧ Ext X.KW H H2 ∧ loc <+: loc2) I1 ?_) fun u s1 ⟨x, H1, I1', rx, q1⟩ => thn (hb.run pins s1 σV H1 _ I1' q1) fun w2 s2 ⟨y, H2, I2, ry, q2⟩ => pairTrees_nil_walk ?_)
      · refine run1 rel1 hp fun v H1 loc1 rel2 rd1 ex1 l1 => run1 rel2 hq fun u H2 loc2 rel3 rd2 ex2 l2 => ?_
        obtain ⟨_, _, us, hus⟩ := keyT_some hk
        have rd1' := rd1.mono ex2 l2
        rw [hus] at rd1 rd1'
        cases rd1 with
        | @tup b xs _ sq rs =>
          refine ⟨loc2, b, rel3.st, pre_get (l1.trans l2) hlast, rfl, by rw [hus]; exact rd1', rd2, (Ext.new hn).trans (ex1.trans ex2), (List.prefix_append _ _).trans (l1.trans l2)⟩
      · obtain ⟨loc2, b, st2, hl2, rfl, rd1, rd2, exA, lA⟩ := q2
        cases (show u = Value.ref b from rx)
        obtain ⟨es, h1, h2⟩ := st2.ok _ _ _ hl2 hM
        have es0 : es = [] := by
          have := congrArg List.length h2.keys
          simpa using this
        subst es0
        obtain ⟨_, hd, xs, np, dd⟩ := nest_dict I2 h2 (.inl h1)
        cases np
        obtain ⟨b', eb, eb2, hki⟩ := nest_key I2 rd1 hk (u := .ref b) rfl
        cases eb
        refine ⟨[(kk, b, w2)], ⟨rfl, rfl, hki, trivial⟩, dd, fun h' tk dd' hs => wpAny_pure ⟨.ref s.heap.objs.size, upd H2 s.heap.objs.size (nestO X.w s.heap.objs.size [(kk, b, y)]), ?_, rfl, ?_⟩⟩
        · have he : ∃ q, h'.get? s.heap.objs.size = some q := let ⟨q, _, _, hq, _⟩ := dd'; ⟨q, hq⟩
          refine d_write I2 (by rw [h1]; exact True.intro) hs he (nest_new (by show 1 ≤ sizeLine; decide) hd (.cons ⟨rfl, rfl, ry⟩ .nil) dd')
        · obtain ⟨kn, kd, us, hus⟩ := keyT_some hk
          have ex : Ext X.KW H2 (upd H2 s.heap.objs.size (nestO X.w s.heap.objs.size [(kk, b, y)])) := .upd h1 trivial
          have ok := (ok_put h2 kn kd rd1 rd2).mono ex (List.prefix_refl _)
          exact aft _ _ loc2 (st2.put hl2 hM rfl rfl ⟨[(kk, b, y)], upd_same, ok⟩) (.ref hl2) (exA.trans ex) lA
    · cases e
  · cases e⟩
end
end BF

set_option Elab.async false
set_option linter.all false
set_option autoImplicit false
set_option maxRecDepth 100000
/-! Walks of dicts; d[k] = v with numbers and texts as keys; sorted(d). -/
namespace BF
open PySem PySem.Spec
open PyProof.Rows L2
/-- a dict is locked, and open again -/
def lkO : MO → Option MO
  | .dK ws => some (.dT .lockF ws)
  | .dT .nest ws => some (.dT .lockN ws)
  | _ => none
def unO : MO → Option MO
  | .dT .lockF ws => some (.dK ws)
  | .dT .lockN ws => some (.dT .nest ws)
  | _ => none
def unM (n : Nat) (M : Mem) : Option Mem := (M[n]?.bind unO).map fun mo => M.set n mo
/-- the memory with the dict locked that c tells, and its id -/
def lkM (c : CE) (σ : Sl) (M : Mem) : Option (Nat × Mem) := match c σ M with
  | some (.ref n, _) => (M[n]?.bind lkO).map fun mo => (n, M.set n mo)
  | _ => none
def eLk (c e : CE) : CE := fun σ M => (lkM c σ M).bind fun l => (e σ l.2).bind fun p => (unM l.1 p.2).map fun M' => (p.1, M')
def sLk (c : CE) (b : CS) : CS := fun σ M => (lkM c σ M).bind fun l => (b σ l.2).bind fun o => match o with
  | .nx σ' M' => (unM l.1 M').map fun M2 => .nx σ' M2
  | .rt w M' => (unM l.1 M').map fun M2 => .rt w M2
  | .bk σ' M' => (unM l.1 M').map fun M2 => .bk σ' M2
  | .ct σ' M' => (unM l.1 M').map fun M2 => .ct σ' M2
/-- the keys of a locked dict -/
def iKeyF (c : CE) : CI := fun σ M => (c σ M).bind fun p => match p.1 with
  | .ref n => match p.2[n]? with
    | some (.dT .lockF ws) => some (ws.map (·.1), gdT, p.2)
    | _ => none
  | _ => none
def iKeyN (c : CE) : CI := fun σ M => (c σ M).bind fun p => match p.1 with
  | .ref n => match p.2[n]? with
    | some (.dT .lockN ws) => some (ws.map (·.1), gdT, p.2)
    | _ => none
  | _ => none
section
variable {K : KW} {H : Hp} {loc : List Addr} {M : Mem} {n : Nat} {a : Addr} {mo mo' : MO}
theorem lk_spec (h : MOk K H loc a mo) (hl : lkO mo = some mo') : ∃ u, H a = some u ∧ Mut (some u) ∧ isMut mo = true ∧ (∀ od, MOk K (upd H a (.frz od u)) loc a mo') := by
  cases mo with
  | lst _ => cases hl
  | ro _ => cases hl
  | dK ws =>
    cases hl
    obtain ⟨kvs, h1, h2, h3, h4⟩ := h
    exact ⟨_, h1, trivial, rfl, fun od => ⟨od, kvs, upd_same, h2, h3, h4.mono (.upd h1 trivial) (List.prefix_refl _)⟩⟩
  | dT m ws =>
    cases m with
    | nest =>
      cases hl
      obtain ⟨es, h1, h2⟩ := h
      exact ⟨_, h1, trivial, rfl, fun od => ⟨od, es, upd_same, h2.mono (.upd h1 trivial) (List.prefix_refl _)⟩⟩
    | lockF => cases hl
    | lockN => cases hl
theorem ext_unlock {o : Obj} {u : HO} (h : H a = some (.frz o u)) (m : Mut (some u)) : ∀ b xs, SqT K H b xs → SqT K (upd H a u) b xs := fun b xs q => by
  rcases q with (q | ⟨v, q⟩) | q
  · refine .inl (.inl ?_)
    rw [upd_ne fun e => ?_]
    · exact q
    · subst e; rw [h] at q; cases q
  · refine .inl (.inr ⟨v, ?_⟩)
    rw [upd_ne fun e => ?_]
    · exact q
    · subst e; rw [h] at q; cases q; exact m
  · exact .inr q
mutual
theorem Rd.moveT {H' : Hp} (e : ∀ b xs, SqT K H b xs → SqT K H' b xs) : ∀ {v : V} {w : W}, Rd K H loc v w → Rd K H' loc v w
  | _, _, .non => .non
  | _, _, .bl b => .bl b
  | _, _, .int i => .int i
  | _, _, .str x h h2 => .str x h h2
  | _, _, .tup h r => .tup (e _ _ h) (Rds.moveT e r)
  | _, _, .ref h => .ref h
theorem Rds.moveT {H' : Hp} (e : ∀ b xs, SqT K H b xs → SqT K H' b xs) : ∀ {vs : List V} {ws : List W}, Rds K H loc vs ws → Rds K H' loc vs ws
  | _, _, .nil => .nil
  | _, _, .cons r rs => .cons (Rd.moveT e r) (Rds.moveT e rs)
end
theorem NestOk.moveT {H' : Hp} {es : NE} {ws : List (W × W)} (e : ∀ b xs, SqT K H b xs → SqT K H' b xs) (h : NestOk K H loc es ws) : NestOk K H' loc es ws := ⟨h.keys, h.dep, h.ks.moveT e, h.vs.moveT e⟩
theorem FlatOk.moveT {H' : Hp} {es : List (Key × V)} {ws : List (W × W)} (e : ∀ b xs, SqT K H b xs → SqT K H' b xs) (h : FlatOk K H loc es ws) : FlatOk K H' loc es ws := ⟨h.keys, h.ok, h.vs.moveT e⟩
/-- other things stand while a lock is taken off -/
theorem MOk.unlock {b : Addr} {o : Obj} {u : HO} (h : H a = some (.frz o u)) (m : Mut (some u)) (hu : ∀ xs, u ≠ .lst xs) (hb : b ≠ a ∨ isOwn mo = false) (ok : MOk K H loc b mo) : MOk K (upd H a u) loc b mo := by
  have e := ext_unlock (K := K) h m
  cases mo with
  | lst ws =>
    obtain ⟨xs, h1, h2⟩ := ok
    have hb : b ≠ a := hb.elim id fun z => (by cases z)
    exact ⟨xs, by rw [upd_ne hb]; exact h1, h2.moveT e⟩
  | ro ws =>
    obtain ⟨xs, h1, h2⟩ := ok
    refine ⟨xs, ?_, h2.moveT e⟩
    rcases h1 with ⟨v, h1⟩ | h1
    · refine .inl ⟨v, ?_⟩
      rw [upd_ne fun z => ?_]
      · exact h1
      · subst z; rw [h] at h1; cases h1; exact hu _ rfl
    · exact .inr h1
  | dK ws =>
    obtain ⟨kvs, h1, h2, h3, h4⟩ := ok
    have hb : b ≠ a := hb.elim id fun z => (by cases z)
    exact ⟨kvs, by rw [upd_ne hb]; exact h1, h2, h3, h4.moveT e⟩
  | dT q ws =>
    have hc : b ≠ a := hb.elim id fun z => (by cases z)
    cases q with
    | nest => obtain ⟨es, h1, h2⟩ := ok; exact ⟨es, by rw [upd_ne hc]; exact h1, h2.moveT e⟩
    | lockF => obtain ⟨o, es, h1, h2⟩ := ok; exact ⟨o, es, by rw [upd_ne hc]; exact h1, h2.moveT e⟩
    | lockN => obtain ⟨o, es, h1, h2⟩ := ok; exact ⟨o, es, by rw [upd_ne hc]; exact h1, h2.moveT e⟩
theorem un_spec {o : Obj} {u : HO} (h : H a = some (.frz o u)) (m : Mut (some u)) (ok : MOk K H loc a mo) (hl : unO mo = some mo') : MOk K (upd H a u) loc a mo' := by
  have e := ext_unlock (K := K) h m
  cases mo with
  | lst _ => cases hl
  | ro _ => cases hl
  | dK _ => cases hl
  | dT q ws =>
    cases q with
    | nest => cases hl
    | lockF =>
      cases hl
      obtain ⟨o', kvs, h1, h2⟩ := ok
      rw [h] at h1; cases h1
      exact ⟨kvs, upd_same, h2.keys, h2.ok, h2.vs.moveT e⟩
    | lockN =>
      cases hl
      obtain ⟨o', es, h1, h2⟩ := ok
      rw [h] at h1; cases h1
      exact ⟨es, upd_same, h2.moveT e⟩
theorem un_own (hl : unO mo = some mo') : isOwn mo = true ∧ isOwn mo' = true := by
  cases mo with
  | lst _ => cases hl
  | ro _ => cases hl
  | dK _ => cases hl
  | dT q ws => cases q <;> cases hl <;> exact ⟨rfl, rfl⟩
theorem Store.unlock {M' : Mem} {o : Obj} {u : HO} (s : Store K H loc M) (ha : loc[n]? = some a) (h : H a = some (.frz o u)) (m : Mut (some u)) (hu : ∀ xs, u ≠ .lst xs) (e : unM n M = some M') : Store K (upd H a u) loc M' := by
  obtain ⟨mo', h1, rfl⟩ := Option.map_eq_some_iff.mp e
  obtain ⟨mo, h2, h3⟩ := bind_some h1
  obtain ⟨o1, o2⟩ := un_own h3
  have hn : n < M.length := (List.getElem?_eq_some_iff.mp h2).1
  refine ⟨by simp [s.len], fun i b q g1 g2 => ?_, fun i j b q r g1 g2 g3 g4 z1 z2 => ?_⟩
  · by_cases hi : n = i
    · subst hi
      rw [ha] at g1; cases g1
      rw [List.getElem?_set_self hn] at g2; cases g2
      exact un_spec h m (s.ok n a mo ha h2) h3
    · rw [List.getElem?_set_ne hi] at g2
      refine MOk.unlock h m hu ?_ (s.ok i b q g1 g2)
      by_cases hb : b = a
      · subst hb
        right
        cases z : isOwn q with
        | false => rfl
        | true => exact absurd (s.apart n i b mo q ha g1 h2 g2 o1 z) hi
      · exact .inl hb
  · have wt : ∀ {x : Nat} {y : MO}, (M.set n mo')[x]? = some y → isOwn y = true → ∃ y', M[x]? = some y' ∧ isOwn y' = true := fun {x y} q z => by
      by_cases hx : n = x
      · subst hx; exact ⟨mo, h2, o1⟩
      · rw [List.getElem?_set_ne hx] at q; exact ⟨y, q, z⟩
    obtain ⟨y1, w1, w2⟩ := wt g3 z1
    obtain ⟨y2, w3, w4⟩ := wt g4 z2
    exact s.apart i j b y1 y2 g1 g2 w1 w3 w2 w4
/-- what is taken: the store with the lock, and what comes of it -/
theorem Store.lock {c : CE} {σ : Sl} {l : Nat × Mem} (s : Store K H loc M) (e : lkM c σ M = some l) : ∃ a u, loc[l.1]? = some a ∧ H a = some u ∧ Mut (some u) ∧ (∀ xs, u ≠ .lst xs) ∧ ∀ od, Store K (upd H a (.frz od u)) loc l.2 ∧ Ext K H (upd H a (.frz od u)) := by
  unfold lkM at e
  split at e
  · rename_i n M0 hc
    obtain ⟨mo', h1, rfl⟩ := Option.map_eq_some_iff.mp e
    obtain ⟨mo, h2, h3⟩ := bind_some h1
    obtain ⟨a, ha, ok⟩ := s.at h2
    obtain ⟨u, hu, mu, mm, q⟩ := lk_spec ok h3
    refine ⟨a, u, ha, hu, mu, fun xs z => ?_, fun od => ⟨s.put0 ha h2 mm (q od), .upd hu mu⟩⟩
    subst z
    cases mo with
    | lst _ => cases h3
    | ro _ => cases h3
    | dK ws => obtain ⟨kvs, g1, _⟩ := ok; rw [hu] at g1; cases g1
    | dT m ws =>
      cases m with
      | nest => obtain ⟨es, g1, _⟩ := ok; rw [hu] at g1; cases g1
      | lockF => cases h3
      | lockN => cases h3
  · cases e
theorem ext_back {H' : Hp} {od : Obj} {u : HO} (hu : H a = some u) (mu : Mut (some u)) (ex : Ext K (upd H a (.frz od u)) H') : H' a = some (.frz od u) ∧ Ext K H (upd H' a u) := by
  have h1 : H' a = some (.frz od u) := ex.frz _ _ _ upd_same
  refine ⟨h1, fun b xs q => ext_unlock (K := K) h1 mu b xs (ex.tup _ _ ((Ext.upd hu mu).tup _ _ q)), fun b o v q => ?_⟩
  have hb : b ≠ a := fun z => by
    subst z
    rw [hu] at q; cases q; exact mu
  rw [upd_ne hb]
  exact ex.frz _ _ _ (by rw [upd_ne hb]; exact q)
end
section
variable {X : Cx} {e : Expr} {st : Stmt} {c ce : CE} {cs : CS}
theorem r_lock (c : CE) (h : EV X e ce) : EV X e (eLk c ce) := (pe_lock h).mono fun σV H Q ⟨loc, σ, M, w, M', rel, ev, aft⟩ => by
  obtain ⟨l, hl, ev⟩ := bind_some ev
  obtain ⟨p, hp, ev⟩ := bind_some ev
  obtain ⟨M2, hM, ev⟩ := Option.map_eq_some_iff.mp ev
  cases ev
  obtain ⟨a, u, ha, hu, mu, nl, q⟩ := rel.st.lock hl
  refine ⟨a, u, hu, mu, fun od => ?_⟩
  obtain ⟨st1, ex1⟩ := q od
  refine ⟨loc, σ, l.2, p.1, p.2, ⟨st1, rel.len, fun i w hi => ?_⟩, hp, fun v H' loc' s' r' ex l' => ?_⟩
  · obtain ⟨v, g1, g2⟩ := rel.sl i w hi
    exact ⟨v, g1, g2.mono ex1 (List.prefix_refl _)⟩
  · obtain ⟨h1, exB⟩ := ext_back hu mu ex
    exact ⟨h1, aft v _ loc' (s'.unlock (pre_get l' ha) h1 mu nl hM) (r'.moveT (ext_unlock h1 mu)) exB l'⟩
theorem s_lock (c : CE) (h : ES X st cs) : ES X st (sLk c cs) := (ps_lock h).mono fun D σV H ⟨loc, σ, M, o, rel, ev, aft⟩ => by
  obtain ⟨l, hl, ev⟩ := bind_some ev
  obtain ⟨o1, ho, ev⟩ := bind_some ev
  obtain ⟨a, u, ha, hu, mu, nl, q⟩ := rel.st.lock hl
  refine ⟨a, u, hu, mu, fun od => ?_⟩
  obtain ⟨st1, ex1⟩ := q od
  have sl : ∀ (i : Nat) (w : W), σ[i]? = some (some w) → ∃ v, σV[i]? = some (some v) ∧ Rd X.KW (upd H a (.frz od u)) loc v w := fun i w hi => by
    obtain ⟨v, g1, g2⟩ := rel.sl i w hi
    exact ⟨v, g1, g2.mono ex1 (List.prefix_refl _)⟩
  refine ⟨loc, σ, l.2, o1, ⟨st1, rel.len, sl⟩, ho, ?_⟩
  have move : ∀ {σ' : Sl} {M' M2 : Mem} {σV' : L2.St} {H' : Hp} {loc' : List Addr}, unM l.1 M' = some M2 → Rel X.KW loc' σ' M' σV' H' → Ext X.KW (upd H a (.frz od u)) H' → loc <+: loc' → H' a = some (.frz od u) ∧ Rel X.KW loc' σ' M2 σV' (upd H' a u) ∧ Ext X.KW H (upd H' a u) := fun {σ' M' M2 σV' H' loc'} hM r ex l' => by
    obtain ⟨h1, exB⟩ := ext_back hu mu ex
    exact ⟨h1, ⟨r.st.unlock (pre_get l' ha) h1 mu nl hM, r.len, fun i w hi => (by
      obtain ⟨v, g1, g2⟩ := r.sl i w hi
      exact ⟨v, g1, g2.moveT (ext_unlock h1 mu)⟩)⟩, exB⟩
  cases o1 with
  | nx σ' M' =>
    obtain ⟨M2, hM, ev⟩ := Option.map_eq_some_iff.mp ev
    cases ev
    intro σV' H' loc' r ex l'
    obtain ⟨h1, r2, exB⟩ := move hM r ex l'
    exact ⟨h1, aft σV' _ loc' r2 exB l'⟩
  | bk σ' M' =>
    obtain ⟨M2, hM, ev⟩ := Option.map_eq_some_iff.mp ev
    cases ev
    intro σV' H' loc' r ex l'
    obtain ⟨h1, r2, exB⟩ := move hM r ex l'
    exact ⟨h1, aft σV' _ loc' r2 exB l'⟩
  | ct σ' M' =>
    obtain ⟨M2, hM, ev⟩ := Option.map_eq_some_iff.mp ev
    cases ev
    intro σV' H' loc' r ex l'
    obtain ⟨h1, r2, exB⟩ := move hM r ex l'
    exact ⟨h1, aft σV' _ loc' r2 exB l'⟩
  | rt w M' =>
    obtain ⟨M2, hM, ev⟩ := Option.map_eq_some_iff.mp ev
    cases ev
    intro v H' loc' s' r' ex l'
    obtain ⟨h1, exB⟩ := ext_back hu mu ex
    exact ⟨h1, aft v _ loc' (s'.unlock (pre_get l' ha) h1 mu nl hM) (r'.moveT (ext_unlock h1 mu)) exB l'⟩
end

/-! ### walks -/
/-- the keys of the locked dict at d, keyed by nested tuples -/
def ItkN (w : World) (d : Addr) (o : Obj) (es : NE) : It :=
  ⟨fun i H => H d = some (.frz o (nestO w d es)) ∧ i < es.length, fun i H x H' => H' = H ∧ ∃ e, es[i]? = some e ∧ x = .ref e.2.1, fun i H => H d = some (.frz o (nestO w d es)) ∧ es.length ≤ i⟩
section
variable {X : Cx} {pins : List (Addr × Obj)} {σ : L2.St} {H : Hp} {s : Shared} {d : Addr} {o : Obj} {es : NE}
theorem frzN (I : Inv X pins σ H s) (h : H d = some (.frz o (nestO X.w d es))) : (d == sysModules) = false ∧ s.heap.get? d = some o ∧ o.ExactDict ∧ ∃ (en : Array DictEntry) (ep : Nat), o.data = .dict en ep ∧ en.size = es.length ∧
    ∀ (i : Nat) (e : NestedKey × Addr × V), es[i]? = some e → ∃ t : DictEntry, en[i]? = some t ∧ t.key = .ref e.2.1 := by
  obtain ⟨hd, ⟨z, hs, xs, np, o', en, ep, h1, h2, h3, h4, h5⟩, _⟩ := I.hok d _ h
  rw [hd] at h1
  cases h1
  have hl : en.size = xs.length := by rw [← Array.length_toList, h4, List.length_map]
  refine ⟨hs, hd, h2, en, ep, h3, by rw [hl]; exact (Paired.length np).symm, fun i e he => ?_⟩
  obtain ⟨x, hx, e1, e2, _⟩ := paired_get np he
  refine ⟨entryN X.w x, ?_, by rw [e2]; rfl⟩
  rw [← Array.getElem?_toList, h4, List.getElem?_map, hx]; rfl
end
theorem turn_keysN {P : Program} {w : World} {K : PySem.W.Frag} {tg : Expr} {d : Addr} {o : Obj} {en : Array DictEntry} {ep : Nat} {es : NE} (it : Addr) (hod : o.data = .dict en ep) : Turn P w K tg (ItkN w d o es) [it] it (fun i h => h.IsKeyIter it d i es.length ep) where
  mem := by simp
  obj := fun i h st b hb => by
    obtain rfl : b = it := by simpa using hb
    obtain ⟨oi, e1, e2, e3⟩ := st
    exact ⟨oi, e1, fun v q => by rw [e3] at q; cases q⟩
  keep := fun i h h' st k => st.at fun q e => k it (by simp) q e
  item := by
    intro X hP hw hK hc i pins s σ H E I hf st hg
    subst hP hw hK
    obtain ⟨hd, hi⟩ := hg
    obtain ⟨f0, f1, f2, f3, f4, f5⟩ := hf it (by simp)
    obtain ⟨_, g1, g2, en', ep', g3, g4, g5⟩ := frzN I hd
    obtain ⟨rfl, rfl⟩ := dict_ep hod g3
    obtain ⟨e, he⟩ : ∃ e, es[i]? = some e := ⟨_, List.getElem?_eq_getElem hi⟩
    obtain ⟨t, ht, hk⟩ := g5 i e he
    refine next_key_item st g1 g3 g4 ht fun h' st' sb => ?_
    obtain ⟨oi, e1, e2, e3⟩ := id st'
    refine ⟨t.key, rfl, go_of (s := { s with heap := h' }) e1 e2 e3 (by decide) ⟨.ref e.2.1, H, I.turned (t' := s.toks) (fun b ob hb q => (sb.2 b hb).trans q) f0 f1 f3 f4 f5, hk, ⟨rfl, e, he, rfl⟩, st', fun b hb => (hf b hb).1⟩⟩
  done := by
    intro X hP hw hK hc i pins s σ H E I hf st hg
    subst hP hw hK
    obtain ⟨hd, hi⟩ := hg
    obtain ⟨f0, f1, f2, f3, f4, f5⟩ := hf it (by simp)
    obtain ⟨_, g1, g2, en', ep', g3, g4, _⟩ := frzN I hd
    obtain ⟨rfl, rfl⟩ := dict_ep hod g3
    exact next_key_end (I.ok.hd hc) st g1 g3 g4 hi fun h' eb => ⟨rfl, I.turned (t' := s.toks) (fun b ob hb q => eb b ob hb q) f0 f1 f3 f4 f5⟩
  self := fun A i s Q E st h => wpAny_pyIter_keyiter st h
def iKeysN (w : World) (td : TE) : TI := fun σ H R => td σ H fun x H1 => ∃ d o es, x = .ref d ∧ H1 d = some (.frz o (nestO w d es)) ∧ R (ItkN w d o es) H1
section
variable {X : Cx} {tg e : Expr} {td : TE} {ce : CE}
theorem pi_keysN (he : PE X e td) : PI X tg e (iKeysN X.w td) := by
  refine ⟨fun pins s σ H R I h => ?_⟩
  refine thn (he.run pins s σ H _ I h) fun u s1 ⟨x, H1, I1, rx, d, o, es, ex, hd, q⟩ => ?_
  subst ex
  obtain rfl : u = Value.ref d := rx
  obtain ⟨hs, g1, g2, en, ep, g3, g4, _⟩ := frzN I1 hd
  refine iter_keys hs g1 g2 g3 (pi_one (tk := s1.toks) I1 _ (turn_keysN _ g3) ⟨_, Heap.get?_push_size _ rfl, rfl, ?_⟩ q)
  rw [g4] <;> rfl
theorem walk_of_keysN {K : KW} {H : Hp} {loc : List Addr} {d : Addr} {o : Obj} {es : NE} {ws : List (W × W)} (hd : H d = some (.frz o (nestO K.wd d es))) (n : NestOk K H loc es ws) : WalkW K H loc (ItkN K.wd d o es) (ws.map (·.1)) gdT :=
  fun i H1 loc1 M s ex l _ => by
    have hl : es.length = ws.length := by have := congrArg List.length n.keys; simpa using this
    refine ⟨fun w hw => ?_, fun hi => ⟨ex.frz _ _ _ hd, by rw [hl]; simpa using hi⟩⟩
    obtain ⟨v, h1, h2⟩ := n.ks.get hw
    rw [List.getElem?_map] at h1
    obtain ⟨e, he, rfl⟩ := Option.map_eq_some_iff.mp h1
    refine ⟨⟨ex.frz _ _ _ hd, (List.getElem?_eq_some_iff.mp he).1⟩, fun x H2 y => ?_⟩
    obtain ⟨rfl, e', he', rfl⟩ := y
    rw [he] at he'; cases he'
    exact ⟨h2.mono ex l, s, .refl⟩
theorem walk_of_keysF {K : KW} {H : Hp} {loc : List Addr} {d : Addr} {o : Obj} {kvs : List (Key × V)} {ws : List (W × W)} (hd : H d = some (.frz o (.dK kvs))) (n : FlatOk K H loc kvs ws) : WalkW K H loc (Itk d o kvs) (ws.map (·.1)) gdT :=
  fun i H1 loc1 M s ex l _ => by
    have hl : kvs.length = ws.length := by have := congrArg List.length n.keys; simpa using this
    refine ⟨fun w hw => ?_, fun hi => ⟨ex.frz _ _ _ hd, by rw [hl]; simpa using hi⟩⟩
    rw [← n.keys, List.getElem?_map] at hw
    obtain ⟨p, hp, rfl⟩ := Option.map_eq_some_iff.mp hw
    refine ⟨⟨ex.frz _ _ _ hd, (List.getElem?_eq_some_iff.mp hp).1⟩, fun x H2 y => ?_⟩
    obtain ⟨rfl, k, v, he', rfl⟩ := y
    rw [hp] at he'; cases he'
    refine ⟨?_, s, .refl⟩
    have := n.ok _ (List.mem_of_getElem? hp)
    cases k with
    | inl i => exact .int i
    | inr z => exact .str z this.1 this.2
theorem i_keyN (h : EV X e ce) : EI X tg e (iKeyN ce) := (pi_keysN h).mono fun σV H R ⟨loc, σ, M, ws, gd, M', rel, ev, aft⟩ => by
  obtain ⟨p, hp, ev⟩ := bind_some ev
  refine run1 rel hp fun v H1 loc1 rel1 rd1 ex1 l1 => ?_
  split at ev
  · rename_i n hn
    rw [hn] at rd1
    cases rd1 with
    | @ref a _ ha =>
      split at ev
      · rename_i zs hz
        cases ev
        obtain ⟨o, es, h1, h2⟩ := rel1.st.ok n a _ ha hz
        exact ⟨a, o, es, rfl, h1, aft _ H1 loc1 rel1.st ex1 l1 (walk_of_keysN h1 h2)⟩
      · cases ev
  · cases ev
theorem i_keyF (h : EV X e ce) : EI X tg e (iKeyF ce) := (pi_keys h).mono fun σV H R ⟨loc, σ, M, ws, gd, M', rel, ev, aft⟩ => by
  obtain ⟨p, hp, ev⟩ := bind_some ev
  refine run1 rel hp fun v H1 loc1 rel1 rd1 ex1 l1 => ?_
  split at ev
  · rename_i n hn
    rw [hn] at rd1
    cases rd1 with
    | @ref a _ ha =>
      split at ev
      · rename_i zs hz
        cases ev
        obtain ⟨o, kvs, h1, h2⟩ := rel1.st.ok n a _ ha hz
        exact ⟨a, o, rfl, .inl ⟨kvs, h1, aft _ H1 loc1 rel1.st ex1 l1 (walk_of_keysF h1 h2)⟩⟩
      · cases ev
  · cases ev
end
end BF

set_option Elab.async false
set_option linter.all false
set_option autoImplicit false
set_option maxRecDepth 100000
/-! d[k] = v, sorted(d), max of three, x in a list. -/
namespace BF
open PySem PySem.Spec
open PyProof.Rows L2
theorem hu65 {k : Nat} {A : Around} (hr : Room k A) : A.units + 65 < cLine := by have := hr.un; omega
def putF (M : Mem) (o x w : W) : Option Mem := match o, keyOf x with
  | .ref n, some k => match M[n]? with
    | some (.dK ws) => if ws.length < 16777216 then some (M.set n (.dK (putW ws k w))) else none
    | _ => none
  | _, _ => none
def rDPut : TSet := fun x y v H Q => ∃ a kvs k, x = .ref a ∧ y = kV k ∧ H a = some (.dK kvs) ∧ kvs.length < sizeLine ∧ Q (upd H a (.dK (putK kvs k v)))
theorem o_dput {X : Cx} (hu : X.A.units + 1 < cLine) : PSet X rDPut := by
  intro pins s σ H o i v ov iv u Q I ro ri rv h
  obtain ⟨a, kvs, k, rfl, rfl, e, hl, q⟩ := h
  cases (show ov = Value.ref a from ro)
  exact d_setItem hu I (DPut.k e hl) ri rv fun s' I' => ⟨_, I', q⟩
section
variable {K : KW} {H : Hp} {loc : List Addr}
theorem key_any {kvs : List (Key × V)} {ws : List (W × W)} (h : kvs.map (fun p => keyW p.1) = ws.map (·.1)) (k : Key) : (kvs.any fun kv => decide (kv.1 = k)) = ws.any fun p => decide (keyOf p.1 = some k) := by
  induction kvs generalizing ws with
  | nil =>
    cases ws with
    | nil => rfl
    | cons _ _ => cases h
  | cons p kvs ih =>
    cases ws with
    | nil => cases h
    | cons q ws =>
      simp only [List.map_cons, List.cons.injEq] at h
      rw [List.any_cons, List.any_cons, ih h.2, ← h.1, keyOf_keyW]
      congr 1
      exact decide_eq_decide.mpr ⟨fun z => by rw [z], fun z => Option.some.inj z⟩
theorem put_rel {kvs : List (Key × V)} {ws : List (W × W)} {k : Key} {v : V} {w : W} (hk : kvs.map (fun p => keyW p.1) = ws.map (·.1)) (h : Rds K H loc (kvs.map (·.2)) (ws.map (·.2))) (r : Rd K H loc v w) :
    (putK kvs k v).map (fun p => keyW p.1) = (putW ws k w).map (·.1) ∧ Rds K H loc ((putK kvs k v).map (·.2)) ((putW ws k w).map (·.2)) := by
  unfold putK putW
  rw [key_any hk k]
  split
  · rename_i hz
    clear hz
    induction kvs generalizing ws with
    | nil =>
      cases ws with
      | nil => exact ⟨rfl, .nil⟩
      | cons _ _ => cases hk
    | cons p kvs ih =>
      cases ws with
      | nil => cases hk
      | cons q ws =>
        simp only [List.map_cons, List.cons.injEq] at hk h
        cases h with
        | cons r1 r2 =>
          obtain ⟨i1, i2⟩ := ih hk.2 r2
          have e : keyOf q.1 = some p.1 := by rw [← hk.1, keyOf_keyW]
          simp only [List.map_cons, e, Option.some.injEq]
          by_cases z : p.1 = k
          · rw [if_pos z, if_pos z]
            exact ⟨List.cons_eq_cons.mpr ⟨hk.1, i1⟩, .cons r i2⟩
          · rw [if_neg z, if_neg z]
            exact ⟨List.cons_eq_cons.mpr ⟨hk.1, i1⟩, .cons r1 i2⟩
  · rw [List.map_append, List.map_append, List.map_append, List.map_append, hk]
    exact ⟨rfl, h.append (.cons r .nil)⟩
theorem putK_ok {kvs : List (Key × V)} {k : Key} {v : V} (h : ∀ p ∈ kvs, KeyOk p.1) (hk : KeyOk k) : ∀ p ∈ putK kvs k v, KeyOk p.1 := by
  unfold putK
  split
  · intro p hp
    obtain ⟨q, hq, rfl⟩ := List.mem_map.mp hp
    have := h q hq
    split <;> exact this
  · intro p hp
    rcases List.mem_append.mp hp with hp | hp
    · exact h p hp
    · rw [List.mem_singleton] at hp; subst hp; exact hk
theorem rd_keyOk {v : V} {w : W} {k : Key} (r : Rd K H loc v w) (h : keyOf w = some k) : KeyOk k := by
  cases r with
  | int i => cases h; trivial
  | str x h1 h2 => cases h; exact ⟨h1, h2⟩
  | _ => cases h
theorem p_dput : LiftP K rDPut putF := by
  intro H loc M x y z o i v M' Q s rx ry rz e h
  unfold putF at e
  split at e
  · rename_i n k hk
    split at e
    · rename_i ws hw
      split at e
      · rename_i hl
        cases e
        cases rx with
        | @ref a _ ha =>
          obtain ⟨kvs, h1, h2, h3, h4⟩ := s.ok n a _ ha hw
          have hle : kvs.length = ws.length := by have := congrArg List.length h2; simpa using this
          refine ⟨a, kvs, k, rfl, rd_key ry hk, h1, by rw [hle]; exact hl, ?_⟩
          have ex : Ext K H (upd H a (.dK (putK kvs k v))) := .upd h1 trivial
          obtain ⟨q1, q2⟩ := put_rel (k := k) h2 h4 rz
          exact h _ loc (s.put ha hw rfl rfl ⟨_, upd_same, q1, putK_ok h3 (rd_keyOk ry hk), q2.mono ex (List.prefix_refl _)⟩) ex (List.prefix_refl _)
      · cases e
    · cases e
  · cases e
/-- sorted(d), the keys ascending as they stand -/
def pSortD : Fn := fun ws M => match ws with
  | [.ref n] => match M[n]? with
    | some (.dK kvs) => match asInts (kvs.map (·.1)) with
      | some ks => if ks.length < 64 ∧ ks.Pairwise (· ≤ ·) then some (.ref M.length, M ++ [.lst (ks.map W.int)]) else none
      | none => none
    | _ => none
  | _ => none
def rSortD : List V → Hp → VK → Prop := fun xs H Q => ∃ (a : Addr) (kvs : List (Key × V)) (ks : List Int), xs = [.ref a] ∧ L2.Rd H a (.dK kvs) ∧ kvs.map (·.1) = ks.map Sum.inl ∧ ks.length < 64 ∧
    ∀ (ys : List Int) (p : Addr), ys.Perm ks → ys.Pairwise (· ≤ ·) → H p = none → Q (.ref p) (upd H p (.lst (ys.map V.int)))
theorem cr_sortD {X : Cx} (hc : X.calm = true) : CallR X (.builtin "sorted") rSortD := call_sortedDI hc
theorem keysI : ∀ {kvs : List (Key × V)} {ks : List Int}, kvs.map (fun p => keyW p.1) = ks.map W.int → kvs.map (·.1) = ks.map Sum.inl
  | [], [], _ => rfl
  | [], _ :: _, h => by cases h
  | _ :: _, [], h => by cases h
  | p :: kvs, k :: ks, h => by
    simp only [List.map_cons, List.cons.injEq] at h ⊢
    refine ⟨?_, keysI h.2⟩
    have := h.1
    cases hp : p.1 with
    | inl i => rw [hp] at this; cases this; rfl
    | inr z => rw [hp] at this; cases this
theorem n_sortD : LiftN K rSortD pSortD := by
  intro H loc M ws vs w M' Q s r e aft
  unfold pSortD at e
  split at e
  · split at e
    · rename_i zs hz
      split at e
      · rename_i ks hks
        split at e
        · rename_i hc
          cases e
          match vs, r with
          | [_], .cons (.ref (a := a) hn) .nil =>
            obtain ⟨kvs, h1, h2, h3, h4⟩ := s.ok _ _ _ hn hz
            refine ⟨a, kvs, ks, rfl, .inl h1, keysI (by rw [h2, asInts_some hks]), hc.1, fun ys p hp hs hH => ?_⟩
            have e1 : ys = ks := List.Perm.eq_of_pairwise (fun a b _ _ h1 h2 => Int.le_antisymm h1 h2) hs hc.2 hp
            subst e1
            exact aft_lst s (rds_ints ys) hH aft
        · cases e
      · cases e
    · cases e
  · cases e
/-- max of three -/
def pMax3 : Fn := fun ws M => match ws with
  | [.int i, .int j, .int k] => some (.int (if (if i < j then j else i) < k then k else (if i < j then j else i)), M)
  | _ => none
@[simp] theorem pMax3_eq {M : Mem} (i j k : Int) : pMax3 [.int i, .int j, .int k] M = some (.int (if (if i < j then j else i) < k then k else (if i < j then j else i)), M) := nr rfl
theorem n_max3 : LiftN K (rNuC3 nuMax3) pMax3 := by
  intro H loc M ws vs w M' Q s r e aft
  unfold pMax3 at e
  split at e
  · rename_i i j k
    cases e
    match vs, r with
    | [_, _, _], .cons (.int _) (.cons (.int _) (.cons (.int _) .nil)) =>
      refine ⟨_, _, _, V.int (if (if i < j then j else i) < k then k else (if i < j then j else i)), rfl, ?_, aft _ H loc s (.int _) .refl (List.prefix_refl _)⟩
      have h2 : ∀ a b : Int, nuMax2 (.int a) (.int b) = some (.int (if a < b then b else a)) := fun a b => by
        show some (if decide (a < b) = true then V.int b else V.int a) = _
        by_cases h : a < b <;> simp [h]
      show (nuMax2 (.int i) (.int j)).bind _ = _
      rw [h2, Option.bind_some, h2]
  · cases e
/-! ### in a list -/
def gInD (M : Mem) (x y : W) : Option (W × Mem) := match toD M 64 x, toD M 64 y with
  | some d, some (.list ds) => some (.bl (ds.any fun z => PyData.eqv z d), M)
  | _, _ => none
def gNotInD (M : Mem) (x y : W) : Option (W × Mem) := match toD M 64 x, toD M 64 y with
  | some d, some (.list ds) => some (.bl (!ds.any fun z => PyData.eqv z d), M)
  | _, _ => none
theorem in_aux {M : Mem} {x y : W} {v u : V} {d : PyData} {ds : List PyData} (s : Store K H loc M) (rx : Rd K H loc v x) (ry : Rd K H loc u y) (h1 : toD M 64 x = some d) (h2 : toD M 64 y = some (.list ds)) :
    Dp K H v d ∧ Dp K H u (.list ds) ∧ SeqAt.shaped d = true ∧ SeqAt.shaped (.list ds) = true := by
  obtain ⟨g1, g2, g3⟩ := toD_ok s 64 v x d rx h1
  obtain ⟨g4, g5, g6⟩ := toD_ok s 64 u y _ ry h2
  exact ⟨g1, g4, by rw [SeqAt.shaped, g2, decide_eq_true g3]; rfl, by rw [SeqAt.shaped, g5, decide_eq_true g6]; rfl⟩
theorem l_inD : Lift2 K (rInD K) gInD := by
  intro H loc M x y v u w M' Q s rx ry e aft
  unfold gInD at e
  split at e
  · rename_i d ds h1 h2
    cases e
    obtain ⟨g1, g2, g3, g4⟩ := in_aux s rx ry h1 h2
    exact ⟨d, ds, g1, g2, g3, g4, aft _ H loc s (.bl _) .refl (List.prefix_refl _)⟩
  · cases e
theorem l_notInD : Lift2 K (rNotInD K) gNotInD := by
  intro H loc M x y v u w M' Q s rx ry e aft
  unfold gNotInD at e
  split at e
  · rename_i d ds h1 h2
    cases e
    obtain ⟨g1, g2, g3, g4⟩ := in_aux s rx ry h1 h2
    exact ⟨d, ds, g1, g2, g3, g4, aft _ H loc s (.bl _) .refl (List.prefix_refl _)⟩
  · cases e
end
open Enc in
theorem any_enc {α : Type} [Enc α] [DecidableEq α] (hd : dep α ≤ 63) (a : α) : ∀ as : List α, ((as.map fun b => dP (enc b)).any fun z => PyData.eqv z (dP (enc a))) = decide (a ∈ as)
  | [] => rfl
  | b :: as => by
    rw [List.map_cons, List.any_cons, any_enc hd a as, eqv_P 63 _ _ (okW_mono _ _ (ok b) 63 hd) (okW_mono _ _ (ok a) 63 hd), Bool.eq_iff_iff, Bool.or_eq_true, eqE, decide_eq_true_eq, decide_eq_true_eq, List.mem_cons]
    exact ⟨fun h => h.elim (fun z => .inl z.symm) .inr, fun h => h.elim (fun z => .inl z.symm) .inr⟩
open Enc in
theorem gInD_enc {α : Type} [Enc α] [DecidableEq α] (M : Mem) (n : Nat) (as : List α) (a : α) (h : M[n]? = some (.lst (as.map enc))) (hd : dep α ≤ 63 := by decide) : gInD M (enc a) (.ref n) = some (.bl (decide (a ∈ as)), M) := by
  unfold gInD
  rw [toD_lst M n as (.inl h) hd, toD_P M 64 _ (okW_mono _ _ (ok a) 64 (by omega))]
  simp only [any_enc hd]
open Enc in
theorem gNotInD_enc {α : Type} [Enc α] [DecidableEq α] (M : Mem) (n : Nat) (as : List α) (a : α) (h : M[n]? = some (.lst (as.map enc))) (hd : dep α ≤ 63 := by decide) : gNotInD M (enc a) (.ref n) = some (.bl (!decide (a ∈ as)), M) := by
  unfold gNotInD
  rw [toD_lst M n as (.inl h) hd, toD_P M 64 _ (okW_mono _ _ (ok a) 64 (by omega))]
  simp only [any_enc hd]
end BF

set_option Elab.async false
set_option linter.all false
set_option autoImplicit false
set_option maxRecDepth 100000
/-! enumerate of lists and of tuples. -/
namespace BF
open PySem PySem.Spec
open PyProof.Rows L2
set_option maxHeartbeats 1000000 in
theorem enum_new {v : Value} {o : Obj} {H : Heap → Prop} (B : Begins v o H) : Meets (Builtin.«enumerate.__new__» ⟨[.type "enumerate", v], []⟩) (fun _ R s => H s.heap ∧ R (.ok (.ret (.ref (s.heap.push o).objs.size))) { s with heap := (s.heap.push o).push { cls := .type "enumerate", data := .fields #[.none, .bool false, .ref s.heap.objs.size, rawInt 0, .none, .none] } }) :=
  .of_wp fun prog w A R s h => by
    obtain ⟨hp, g, d, tk, os⟩ := s
    obtain ⟨h1, h2⟩ := h
    have h3 := sub_enumerate
    have it0 : ∀ {A' : Around} {E Q : Value → Shared → Prop}, Q (.ref hp.objs.size) ⟨hp.push o, g, d, tk, os⟩ → wpAny (model prog w) A' (pyIter v) Q E ⟨hp, g, d, tk, os⟩ := fun q => B.iter prog w _ _ _ _ h1 q
    wp_walk using it0
    refine wpAny_stack_any fun st => wpAny_pure ?_
    split
    · rename_i c _ _ _ _ _
      cases (c == Value.type "enumerate") <;> (wp_walk using it0; exact ⟨_, rfl, h2⟩)
    · wp_walk using it0
      exact ⟨_, rfl, h2⟩
theorem enum_call {prog : Program} {w : World} {A : Around} {E : Value → Shared → Prop} {s : Shared} {v : Value} {o : Obj} {H : Heap → Prop} {Q : Value → Shared → Prop} (B : Begins v o H) (h1 : H s.heap)
    (h : ∀ h', IsEnum h' (s.heap.objs.size + 1) s.heap.objs.size 0 .none → h'.get? s.heap.objs.size = some o → (∀ b q, s.heap.get? b = some q → h'.get? b = some q) → Q (.ref (s.heap.objs.size + 1)) { s with heap := h' }) :
    wpAny (model prog w) A (call (.type "enumerate") [v]) Q E s := by
  refine callType_new F.called_enumerate (by decide) (F.typeCall_enumerate_1 _) (F.newCall_enumerate_1 _) (fun obj => F.args_object_init_2 obj _) F.entry_enumerate_new (enum_new B) ⟨h1, ?_⟩
  have hz : (s.heap.push o).objs.size = s.heap.objs.size + 1 := Heap.size_push ..
  show _ ∧ _
  rw [hz]
  have he := Heap.get?_push_size (s.heap.push o) (o := { cls := .type "enumerate", data := .fields #[.none, .bool false, .ref s.heap.objs.size, rawInt 0, .none, .none] }) rfl
  rw [hz] at he
  exact ⟨⟨_, he, rfl⟩, h _ he (Heap.get?_push_of_some _ (Heap.get?_push_size _ B.free)) fun b q x => Heap.get?_push_of_some _ (Heap.get?_push_of_some _ x)⟩
/-- the tuple at a, each item in a new pair -/
def IteT (K : PySem.W.Frag) (a : Addr) : It :=
  ⟨fun i H => ∃ (xs : List V) (x : V), SqT K H a xs ∧ xs[i]? = some x, fun i H v H' => ∃ T x, v = .ref T ∧ H T = none ∧ H' = upd H T (.tup [.int (i : Nat), x]) ∧ ∀ xs, SqT K H a xs → xs[i]? = some x, fun i H => ∃ xs : List V, SqT K H a xs ∧ xs.length ≤ i⟩
theorem turn_enumT {P : Program} {w : World} {K : PySem.W.Frag} {elts : List Expr} {kk : Nat} {tpos : Pos} (a e it : Addr) :
    Turn P w K (.Tuple elts kk tpos) (IteT K a) [e, it] e (fun i h => (∃ old, IsEnum h e it ((i : Nat) : Int) old) ∧ h.IsTupleIter it a i ∧ e ≠ it ∧ a ≠ it ∧ a ≠ e) where
  mem := by simp
  obj := fun i h st b hb => by
    obtain ⟨⟨old, he⟩, ⟨o, g1, g2, g3⟩, _⟩ := st
    rcases List.mem_cons.mp hb with rfl | hb
    · exact ⟨_, he, fun v q => nomatch q⟩
    · rw [List.mem_singleton] at hb
      subst hb
      exact ⟨o, g1, fun v q => by rw [g3] at q; cases q⟩
  keep := fun i h h' st k => ⟨let ⟨old, he⟩ := st.1; ⟨old, k e (by simp) _ he⟩, st.2.1.at fun o q => k it (by simp) o q, st.2.2⟩
  item := by
    intro X hP hw hK hc i pins s σ H E I hf st hg
    subst hP hw hK
    obtain ⟨⟨old, he⟩, hit, hne, ha1, ha2⟩ := st
    obtain ⟨xs, x, hq, hx⟩ := hg
    obtain ⟨its, rv, p, hz⟩ := I.tuple hq
    obtain ⟨u, hu, ru⟩ := rv.get hx
    have hlt : i < its.toArray.size := by have := (List.getElem?_eq_some_iff.mp hu).1; simpa using this
    have l1 : e < s.heap.objs.size := Heap.lt_size he
    have l2 : it < s.heap.objs.size := by obtain ⟨_, q, _⟩ := hit; exact Heap.lt_size q
    refine wpAny_pyNext_enum_itemD (Draws.tuple (prog := X.prog) (w := X.w) (A := X.A.in1) (I.ok.hd hc) it a ha1 its.toArray) he ⟨hit, p⟩ hlt hne (fun hm => ?_) fun y h' tk hy ho hst hT hsz hk => ?_
    · rcases List.mem_cons.mp hm with q | hm
      · exact hne q
      · exact ha2 (List.mem_singleton.mp hm).symm
    have ey : y = u := by
      have : its.toArray[i]? = some u := by simpa using hu
      rw [this] at hy; exact (Option.some.inj hy).symm
    subst ey
    refine ⟨_, rfl, wpAny_letOwnedTupleGo_enum (s := { s with heap := h', toks := tk + 1 }) ho fun h'' he' sb => ?_⟩
    have hT2 : h''.get? s.heap.objs.size = some { cls := .type "tuple", data := .seq #[.int i tk, y] } := (sb.2 _ (Nat.ne_of_gt l1)).trans hT
    have new : ObjOk X.prog X.w (upd H s.heap.objs.size (.tup [.int (i : Nat), x])) h'' s.heap.objs.size (.tup [.int (i : Nat), x]) := ⟨by show 2 ≤ sizeLine; decide, [.int i tk, y], .cons ⟨_, rfl⟩ (.cons ru .nil), ⟨_, hT2, rfl, _, rfl⟩⟩
    have I1 := I.turnedNew (t' := tk + 1) (ch := [e, it]) (fun b ob hb q => (sb.2 b (fun z => hb (by simp [z]))).trans (hk b ob (fun z => hb (by simp [z])) (fun z => hb (by simp [z])) q)) hf (Nat.le_refl _) new
    refine ⟨.ref s.heap.objs.size, _, I1, rfl, ⟨_, x, rfl, I.hok.fresh (Nat.le_refl _), rfl, fun ys hy => by rw [I.tuple_inj hy hq]; exact hx⟩, ⟨⟨y, ?_⟩, hst.1.at fun o q => (sb.2 it (Ne.symm hne)).trans q, hne, ha1, ha2⟩, fun b hb => ?_⟩
    · have e1 : ((i + 1 : Nat) : Int) = (i : Int) + 1 := by omega
      rw [e1]; exact he'
    · have hb' : b < s.heap.objs.size := by
        rcases List.mem_cons.mp hb with z | hb
        · rw [z]; exact l1
        · rw [List.mem_singleton.mp hb]; exact l2
      rw [upd_ne (Nat.ne_of_lt hb')]
      exact (hf b hb).1
  done := by
    intro X hP hw hK hc i pins s σ H E I hf st hg
    subst hP hw hK
    obtain ⟨⟨old, he⟩, hit, hne, ha1, ha2⟩ := st
    obtain ⟨xs, hq, hx⟩ := hg
    obtain ⟨its, rv, p, hz⟩ := I.tuple hq
    obtain ⟨f0, f1, f2, f3, f4, f5⟩ := hf it (by simp)
    have hl := rv.length
    have hT : s.TypeIs (.ref e) "enumerate" := ⟨_, he, rfl⟩
    unfold pyNext
    refine wpAny_bind (wpAny_attempt (wpAny_callSpecial?_slot (name := Str.ofString "__next__") hT F.slot_enumerate_next (wpAny_call_entry F.slot_enumerate_next hT F.entry_enumerate_next ?_ (F.args_enumerate_next_1 _))))
    show wpAny _ _ (field (.ref e) 2 >>= _) _ _ _
    refine wpAny_bind (wpAny_field he rfl (x := .ref it) rfl ?_)
    refine wpAny_bind (wpAny_nextOf_tuple_end (I.ok.hd hc) hit p (Array.getElem?_eq_none (by simp; omega)) fun h' x he' hx' => ?_)
    obtain ⟨o, ho, hcl⟩ := hx'
    exact wpAny_bind (wpAny_isInstance (T := "StopIteration") (b := true) ⟨o, ho, hcl⟩ isSubtype_stop (wpAny_pure ⟨rfl, I.turned (t' := s.toks) (fun b o hb q => he' b o hb q) f0 f1 f3 f4 f5⟩))
  self := fun A i s Q E st h => let ⟨⟨_, he⟩, _⟩ := st; wpAny_pyIter_enum he h
def iEnumTT (K : PySem.W.Frag) (ta : TA) : TI := fun σ H R => ta σ H fun vs H1 => ∃ a xs, vs = [.ref a] ∧ SqT K H1 a xs ∧ R (IteT K a) H1
theorem pi_enumT {X : Cx} {e : Expr} {ta : TA} {p pos tpos : Pos} {elts : List Expr} {kk : Nat} (hg : Gl X "enumerate") (hm : X.mg "enumerate" = none) (ha : PA X [e] ta) (hs : starEach [e] X.env = [(false, eval e X.env)] := by rfl) :
    PI X (.Tuple elts kk tpos) (.Call (.Name "enumerate" p) [e] [] pos) (iEnumTT X.K ta) := by
  refine ⟨fun pins s σ H R I h => Call_ (ld_blt I hg hm boot_enumerate (PyProof.Rows.callWith_type1 (thn (ha.run pos pins s σ H _ I h) fun us s1 ⟨vs, H1, I1, r1, q1⟩ => ?_) hs rfl))⟩
  obtain ⟨a, xs, ex, hq, q⟩ := q1
  subst ex
  cases r1 with
  | cons r rr =>
    cases rr
    cases r
    obtain ⟨its, rv, p', hz⟩ := I1.tuple hq
    have la : a < s1.heap.objs.size := by obtain ⟨o, ho, _⟩ := id p'; exact Heap.lt_size ho
    refine enum_call (begins_tuple a its.toArray) p' fun h' he hit hk => wpAny_pyIter_enum he ?_
    refine ⟨s1.heap.objs.size + 1, [s1.heap.objs.size + 1, s1.heap.objs.size], _, _, H1, rfl, I1.kept (t' := s1.toks) hk, turn_enumT a (s1.heap.objs.size + 1) s1.heap.objs.size, ⟨⟨.none, he⟩, ⟨_, hit, rfl, rfl⟩, Nat.succ_ne_self _, Nat.ne_of_lt la, Nat.ne_of_lt (Nat.lt_succ_of_lt la)⟩, fun b hb => ?_, q⟩
    have hle : s1.heap.objs.size ≤ b := by
      rcases List.mem_cons.mp hb with z | hb
      · rw [z]; exact Nat.le_add_right _ _
      · rw [List.mem_singleton.mp hb]; exact Nat.le_refl _
    exact I1.fpOk hle (I1.hok.fresh hle)
theorem enumW_get {ws : List W} {i : Nat} {w : W} (h : (enumW ws)[i]? = some w) : ∃ x, ws[i]? = some x ∧ w = .tup [.int (i : Nat), x] := by
  unfold enumW at h
  rw [List.getElem?_map, List.getElem?_zipIdx] at h
  cases q : ws[i]? with
  | none => rw [q] at h; cases h
  | some x => rw [q] at h; cases h; exact ⟨x, rfl, by simp⟩
theorem enumW_length (ws : List W) : (enumW ws).length = ws.length := by simp [enumW]
section
variable {K : KW} {H : Hp} {loc : List Addr}
theorem walk_of_enumT {a : Addr} {xs : List V} {ws : List W} (sq : SqT K H a xs) (r : Rds K H loc xs ws) : WalkW K H loc (IteT K a) (enumW ws) gdT :=
  fun i H1 loc1 M s ex l _ => ⟨fun w hw => by
    obtain ⟨x, hx, rfl⟩ := enumW_get hw
    obtain ⟨v, h1, h2⟩ := r.get hx
    refine ⟨⟨xs, v, ex.tup _ _ sq, h1⟩, fun y H2 q => ?_⟩
    obtain ⟨T, v', rfl, hT, rfl, f⟩ := q
    have e1 := f xs (ex.tup _ _ sq)
    rw [h1] at e1; cases e1
    have ex2 : Ext K H1 (upd H1 T (.tup [.int (i : Nat), v])) := .new hT
    exact ⟨.tup (SqT.of upd_same) (.cons (.int _) (.cons (h2.mono (ex.trans ex2) l) .nil)), s.newT hT, ex2⟩, fun hl => ⟨xs, ex.tup _ _ sq, by rw [r.length]; rw [enumW_length] at hl; exact hl⟩⟩
theorem walk_of_enumL {a : Addr} {n : Nat} {ws : List W} (hn : loc[n]? = some a) : WalkW K H loc (Ite K a) (enumW ws) (fun M' => decide (M'[n]? = some (.lst ws))) :=
  fun i H1 loc1 M s ex l hg => by
    have hg := of_decide_eq_true hg
    obtain ⟨xs, h1, r⟩ := s.ok n a _ (pre_get l hn) hg
    refine ⟨fun w hw => ?_, fun hl => ⟨xs, SqL.of h1, by rw [r.length]; rw [enumW_length] at hl; exact hl⟩⟩
    obtain ⟨x, hx, rfl⟩ := enumW_get hw
    obtain ⟨v, h2, h3⟩ := r.get hx
    refine ⟨⟨xs, v, SqL.of h1, h2⟩, fun y H2 q => ?_⟩
    obtain ⟨T, v', rfl, hT, rfl, f⟩ := q
    have e1 := f xs (SqL.of h1)
    rw [h2] at e1; cases e1
    have ex2 : Ext K H1 (upd H1 T (.tup [.int (i : Nat), v])) := .new hT
    exact ⟨.tup (SqT.of upd_same) (.cons (.int _) (.cons (h3.mono ex2 (List.prefix_refl _)) .nil)), s.newT hT, ex2⟩
end
section
variable {X : Cx} {e : Expr} {ce : CE} {p pos tpos : Pos} {elts : List Expr} {kk : Nat}
theorem i_enumT (hg : Gl X "enumerate") (hm : X.mg "enumerate" = none) (h : EA X [e] [ce]) (hs : starEach [e] X.env = [(false, eval e X.env)] := by rfl) : EI X (.Tuple elts kk tpos) (.Call (.Name "enumerate" p) [e] [] pos) (iEnumT ce) :=
  (pi_enumT hg hm h hs).mono fun σV H R ⟨loc, σ, M, ws, gd, M', rel, ev, aft⟩ => by
    obtain ⟨q, hq, ev⟩ := bind_some ev
    refine runA (p := ([q.1], q.2)) rel (by simp only [eArgs, hq, Option.bind_some]) fun vs H1 loc1 rel1 rd1 ex1 l1 => ?_
    split at ev
    · rename_i zs hz
      cases ev
      rw [hz] at rd1
      match vs, rd1 with
      | [_], .cons (.tup (a := a) (xs := xs) sq rs) .nil => exact ⟨a, xs, rfl, sq, aft _ H1 loc1 rel1.st ex1 l1 (walk_of_enumT sq rs)⟩
    · cases ev
theorem i_enumL (hg : Gl X "enumerate") (hm : X.mg "enumerate" = none) (h : EA X [e] [ce]) (hs : starEach [e] X.env = [(false, eval e X.env)] := by rfl) : EI X (.Tuple elts kk tpos) (.Call (.Name "enumerate" p) [e] [] pos) (iEnumL ce) :=
  (pi_enum hg hm h hs).mono fun σV H R ⟨loc, σ, M, ws, gd, M', rel, ev, aft⟩ => by
    obtain ⟨q, hq, ev⟩ := bind_some ev
    refine runA (p := ([q.1], q.2)) rel (by simp only [eArgs, hq, Option.bind_some]) fun vs H1 loc1 rel1 rd1 ex1 l1 => ?_
    split at ev
    · rename_i n hn
      split at ev
      · rename_i zs hz
        cases ev
        rw [hn] at rd1
        match vs, rd1 with
        | [_], .cons (.ref (a := a) ha) .nil =>
          obtain ⟨xs, h1, _⟩ := rel1.st.ok n a _ ha hz
          exact ⟨a, xs, rfl, SqL.of h1, aft _ H1 loc1 rel1.st ex1 l1 (walk_of_enumL ha)⟩
      · cases ev
    · cases ev
end
end BF

set_option Elab.async false
set_option linter.all false
set_option autoImplicit false
set_option maxRecDepth 10000
namespace BF
open PySem Enc
/-! _law_draw -/
def F__law_draw : Fn := fnT1 fun (m : Nat) ns s => if 0 < m ∧ m < 2 ^ 62 then some (drawD ns m s) else none
abbrev N__law_draw : List Str := ["tape", "many", "prime", "cell", "found"]
def c__law_draw : CS :=
  (sSeq (sSet (gV 2) (eL (.int 2305843009213693951)))
  (sSeq (sIf (tB (e2 gLt (e2 gIx (eV 0) (eL (.int 2))) (eV 1))) (sSeq (sSet (gV 3) (eL (.int 0)))
  (sSeq (sIf (tB (e2 gGt (eN pLen [(e2 gIx (eV 0) (eL (.int 0)))]) (eL (.int 0)))) (sSet (gV 3) (e2 gIx (e2 gIx (eV 0) (eL (.int 0))) (e2 gMod (e2 gIx (eV 0) (eL (.int 1))) (eN pLen [(e2 gIx (eV 0) (eL (.int 0)))])))) sNil)
  (sSeq (sIf (tOr (tB (e2 gGe (e2 gIx (eV 0) (eL (.int 1))) (eN pLen [(e2 gIx (eV 0) (eL (.int 0)))]))) (tB (e2 gLt (eV 3) (e2 gPow (eL (.int 10)) (eL (.int 18)))))) (sSeq (sSet (gV 3) (e2 gMod (e2 gAdd (eV 3) (e2 gMul (eL (.int 1000003)) (e2 gIx (eV 0) (eL (.int 1))))) (eV 2)))
  (sSeq (sSet (gV 3) (e2 gMod (e2 gAdd (e2 gAdd (e2 gMul (eV 3) (eV 3)) (e2 gMul (eL (.int 1181783497276652981)) (eV 3))) (eL (.int 2049848353892358983))) (eV 2)))
  (sSet (gV 3) (e2 gMod (e2 gAdd (e2 gMul (eV 3) (eV 3)) (eL (.int 1442695040888963407))) (eV 2))))) sNil)
  (sSeq (sPut putL (eV 0) (eL (.int 1)) (e2 gAdd (e2 gIx (eV 0) (eL (.int 1))) (eL (.int 1))))
  (sPut putL (eV 0) (eL (.int 2)) (eV 3)))))) sNil)
  (sSeq (sSet (gV 4) (e2 gMod (e2 gIx (eV 0) (eL (.int 2))) (eV 1)))
  (sSeq (sPut putL (eV 0) (eL (.int 2)) (e2 gDiv (e2 gIx (eV 0) (eL (.int 2))) (eV 1)))
  (sRet (eV 4))))))
theorem draw_ok (m : Nat) (ns : List Int) (s : Dr) (g : Mem) (h1 : 0 < m) (h2 : m < 2 ^ 62) : F__law_draw [.ref 2, .int m] (TM ns s g) = some (.int ((drawD ns m s).1 : Nat), TM ns (drawD ns m s).2 g) := by
  have := fnT1_eq (fun (m : Nat) ns s => if 0 < m ∧ m < 2 ^ 62 then some (drawD ns m s) else none) m ns s g
  rw [if_pos ⟨h1, h2⟩] at this
  exact this
theorem keeps__law_draw : Keeps 5 c__law_draw F__law_draw := by
  refine keepsT1 fun m ns s g b s' e => ?_
  split at e
  · rename_i hm
    cases e
    obtain ⟨h1, h2⟩ := hm
    obtain ⟨i, c⟩ := s
    refine ⟨[], ?_⟩
    have b1 : small64 1000003 = true := by decide
    have b2 : small64 1181783497276652981 = true := by decide
    have b3 : small62 10 = true := by decide
    have b4 : (0 : Int) < m := by omega
    have b5 : small64 (m : Int) = true := small64_of (by omega)
    have b6 : ∀ x : Int, small64 (x % 2305843009213693951) = true := fun x => by
      have q1 := Int.emod_nonneg x (show (2305843009213693951 : Int) ≠ 0 by decide)
      have q2 := Int.emod_lt_of_pos x (show (0 : Int) < 2305843009213693951 by decide)
      exact small64_of (by omega)
    have b7 : ∀ x : Int, max (x % (m : Int)) 0 = x % m := fun x => by
      have q1 := Int.emod_nonneg x (show (m : Int) ≠ 0 by omega)
      omega
    by_cases hc : c < m
    · by_cases hl : 0 < ns.length
      · have hl' : (0 : Int) < ns.length := by omega
        have j1 := Int.emod_nonneg i (show (ns.length : Int) ≠ 0 by omega)
        have j2 := Int.emod_lt_of_pos i hl'
        have j3 : (ixW ns.length (i % (ns.length : Int))) = some (i % (ns.length : Int)).toNat := by
          have := ixW_nat (n := ns.length) (j := (i % (ns.length : Int)).toNat) (by omega)
          rw [Int.toNat_of_nonneg j1] at this
          exact this
        obtain ⟨cell, j4⟩ : ∃ cell, ns[(i % (ns.length : Int)).toNat]? = some cell := ⟨_, List.getElem?_eq_getElem (by omega)⟩
        by_cases hi : (ns.length : Int) ≤ i
        · simp [c__law_draw, TM, hc, hl, j3, j4, hi, h1, b1, b2, b3, b4, b5, b6, b7, drawD, nextT, mixT]
        · by_cases hs : cell < 1000000000000000000
          · simp [c__law_draw, TM, hc, hl, j3, j4, hi, hs, h1, b1, b2, b3, b4, b5, b6, b7, drawD, nextT, mixT]
          · simp [c__law_draw, TM, hc, hl, j3, j4, hi, hs, h1, b1, b2, b3, b4, b5, b6, b7, drawD, nextT, mixT]
      · by_cases hi : (ns.length : Int) ≤ i
        · simp [c__law_draw, TM, hc, hl, hi, h1, b1, b2, b3, b4, b5, b6, b7, drawD, nextT, mixT]
        · simp [c__law_draw, TM, hc, hl, hi, h1, b1, b2, b3, b4, b5, b6, b7, drawD, nextT, mixT]
    · simp [c__law_draw, TM, hc, h1, b1, b2, b3, b4, b5, b6, b7, drawD, nextT, mixT]
  · cases e
end BF

set_option Elab.async false
set_option linter.all false
set_option autoImplicit false
set_option maxRecDepth 10000
namespace BF
open PySem Enc
/-! histories: what an action does -/
def valid (h : Hist) : Prop := h.at_ < h.ps.length ∧ h.ps.length ≤ 1000
instance (h : Hist) : Decidable (valid h) := by unfold valid; infer_instance
def stepH (h : Hist) : Act → Hist
  | .visit p => ⟨h.ps.take (h.at_ + 1) ++ [p], h.at_ + 1⟩
  | .back => ⟨h.ps, h.at_ - 1⟩
  | .forward => ⟨h.ps, min (h.ps.length - 1) (h.at_ + 1)⟩
  | .go i => if i < h.ps.length then ⟨h.ps, i⟩ else h
def plain : Act → Bool
  | .go _ => false
  | _ => true
/-- valid, with room for so many more pages -/
def roomy (h : Hist) (n : Nat) : Prop := h.at_ < h.ps.length ∧ h.ps.length + n ≤ 1000
instance (h : Hist) (n : Nat) : Decidable (roomy h n) := by unfold roomy; infer_instance
theorem roomy_step {h : Hist} {n : Nat} (a : Act) (hr : roomy h (n + 1)) : roomy (stepH h a) n := by
  obtain ⟨h1, h2⟩ := hr
  cases a with
  | visit p => constructor <;> simp [stepH] <;> omega
  | back => constructor <;> simp [stepH] <;> omega
  | forward => constructor <;> simp [stepH] <;> omega
  | go i =>
    show roomy (if i < h.ps.length then ⟨h.ps, i⟩ else h) n
    by_cases hi : i < h.ps.length
    · rw [if_pos hi]; exact ⟨hi, by show h.ps.length + n ≤ 1000; omega⟩
    · rw [if_neg hi]; exact ⟨h1, by omega⟩
def runH (h : Hist) (l : List Act) : Hist := l.foldl stepH h
theorem roomy_run : ∀ (l : List Act) {h : Hist} {n : Nat}, roomy h (n + l.length) → roomy (runH h l) n
  | [], _, _, hr => hr
  | a :: l, h, n, hr => roomy_run l (roomy_step a (by rw [List.length_cons, ← Nat.add_assoc] at hr; exact hr))
theorem roomy_mono {h : Hist} {n m : Nat} (hr : roomy h n) (hm : m ≤ n) : roomy h m := ⟨hr.1, by have := hr.2; omega⟩
theorem enc_hist' (h : Hist) : (enc h : W) = .tup [.tup (h.ps.map W.str), .int h.at_] := rfl
theorem enc_mk (ps : List Str) (i : Nat) : (.tup [.tup (ps.map W.str), .int i] : W) = enc (⟨ps, i⟩ : Hist) := rfl
end BF

set_option Elab.async false
set_option linter.all false
set_option autoImplicit false
set_option maxRecDepth 10000
namespace BF
open PySem Enc
/-! _law_history -/
/-- so many draws, one after another -/
def repD {α : Type} (f : Dr → α × Dr) : Nat → Dr → List α × Dr
  | 0, s => ([], s)
  | n + 1, s => ((f s).1 :: (repD f n (f s).2).1, (repD f n (f s).2).2)
theorem repD_length {α : Type} (f : Dr → α × Dr) : ∀ (n : Nat) (s : Dr), (repD f n s).1.length = n
  | 0, _ => rfl
  | n + 1, s => by rw [repD, List.length_cons, repD_length f n]
theorem repD_all {α : Type} (f : Dr → α × Dr) (P : α → Prop) (h : ∀ s, P (f s).1) : ∀ (n : Nat) (s : Dr), ∀ a ∈ (repD f n s).1, P a
  | 0, _, a, ha => by cases ha
  | n + 1, s, a, ha => by
    rw [repD] at ha
    rcases List.mem_cons.mp ha with rfl | ha
    · exact h s
    · exact repD_all f P h n _ a ha
/-- a comprehension over a range whose items draw -/
theorem lcL_rep {α : Type} [Enc α] {e : CE} {vs : List Nat} {σ : Sl} {i : Nat} {ns : List Int} (f : Dr → α × Dr) (g : Mem) (h : ∀ (w : W) (s : Dr) (l : List W), e ((wipe σ vs).set i (some w)) (TM ns s (g ++ [.lst l])) = some (enc (f s).1, TM ns (f s).2 (g ++ [.lst l]))) :
    ∀ (ws : List W) (s : Dr) (acc : List W), acc.length + ws.length ≤ 16777216 →
      lcL gdT (gV i) tTrue e vs σ (g.length + 3) ws (TM ns s (g ++ [.lst acc])) = some (TM ns (repD f ws.length s).2 (g ++ [.lst (acc ++ (repD f ws.length s).1.map enc)]))
  | [], s, acc, _ => by rw [lcL, if_pos gdT_eq]; simp [repD]
  | w :: ws, s, acc, hl => by
    rw [List.length_cons] at hl
    rw [lcL, if_pos gdT_eq, gV_eq]
    simp only [Option.bind_some, tTrue_eq, if_true, h w s acc]
    rw [show (TM ns (f s).2 (g ++ [MO.lst acc]))[g.length + 3]? = some (.lst acc) by simp [TM]]
    simp only [if_pos (show acc.length < 16777216 by omega)]
    rw [show (TM ns (f s).2 (g ++ [MO.lst acc])).set (g.length + 3) (.lst (acc ++ [enc (f s).1])) = TM ns (f s).2 (g ++ [.lst (acc ++ [enc (f s).1])]) by simp [TM]]
    rw [lcL_rep f g h ws (f s).2 _ (by simp; omega)]
    simp [repD]
def pickD (ns : List Int) (pool : List Str) (s : Dr) : Str × Dr := (pool.getD (drawD ns pool.length s).1 default, (drawD ns pool.length s).2)
def histD (ns : List Int) (most : Nat) (pool : List Str) (s : Dr) : Hist × Dr :=
  let r := drawD ns most s
  let q := repD (pickD ns pool) (1 + r.1) r.2
  let z := drawD ns (1 + r.1) q.2
  (⟨q.1, z.1⟩, z.2)
def histF (most : Nat) (pool : List Str) (ns : List Int) (s : Dr) : Option (Hist × Dr) := if 0 < most ∧ most ≤ 100 ∧ 0 < pool.length ∧ pool.length ≤ 100 then some (histD ns most pool s) else none
def F__law_history : Fn := fnT2 histF
abbrev N__law_history : List Str := ["tape", "most", "pool", "count", "pages", "k"]
def c__law_history : CS :=
  (sSeq (sSet (gV 3) (e2 gAdd (eL (.int 1)) (eN F__law_draw [(eV 0), (eV 1)])))
  (sSeq (sSet (gV 4) (eN pTuple [(eLc (iRange1 (eV 3)) (gV 5) tTrue (e2 gIx (eV 2) (eN F__law_draw [(eV 0), (eN pLen [(eV 2)])])) [5])]))
  (sRet (eTup [(eV 4), (eN F__law_draw [(eV 0), (eV 3)])]))))
theorem lhist_ok (ns : List Int) (most : Nat) (pool : List Str) (s : Dr) (g : Mem) (h1 : 0 < most) (h2 : most ≤ 100) (h3 : 0 < pool.length) (h4 : pool.length ≤ 100) :
    F__law_history [.ref 2, .int most, enc pool] (TM ns s g) = some (enc (histD ns most pool s).1, TM ns (histD ns most pool s).2 g) := by
  have := fnT2_eq histF most pool ns s g
  unfold histF at this
  rw [if_pos ⟨h1, h2, h3, h4⟩] at this
  exact this
theorem keeps__law_history : Keeps 6 c__law_history F__law_history := by
  refine keepsT2p fun most pool ns s g h s' e => ?_
  unfold histF at e
  split at e
  · rename_i hv
    cases e
    obtain ⟨h1, h2, h3, h4⟩ := hv
    have k1 := draw_ok most ns s g h1 (by omega)
    generalize hr : drawD ns most s = r at k1
    have hlt : r.1 < most := by rw [← hr]; exact drawD_lt ns s h1
    have k2 : small62 (1 + (r.1 : Int)) = true := small62_of (by omega)
    have k3 : (1 + (r.1 : Int)).toNat = 1 + r.1 := by omega
    have pick : ∀ (w : W) (s : Dr) (g : Mem), (e2 gIx (eV 2) (eN F__law_draw [(eV 0), (eN pLen [(eV 2)])])) [some (.ref 2), some (.int most), some (enc pool), some (.int (1 + (r.1 : Int))), none, some w] (TM ns s g) = some (enc (pickD ns pool s).1, TM ns (pickD ns pool s).2 g) := fun w s g => by
      have d1 := draw_ok pool.length ns s g h3 (by omega)
      have d2 := drawD_lt ns s h3
      obtain ⟨p, hp⟩ : ∃ p, pool[(drawD ns pool.length s).1]? = some p := ⟨_, List.getElem?_eq_getElem d2⟩
      simp [enc_list, d1, ixW_nat d2, hp, pickD]
    have key := lcL_rep (e := (e2 gIx (eV 2) (eN F__law_draw [(eV 0), (eN pLen [(eV 2)])]))) (vs := [5]) (σ := [some (.ref 2), some (.int most), some (enc pool), some (.int (1 + (r.1 : Int))), none, none]) (i := 5) (ns := ns) (pickD ns pool) g (fun w s l => pick w s (g ++ [MO.lst l])) (rangeW 0 (1 + r.1)) r.2 [] (by rw [rangeW_length]; simp; omega)
    rw [rangeW_length] at key
    generalize hq : repD (pickD ns pool) (1 + r.1) r.2 = q at key
    have d1 := draw_ok (1 + r.1) ns q.2 (g ++ [.lst (q.1.map enc)]) (by omega) (by omega)
    simp only [List.nil_append] at key
    have d3 : ((1 + r.1 : Nat) : Int) = (1 + (r.1 : Int)) := by omega
    rw [d3] at d1
    simp only [enc_list] at key
    simp [c__law_history, k1, k2, k3, key, enc_list, d1, enc_hist]
  · cases e
theorem histD_roomy (ns : List Int) (most : Nat) (pool : List Str) (s : Dr) (h : most ≤ 100) (hp : 0 < most) : roomy (histD ns most pool s).1 900 := by
  unfold histD
  simp only
  have h1 := drawD_lt ns s hp
  have h2 := drawD_lt ns (repD (pickD ns pool) (1 + (drawD ns most s).1) (drawD ns most s).2).2 (show 0 < 1 + (drawD ns most s).1 by omega)
  constructor
  · show _ < (repD _ _ _).1.length
    rw [repD_length]; exact h2
  · show (repD _ _ _).1.length + 900 ≤ 1000
    rw [repD_length]; omega
theorem histD_len (ns : List Int) (most : Nat) (pool : List Str) (s : Dr) (hp : 0 < most) : (histD ns most pool s).1.ps.length ≤ most := by
  show (repD _ _ _).1.length ≤ most
  rw [repD_length]
  have h1 := drawD_lt ns s hp
  omega
end BF

set_option Elab.async false
set_option linter.all false
set_option autoImplicit false
set_option maxRecDepth 10000
namespace BF
open PySem Enc
/-! _law_action -/
def actD (ns : List Int) (pool : List Str) (s : Dr) : Act × Dr :=
  let w := drawD ns 4 s
  let p := pickD ns pool w.2
  (if w.1 = 0 then .back else if w.1 = 1 then .forward else if w.1 = 2 then .back else .visit p.1, p.2)
def actF (pool : List Str) (ns : List Int) (s : Dr) : Option (Act × Dr) := if 0 < pool.length ∧ pool.length ≤ 100 then some (actD ns pool s) else none
def F__law_action : Fn := fnT1 actF
abbrev N__law_action : List Str := ["tape", "pool", "way"]
def c__law_action : CS :=
  (sSeq (sSet (gV 2) (eN F__law_draw [(eV 0), (eL (.int 4))]))
  (sRet (e2 gIx (eLst [(eTup [(eL (.str "back"))]), (eTup [(eL (.str "forward"))]), (eTup [(eL (.str "back"))]), (eTup [(eL (.str "visit")), (e2 gIx (eV 1) (eN F__law_draw [(eV 0), (eN pLen [(eV 1)])]))])]) (eV 2))))
theorem action_ok (ns : List Int) (pool : List Str) (s : Dr) (g : Mem) (h3 : 0 < pool.length) (h4 : pool.length ≤ 100) :
    F__law_action [.ref 2, enc pool] (TM ns s g) = some (enc (actD ns pool s).1, TM ns (actD ns pool s).2 g) := by
  have := fnT1_eq actF pool ns s g
  unfold actF at this
  rw [if_pos ⟨h3, h4⟩] at this
  exact this
theorem keeps__law_action : Keeps 3 c__law_action F__law_action := by
  refine keepsT1p fun pool ns s g h s' e => ?_
  unfold actF at e
  split at e
  · rename_i hv
    obtain ⟨h3, h4⟩ := hv
    simp only [actD, Option.some.injEq, Prod.mk.injEq] at e
    obtain ⟨z1, z2⟩ := e
    subst z1 z2
    have k1 := draw_ok 4 ns s g (by omega) (by omega)
    have hlt := drawD_lt ns s (show 0 < 4 by omega)
    generalize drawD ns 4 s = r at k1 hlt ⊢
    have k1' : F__law_draw [W.ref 2, W.int 4] (TM ns s g) = some (W.int ↑r.fst, TM ns r.snd g) := k1
    have d1 := draw_ok pool.length ns r.2 g h3 (by omega)
    have d2 := drawD_lt ns r.2 h3
    obtain ⟨p, hp⟩ : ∃ p, pool[(drawD ns pool.length r.2).1]? = some p := ⟨_, List.getElem?_eq_getElem d2⟩
    obtain ⟨r, t⟩ := r
    match r, hlt with
    | 0, _ | 1, _ | 2, _ | 3, _ => simp [c__law_action, k1', enc_list, d1, ixW_nat d2, hp, pickD, show ixW 4 2 = some 2 from rfl, show ixW 4 3 = some 3 from rfl]
  · cases e
theorem actD_plain (ns : List Int) (pool : List Str) (s : Dr) : plain (actD ns pool s).1 = true := by
  simp only [actD]
  split
  · rfl
  split
  · rfl
  split
  · rfl
  · rfl
end BF

set_option Elab.async false
set_option linter.all false
set_option autoImplicit false
set_option maxRecDepth 10000
namespace BF
open PySem Enc
/-! _law_script -/
def scrD (ns : List Int) (most : Nat) (pool : List Str) (s : Dr) : List Act × Dr :=
  let r := drawD ns (most + 1) s
  repD (actD ns pool) r.1 r.2
def scrF (most : Nat) (pool : List Str) (ns : List Int) (s : Dr) : Option (List Act × Dr) := if most ≤ 1000 ∧ 0 < pool.length ∧ pool.length ≤ 100 then some (scrD ns most pool s) else none
def F__law_script : Fn := fnT2 scrF
abbrev N__law_script : List Str := ["tape", "most", "pool", "k"]
def c__law_script : CS :=
  (sRet (eN pTuple [(eLc (iRange1 (eN F__law_draw [(eV 0), (e2 gAdd (eV 1) (eL (.int 1)))])) (gV 3) tTrue (eN F__law_action [(eV 0), (eV 2)]) [3])]))
theorem script_ok (ns : List Int) (most : Nat) (pool : List Str) (s : Dr) (g : Mem) (h2 : most ≤ 1000) (h3 : 0 < pool.length) (h4 : pool.length ≤ 100) :
    F__law_script [.ref 2, .int most, enc pool] (TM ns s g) = some (enc (scrD ns most pool s).1, TM ns (scrD ns most pool s).2 g) := by
  have := fnT2_eq scrF most pool ns s g
  unfold scrF at this
  rw [if_pos ⟨h2, h3, h4⟩] at this
  exact this
theorem keeps__law_script : Keeps 4 c__law_script F__law_script := by
  refine keepsT2p fun most pool ns s g h s' e => ?_
  unfold scrF at e
  split at e
  · rename_i hv
    obtain ⟨h2, h3, h4⟩ := hv
    simp only [scrD, Option.some.injEq] at e
    have d1 := draw_ok (most + 1) ns s (g ) (by omega) (by omega)
    have d2 := drawD_lt ns s (show 0 < most + 1 by omega)
    generalize drawD ns (most + 1) s = r at d1 d2 e
    have key := lcL_rep (e := eN F__law_action [(eV 0), (eV 2)]) (vs := [3]) (σ := [some (.ref 2), some (.int most), some (enc pool), none]) (i := 3) (ns := ns) (actD ns pool) g (fun w s l => by simp [wipe, action_ok ns pool s _ h3 h4]) (rangeW 0 r.1) r.2 [] (by rw [rangeW_length]; simp; omega)
    rw [rangeW_length, e] at key
    have k2 : small62 ((most : Int) + 1) = true := small62_of (by omega)
    have d1' : F__law_draw [W.ref 2, W.int ((most : Int) + 1)] (TM ns s g) = some (W.int ↑r.fst, TM ns r.snd g) := by exact d1
    simp only [List.nil_append, enc_list] at key
    have k3 : small62 (r.1 : Int) = true := small62_of (by omega)
    simp [c__law_script, k2, k3, d1', key, enc_list]
  · cases e
theorem scrD_plain (ns : List Int) (most : Nat) (pool : List Str) (s : Dr) : (scrD ns most pool s).1.all plain = true := List.all_eq_true.mpr fun _ h => repD_all _ (plain · = true) (actD_plain ns pool) _ _ _ h
theorem scrD_length (ns : List Int) (most : Nat) (pool : List Str) (s : Dr) : (scrD ns most pool s).1.length ≤ most := by
  unfold scrD
  simp only
  rw [repD_length]
  have := drawD_lt ns s (show 0 < most + 1 by omega)
  omega
end BF

set_option Elab.async false
set_option linter.all false
set_option autoImplicit false
set_option maxRecDepth 10000
namespace BF
open PySem Enc
/-! the pages that two lists begin with -/
def commonN : List Str → List Str → Nat
  | a :: as, b :: bs => if a = b then commonN as bs + 1 else 0
  | _, _ => 0
theorem commonN_le : ∀ a b : List Str, commonN a b ≤ a.length ∧ commonN a b ≤ b.length
  | a :: as, b :: bs => by
    have := commonN_le as bs
    rw [commonN]
    simp only [List.length_cons]
    split <;> omega
  | [], b => by simp [commonN]
  | _ :: _, [] => by simp [commonN]
def commonF (a b : List Str) : Option Nat := if a.length ≤ 900 ∧ b.length ≤ 900 then some (commonN a b) else none
def F_common : Fn := fn2 commonF
abbrev b1_common : CS :=
  (sAug 2 gAdd1 (eL (.int 1)))
abbrev N_common : List Str := ["one", "other", "count"]
def c_common : CS :=
  (sSeq (sSet (gV 2) (eL (.int 0)))
  (sSeq (sWhile 1000 (tAnd (tB (e2 gLt (eV 2) (eN pMin [(eN pLen [(eV 0)]), (eN pLen [(eV 1)])]))) (tB (e2 gEq (e2 gIx (eV 0) (eV 2)) (e2 gIx (eV 1) (eV 2))))) (sAug 2 gAdd1 (eL (.int 1))))
  (sRet (eV 2))))
theorem common_ok {a b : List Str} (M : Mem) (h1 : a.length ≤ 900) (h2 : b.length ≤ 900) : F_common [enc a, enc b] M = some (.int (commonN a b), M) := by
  have := fn2_eq commonF a b M
  unfold commonF at this
  rw [if_pos ⟨h1, h2⟩] at this
  exact this
theorem commonN_drop {a b : List Str} {i : Nat} (h1 : i < a.length) (h2 : i < b.length) : commonN (a.drop i) (b.drop i) = if a[i] = b[i] then commonN (a.drop (i + 1)) (b.drop (i + 1)) + 1 else 0 := by
  rw [List.drop_eq_getElem_cons h1, List.drop_eq_getElem_cons h2, commonN]
theorem keeps_common : Keeps 3 c_common F_common := by
  refine keeps2p fun a b c M e => ?_
  unfold commonF at e
  split at e
  · rename_i hv
    cases e
    obtain ⟨h1, h2⟩ := hv
    have key : ∀ (n i : Nat), i ≤ a.length → i ≤ b.length → a.length - i < n → ∃ σ', whileL (tAnd (tB (e2 gLt (eV 2) (eN pMin [(eN pLen [(eV 0)]), (eN pLen [(eV 1)])]))) (tB (e2 gEq (e2 gIx (eV 0) (eV 2)) (e2 gIx (eV 1) (eV 2))))) (sAug 2 gAdd1 (eL (.int 1))) n [some (enc a), some (enc b), some (.int i)] M =
        some (.nx σ' M) ∧ σ'[2]? = some (some (.int ((i + commonN (a.drop i) (b.drop i) : Nat) : Int))) := by
      intro n
      induction n with
      | zero => intro i _ _ h; omega
      | succ n ih =>
        intro i ha hb hn
        by_cases hi : i < a.length ∧ i < b.length
        · obtain ⟨i1, i2⟩ := hi
          have g1 : a[i]? = some a[i] := List.getElem?_eq_getElem i1
          have g2 : b[i]? = some b[i] := List.getElem?_eq_getElem i2
          by_cases he : a[i] = b[i]
          · obtain ⟨σ', e1, e2⟩ := ih (i + 1) i1 i2 (by omega)
            refine ⟨σ', ?_, ?_⟩
            · rw [whileL_on (M1 := M) (σ' := [some (enc a), some (enc b), some (.int ((i + 1 : Nat) : Int))]) (M' := M) (by simp [enc_list, i1, i2, ixW_nat i1, ixW_nat i2, he, Nat.lt_min]) (by simp)]
              exact e1
            · rw [e2, commonN_drop i1 i2, if_pos he]
              congr 3; omega
          · refine ⟨_, whileL_off (M1 := M) (by simp [enc_list, i1, i2, ixW_nat i1, ixW_nat i2, he, Nat.lt_min]), ?_⟩
            rw [commonN_drop i1 i2, if_neg he]; rfl
        · refine ⟨_, whileL_off (M1 := M) ?_, ?_⟩
          · have : decide (i < min a.length b.length) = false := by rw [decide_eq_false_iff_not]; omega
            simp only [tAnd_eq, tB_eq, e2_eq, eV_eq, eN_eq, eArgs_cons, eArgs_nil, enc_list, List.getD_cons_zero, List.getD_cons_succ, Option.bind_some, pLen_tup, pMin_nat, gLt_nat, List.length_map, this]
            rfl
          · have : commonN (a.drop i) (b.drop i) = 0 := by
              have := commonN_le (a.drop i) (b.drop i)
              simp only [List.length_drop] at this
              omega
            rw [this]; rfl
    obtain ⟨σ', e1, e2⟩ := key 1000 0 (Nat.zero_le _) (Nat.zero_le _) (by omega)
    simp only [enc_list] at e1
    refine ⟨M, ?_, List.prefix_refl _⟩
    have e0 : ((0 : Nat) : Int) = 0 := rfl
    rw [e0] at e1
    simp at e2
    simp [c_common, enc_list, sWhile, e1, e2]
  · cases e
end BF

set_option Elab.async false
set_option linter.all false
set_option autoImplicit false
set_option maxRecDepth 10000
namespace BF
open PySem Enc
/-! kept pages -/
def keptN (h t : Hist) : Nat := min (commonN h.ps t.ps) (t.ps.length - 1)
def keptF (h t : Hist) : Option Nat := if valid h ∧ valid t ∧ h.ps.length ≤ 900 ∧ t.ps.length ≤ 900 then some (keptN h t) else none
def F_kept_pages : Fn := fn2 keptF
abbrev N_kept_pages : List Str := ["history", "target"]
def c_kept_pages : CS :=
  (sRet (eN pMin [(eN F_common [(e2 gIx (eV 0) (eL (.int 0))), (e2 gIx (eV 1) (eL (.int 0)))]), (e2 gSub (eN pLen [(e2 gIx (eV 1) (eL (.int 0)))]) (eL (.int 1)))]))
theorem kept_ok {h t : Hist} (M : Mem) (h1 : valid h) (h2 : valid t) (h3 : h.ps.length ≤ 900) (h4 : t.ps.length ≤ 900) : F_kept_pages [enc h, enc t] M = some (.int (keptN h t), M) := by
  have := fn2_eq keptF h t M
  unfold keptF at this
  rw [if_pos ⟨h1, h2, h3, h4⟩] at this
  exact this
theorem keeps_kept_pages : Keeps 2 c_kept_pages F_kept_pages := by
  refine keeps2p fun h t c M e => ?_
  unfold keptF at e
  split at e
  · rename_i hv
    cases e
    obtain ⟨h1, h2, h3, h4⟩ := hv
    have c1 := common_ok M h3 h4
    have k1 : (t.ps.length : Int) - 1 = ((t.ps.length - 1 : Nat) : Int) := by have := h2.1; omega
    simp only [enc_list, map_encS] at c1
    refine ⟨M, ?_, List.prefix_refl _⟩
    simp [c_kept_pages, enc_hist, map_encS, keptN, c1, k1]
  · cases e
end BF

set_option Elab.async false
set_option linter.all false
set_option autoImplicit false
set_option maxRecDepth 10000
namespace BF
open PySem Enc
/-! the distance -/
def distH (h t : Hist) : Option Int :=
  if h.ps = t.ps then some ((((h.at_ : Int) - t.at_).natAbs : Nat) : Int)
  else if keptN h t = 0 then none
  else some ((((min h.at_ (keptN h t - 1) : Nat) - h.at_ : Int).natAbs : Int) + t.ps.length - 1 - (min h.at_ (keptN h t - 1) : Nat) + t.ps.length - 1 - t.at_)
def distF (h t : Hist) : Option (Option Int) := if valid h ∧ valid t ∧ h.ps.length ≤ 900 ∧ t.ps.length ≤ 900 then some (distH h t) else none
def F_distance : Fn := fn2 distF
abbrev N_distance : List Str := ["history", "target", "pages", "place", "wanted", "end", "kept"]
def c_distance : CS :=
  (sSeq (sSet (gT [(gT [(gV 2), (gV 3)]), (gT [(gV 4), (gV 5)])]) (eTup [(eV 0), (eV 1)]))
  (sSeq (sIf (tB (e2 gEq (eV 2) (eV 4))) (sRet (eN pAbs [(e2 gSub (eV 3) (eV 5))])) sNil)
  (sSeq (sSet (gV 6) (eN F_kept_pages [(eV 0), (eV 1)]))
  (sSeq (sIf (tB (e2 gEq (eV 6) (eL (.int 0)))) (sRet (eL .non)) sNil)
  (sRet (e2 gSub (e2 gSub (e2 gAdd (e2 gSub (e2 gSub (e2 gAdd (eN pAbs [(e2 gSub (eN pMin [(eV 3), (e2 gSub (eV 6) (eL (.int 1)))]) (eV 3))]) (eN pLen [(eV 4)])) (eL (.int 1))) (eN pMin [(eV 3), (e2 gSub (eV 6) (eL (.int 1)))])) (eN pLen [(eV 4)])) (eL (.int 1))) (eV 5)))))))
theorem distance_ok {h t : Hist} (M : Mem) (h1 : valid h) (h2 : valid t) (h3 : h.ps.length ≤ 900) (h4 : t.ps.length ≤ 900) : F_distance [enc h, enc t] M = some (enc (distH h t), M) := by
  have := fn2_eq distF h t M
  unfold distF at this
  rw [if_pos ⟨h1, h2, h3, h4⟩] at this
  exact this
theorem abs_eq (i : Int) : (if i < 0 then -i else i) = (i.natAbs : Int) := by split <;> omega
theorem keeps_distance : Keeps 7 c_distance F_distance := by
  refine keeps2p fun h t c M e => ?_
  unfold distF at e
  split at e
  · rename_i hv
    cases e
    obtain ⟨h1, h2, h3, h4⟩ := hv
    have c1 := kept_ok M h1 h2 h3 h4
    refine ⟨M, ?_, List.prefix_refl _⟩
    simp only [enc_hist] at c1
    unfold distH
    by_cases hp : h.ps = t.ps
    · simp [c_distance, enc_hist, hp, abs_eq]
    · by_cases hk : keptN h t = 0
      · simp [c_distance, enc_hist, hp, hk, c1]
      · have k1 : (keptN h t : Int) - 1 = ((keptN h t - 1 : Nat) : Int) := by omega
        simp [c_distance, enc_hist, hp, hk, c1, abs_eq, k1]
  · cases e
end BF

set_option Elab.async false
set_option linter.all false
set_option autoImplicit false
set_option maxRecDepth 10000
namespace BF
open PySem Enc
/-! what one action does to the distance -/
theorem commonN_self : ∀ a : List Str, commonN a a = a.length
  | [] => rfl
  | x :: a => by rw [commonN, if_pos rfl, commonN_self a]; rfl
theorem commonN_snoc : ∀ (a : List Str) (x : Str) (w : List Str), (commonN a w < a.length → commonN (a ++ [x]) w = commonN a w) ∧ (commonN a w = a.length → (commonN (a ++ [x]) w = a.length ∨ commonN (a ++ [x]) w = a.length + 1) ∧ (w[a.length]? = some x → commonN (a ++ [x]) w = a.length + 1))
  | [], x, w => by
    cases w with
    | nil => simp [commonN]
    | cons y w =>
      simp [commonN]
      by_cases h : x = y
      · simp [h]
      · simp [h]; exact fun z => h z.symm
  | a :: as, x, [] => by simp [commonN]
  | a :: as, x, y :: w => by
    obtain ⟨h1, h2⟩ := commonN_snoc as x w
    simp only [List.cons_append, commonN, List.length_cons]
    by_cases h : a = y
    · simp only [if_pos h]
      refine ⟨fun z => by rw [h1 (by omega)], fun z => ?_⟩
      obtain ⟨h3, h4⟩ := h2 (by omega)
      refine ⟨by omega, fun q => ?_⟩
      rw [h4 (by simpa using q)]
    · simp only [if_neg h]
      exact ⟨fun _ => by simp, fun z => by omega⟩
theorem commonN_take : ∀ (p w : List Str) (k : Nat), commonN (p.take k) w = min k (commonN p w)
  | [], w, k => by simp [commonN]
  | a :: p, [], k => by cases k <;> simp [commonN]
  | a :: p, y :: w, 0 => by simp [commonN]
  | a :: p, y :: w, k + 1 => by
    rw [List.take_succ_cons, commonN, commonN, commonN_take p w k]
    split <;> omega
/-- a visit: what is common behind it -/
theorem common_visit {p w : List Str} {i : Nat} (x : Str) (hi : i < p.length) :
    (commonN p w ≤ i → commonN (p.take (i + 1) ++ [x]) w = commonN p w) ∧
    (i + 1 ≤ commonN p w → (commonN (p.take (i + 1) ++ [x]) w = i + 1 ∨ commonN (p.take (i + 1) ++ [x]) w = i + 2) ∧ (w[i + 1]? = some x → commonN (p.take (i + 1) ++ [x]) w = i + 2)) ∧
    (p.take (i + 1) ++ [x] = w → w.length = i + 2 ∧ i + 1 ≤ commonN p w) := by
  have hl : (p.take (i + 1)).length = i + 1 := by simp; omega
  have ht := commonN_take p w (i + 1)
  obtain ⟨h1, h2⟩ := commonN_snoc (p.take (i + 1)) x w
  rw [hl, ht] at h1 h2
  refine ⟨fun z => by rw [h1 (by omega)]; omega, fun z => h2 (by omega), fun z => ?_⟩
  have e1 : commonN (p.take (i + 1) ++ [x]) w = i + 2 := by
    rw [← z, commonN_self]; simp; omega
  have : w.length = i + 2 := by rw [← z]; simp; omega
  refine ⟨this, ?_⟩
  omega
theorem distH_self (h : Hist) : distH h h = some 0 := by unfold distH; rw [if_pos rfl]; simp
theorem step_valid {h : Hist} {a : Act} (hv : h.at_ < h.ps.length) (ha : plain a = true) : (stepH h a).at_ < (stepH h a).ps.length := by
  cases a with
  | visit p => simp [stepH]; omega
  | back => simp [stepH]; omega
  | forward => simp [stepH]; omega
  | go i => cases ha
theorem dist_mk (p w : List Str) (i e : Nat) : distH ⟨p, i⟩ ⟨w, e⟩ = if p = w then some ((((i : Int) - e).natAbs : Nat) : Int) else if min (commonN p w) (w.length - 1) = 0 then none else some ((((min i (min (commonN p w) (w.length - 1) - 1) : Nat) - i : Int).natAbs : Int) + w.length - 1 - (min i (min (commonN p w) (w.length - 1) - 1) : Nat) + w.length - 1 - e) := rfl
/-- one action lowers the distance by at most one -/
theorem dist_step {h t : Hist} {a : Act} (hv : h.at_ < h.ps.length) (tv : t.at_ < t.ps.length) (ha : plain a = true) {v : Int} (hd : distH (stepH h a) t = some v) : ∃ u, distH h t = some u ∧ u ≤ v + 1 := by
  obtain ⟨p, i⟩ := h
  obtain ⟨w, e⟩ := t
  simp only at hv tv
  have cl := commonN_le p w
  cases a with
  | go j => cases ha
  | back =>
    change distH ⟨p, i - 1⟩ ⟨w, e⟩ = some v at hd
    rw [dist_mk] at hd ⊢
    by_cases hp : p = w
    · rw [if_pos hp] at hd ⊢
      exact ⟨_, rfl, by have := Option.some.inj hd; omega⟩
    · rw [if_neg hp] at hd ⊢
      by_cases hk : min (commonN p w) (w.length - 1) = 0
      · rw [if_pos hk] at hd; cases hd
      · rw [if_neg hk] at hd ⊢
        exact ⟨_, rfl, by have := Option.some.inj hd; omega⟩
  | forward =>
    change distH ⟨p, min (p.length - 1) (i + 1)⟩ ⟨w, e⟩ = some v at hd
    rw [dist_mk] at hd ⊢
    by_cases hp : p = w
    · rw [if_pos hp] at hd ⊢
      exact ⟨_, rfl, by have := Option.some.inj hd; omega⟩
    · rw [if_neg hp] at hd ⊢
      by_cases hk : min (commonN p w) (w.length - 1) = 0
      · rw [if_pos hk] at hd; cases hd
      · rw [if_neg hk] at hd ⊢
        exact ⟨_, rfl, by have := Option.some.inj hd; omega⟩
  | visit x =>
    obtain ⟨c1, c2, c3⟩ := common_visit (w := w) x hv
    change distH ⟨p.take (i + 1) ++ [x], i + 1⟩ ⟨w, e⟩ = some v at hd
    rw [dist_mk] at hd ⊢
    by_cases hp : p = w
    · rw [if_pos hp]
      refine ⟨_, rfl, ?_⟩
      have hpl : p.length = w.length := by rw [hp]
      split at hd
      · have := Option.some.inj hd; omega
      · split at hd
        · cases hd
        · have := Option.some.inj hd; omega
    · rw [if_neg hp]
      split at hd
      · rename_i hq
        obtain ⟨l1, l2⟩ := c3 hq
        rw [if_neg (by omega)]
        exact ⟨_, rfl, by have := Option.some.inj hd; omega⟩
      · split at hd
        · cases hd
        · rename_i hk'
          have := Option.some.inj hd
          by_cases hc : commonN p w ≤ i
          · have e1 := c1 hc
            rw [if_neg (by omega)]
            exact ⟨_, rfl, by omega⟩
          · obtain ⟨e1, _⟩ := c2 (by omega)
            rw [if_neg (by omega)]
            exact ⟨_, rfl, by omega⟩
theorem run_valid : ∀ (l : List Act) {h : Hist}, h.at_ < h.ps.length → l.all plain = true → (runH h l).at_ < (runH h l).ps.length
  | [], _, hv, _ => hv
  | a :: l, h, hv, hp => by
    rw [List.all_cons, Bool.and_eq_true] at hp
    exact run_valid l (step_valid hv hp.1) hp.2
theorem dist_run : ∀ (l : List Act) {h t : Hist} {v : Int}, h.at_ < h.ps.length → t.at_ < t.ps.length → l.all plain = true → distH (runH h l) t = some v → ∃ u, distH h t = some u ∧ u ≤ v + l.length
  | [], h, t, v, _, _, _, hd => ⟨v, hd, by simp⟩
  | a :: l, h, t, v, hv, tv, hp, hd => by
    rw [List.all_cons, Bool.and_eq_true] at hp
    obtain ⟨u, h1, h2⟩ := dist_run l (step_valid hv hp.1) tv hp.2 (show distH (runH (stepH h a) l) t = some v from hd)
    obtain ⟨u', h3, h4⟩ := dist_step hv tv hp.1 h1
    refine ⟨u', h3, ?_⟩
    rw [List.length_cons]
    omega
theorem commonN_all {a b : List Str} (h : commonN a b = b.length) (h2 : commonN a b = a.length) : a = b := by
  induction a generalizing b with
  | nil => cases b with
    | nil => rfl
    | cons y b => simp [commonN] at h
  | cons x a ih => cases b with
    | nil => simp [commonN] at h2
    | cons y b =>
      rw [commonN] at h h2
      split at h
      · rename_i e
        rw [if_pos e] at h2
        simp only [List.length_cons, Nat.add_right_cancel_iff] at h h2
        rw [e, ih h h2]
      · simp at h
theorem distH_zero {h t : Hist} (h1 : h.at_ < h.ps.length) (h2 : t.at_ < t.ps.length) : (distH h t = some 0) ↔ h = t := by
  unfold distH
  obtain ⟨hp, ha⟩ := h
  obtain ⟨tp, ta⟩ := t
  have l1 := h1
  have l2 := h2
  simp only at l1 l2 ⊢
  constructor
  · intro e
    split at e
    · rename_i q
      subst q
      simp only [Option.some.injEq] at e
      congr 1
      omega
    · rename_i q
      split at e
      · cases e
      · rename_i q2
        exfalso
        simp only [Option.some.injEq] at e
        have kle : keptN ⟨hp, ha⟩ ⟨tp, ta⟩ ≤ tp.length - 1 := Nat.min_le_right _ _
        omega
  · intro e
    cases e
    rw [if_pos rfl]
    simp
/-! plans -/
def mostF (h t : Hist) : Nat := if h.ps = t.ps then t.at_ - h.at_ else keptN h t - 1 - h.at_
def countP (h t : Hist) : Nat := if distH h t = none then 0 else if h.ps = t.ps ∧ ¬ (h.at_ < t.at_ ∧ t.at_ = t.ps.length - 1) then 1 else mostF h t + 1
def downF (h t : Hist) : Nat := if h.ps = t.ps then 0 else h.at_ + 1 - keptN h t
def planH (h t : Hist) (n : Nat) : Option (List Act) :=
  if countP h t ≤ n then none
  else if h.ps = t.ps ∧ n = 0 then some (List.replicate (mostF h t - n) .forward ++ List.replicate (h.at_ - t.at_) .back)
  else some (List.replicate (downF h t) .back ++ List.replicate (mostF h t - n) .forward ++ (t.ps.drop (h.at_ - downF h t + (mostF h t - n) + 1)).map .visit ++ List.replicate (t.ps.length - 1 - t.at_) .back)
/-- the plan's first action is one nearer -/
theorem plan_first {h t : Hist} (hv : h.at_ < h.ps.length) (tv : t.at_ < t.ps.length) {v : Int} (hd : distH h t = some v) (h0 : 0 < v) : ∃ a l, planH h t 0 = some (a :: l) ∧ plain a = true ∧ distH (stepH h a) t = some (v - 1) := by
  obtain ⟨p, i⟩ := h
  obtain ⟨w, e⟩ := t
  have hc : ¬ countP ⟨p, i⟩ ⟨w, e⟩ ≤ 0 := by
    unfold countP
    rw [hd, if_neg (by simp)]
    split <;> omega
  unfold planH
  rw [if_neg hc]
  simp only [Nat.sub_zero]
  simp only at hv tv
  have cl := commonN_le p w
  rw [dist_mk] at hd
  by_cases hp : p = w
  · rw [if_pos hp] at hd
    have hd2 := Option.some.inj hd
    have hpl : p.length = w.length := by rw [hp]
    rw [if_pos (by simp [hp])]
    unfold mostF
    simp only [if_pos hp]
    by_cases hlt : i < e
    · obtain ⟨k, hk⟩ : ∃ k, e - i = k + 1 := ⟨e - i - 1, by omega⟩
      rw [hk, List.replicate_succ]
      refine ⟨.forward, _, rfl, rfl, ?_⟩
      show distH ⟨p, min (p.length - 1) (i + 1)⟩ ⟨w, e⟩ = _
      rw [dist_mk, if_pos hp]
      congr 1; omega
    · obtain ⟨k, hk⟩ : ∃ k, i - e = k + 1 := ⟨i - e - 1, by omega⟩
      rw [show e - i = 0 by omega, hk, List.replicate_succ]
      refine ⟨.back, _, rfl, rfl, ?_⟩
      show distH ⟨p, i - 1⟩ ⟨w, e⟩ = _
      rw [dist_mk, if_pos hp]
      congr 1; omega
  · rw [if_neg hp] at hd
    rw [if_neg (fun z => hp z.1)]
    split at hd
    · cases hd
    · rename_i hk
      have hd2 := Option.some.inj hd
      have hkn : keptN ⟨p, i⟩ ⟨w, e⟩ = min (commonN p w) (w.length - 1) := rfl
      have hdn : downF ⟨p, i⟩ ⟨w, e⟩ = i + 1 - min (commonN p w) (w.length - 1) := by unfold downF; simp only [if_neg hp]; rw [hkn]
      have hmo : mostF ⟨p, i⟩ ⟨w, e⟩ = min (commonN p w) (w.length - 1) - 1 - i := by unfold mostF; simp only [if_neg hp]; rw [hkn]
      rw [hdn, hmo]
      by_cases h1 : min (commonN p w) (w.length - 1) ≤ i
      · obtain ⟨k, hk2⟩ : ∃ k, i + 1 - min (commonN p w) (w.length - 1) = k + 1 := ⟨i - min (commonN p w) (w.length - 1), by omega⟩
        rw [hk2, List.replicate_succ]
        refine ⟨.back, _, rfl, rfl, ?_⟩
        show distH ⟨p, i - 1⟩ ⟨w, e⟩ = _
        rw [dist_mk, if_neg hp, if_neg hk]
        congr 1; omega
      · have e0 : i + 1 - min (commonN p w) (w.length - 1) = 0 := by omega
        rw [e0, List.replicate_zero, List.nil_append]
        by_cases h2 : i + 1 < min (commonN p w) (w.length - 1)
        · obtain ⟨k, hk2⟩ : ∃ k, min (commonN p w) (w.length - 1) - 1 - i = k + 1 := ⟨min (commonN p w) (w.length - 1) - 1 - i - 1, by omega⟩
          rw [hk2, List.replicate_succ]
          refine ⟨.forward, _, rfl, rfl, ?_⟩
          show distH ⟨p, min (p.length - 1) (i + 1)⟩ ⟨w, e⟩ = _
          rw [dist_mk, if_neg hp, if_neg hk]
          congr 1; omega
        · have e1 : min (commonN p w) (w.length - 1) - 1 - i = 0 := by omega
          rw [e1, List.replicate_zero, List.nil_append, Nat.add_zero, Nat.sub_zero]
          have hi : i + 1 < w.length := by omega
          have hx : w[i + 1]? = some w[i + 1] := List.getElem?_eq_getElem hi
          rw [List.drop_eq_getElem_cons hi, List.map_cons]
          refine ⟨.visit w[i + 1], _, rfl, rfl, ?_⟩
          show distH ⟨p.take (i + 1) ++ [w[i + 1]], i + 1⟩ ⟨w, e⟩ = _
          obtain ⟨c1, c2, c3⟩ := common_visit (w := w) w[i + 1] hv
          have c4 := (c2 (by omega)).2 hx
          rw [dist_mk]
          by_cases hq : p.take (i + 1) ++ [w[i + 1]] = w
          · obtain ⟨l1, l2⟩ := c3 hq
            rw [if_pos hq]
            congr 1; omega
          · have hlen : w.length ≠ i + 2 := by
              intro hl
              apply hq
              have a1 : (p.take (i + 1) ++ [w[i + 1]]).length = i + 2 := by simp; omega
              refine commonN_all ?_ ?_
              · rw [c4, hl]
              · rw [c4, a1]
            rw [if_neg hq, if_neg (by omega)]
            congr 1; omega
theorem dist_nonneg {h t : Hist} (hv : h.at_ < h.ps.length) (tv : t.at_ < t.ps.length) {v : Int} (hd : distH h t = some v) : 0 ≤ v := by
  obtain ⟨p, i⟩ := h
  obtain ⟨w, e⟩ := t
  simp only at hv tv
  rw [dist_mk] at hd
  split at hd
  · have := Option.some.inj hd; omega
  · split at hd
    · cases hd
    · have := Option.some.inj hd; omega
theorem dist_reach : ∀ (n : Nat) {h t : Hist}, h.at_ < h.ps.length → t.at_ < t.ps.length → distH h t = some (n : Int) → ∃ l : List Act, l.length = n ∧ l.all plain = true ∧ runH h l = t
  | 0, h, t, hv, tv, hd => ⟨[], rfl, rfl, (distH_zero hv tv).mp hd⟩
  | n + 1, h, t, hv, tv, hd => by
    obtain ⟨a, _, _, pa, h1⟩ := plan_first hv tv hd (by omega)
    obtain ⟨l, l1, l2, l3⟩ := dist_reach n (step_valid hv pa) tv (by rw [h1]; congr 1; omega)
    exact ⟨a :: l, by simp [l1], by simp [pa, l2], l3⟩
/-- by way of a third history -/
theorem dist_tri {h o t : Hist} (hv : h.at_ < h.ps.length) (ov : o.at_ < o.ps.length) (tv : t.at_ < t.ps.length) {u v : Int} (h1 : distH h o = some u) (h2 : distH o t = some v) : ∃ x, distH h t = some x ∧ x ≤ u + v := by
  have := dist_nonneg hv ov h1
  obtain ⟨n, rfl⟩ : ∃ n : Nat, u = n := ⟨u.toNat, by omega⟩
  obtain ⟨l, l1, l2, l3⟩ := dist_reach n hv ov h1
  rw [← l3] at h2
  obtain ⟨x, h3, h4⟩ := dist_run l hv tv l2 h2
  exact ⟨x, h3, by omega⟩
theorem take_of_common : ∀ (p w : List Str) (k : Nat), k ≤ commonN p w → p.take k = w.take k
  | _, _, 0, _ => by simp
  | [], w, k + 1, h => by simp [commonN] at h
  | _ :: _, [], k + 1, h => by simp [commonN] at h
  | a :: p, b :: w, k + 1, h => by
    rw [commonN] at h
    split at h
    · rename_i e
      rw [List.take_succ_cons, List.take_succ_cons, e, take_of_common p w k (by omega)]
    · omega
end BF

set_option Elab.async false
set_option linter.all false
set_option autoImplicit false
set_option maxRecDepth 10000
namespace BF
open PySem Enc
/-! which pages a script leaves -/
theorem histD_pages (ns : List Int) (most : Nat) (pool : List Str) (s : Dr) (h : 0 < pool.length) : ∀ p ∈ (histD ns most pool s).1.ps, p ∈ pool := by
  refine repD_all (pickD ns pool) (· ∈ pool) (fun s => ?_) _ _
  have d2 := drawD_lt ns s h
  unfold pickD
  simp only
  rw [List.getD_eq_getElem?_getD, List.getElem?_eq_getElem d2]
  exact List.getElem_mem d2
def pageOf : Act → List Str
  | .visit p => [p]
  | _ => []
theorem actD_pages (ns : List Int) (pool : List Str) (s : Dr) (h : 0 < pool.length) : ∀ p ∈ pageOf (actD ns pool s).1, p ∈ pool := by
  intro p hp
  simp only [actD] at hp
  split at hp
  · cases hp
  split at hp
  · cases hp
  split at hp
  · cases hp
  · rw [pageOf, List.mem_singleton] at hp
    subst hp
    have d2 := drawD_lt ns (drawD ns 4 s).2 h
    unfold pickD
    simp only
    rw [List.getD_eq_getElem?_getD, List.getElem?_eq_getElem d2]
    exact List.getElem_mem d2
theorem scrD_pages (ns : List Int) (most : Nat) (pool : List Str) (s : Dr) (h : 0 < pool.length) : ∀ a ∈ (scrD ns most pool s).1, ∀ p ∈ pageOf a, p ∈ pool :=
  repD_all _ (fun a => ∀ p ∈ pageOf a, p ∈ pool) (fun s => actD_pages ns pool s h) _ _
theorem step_pages {h : Hist} {a : Act} {pool : List Str} (hp : ∀ p ∈ h.ps, p ∈ pool) (ha : ∀ p ∈ pageOf a, p ∈ pool) (pa : plain a = true) : ∀ p ∈ (stepH h a).ps, p ∈ pool := by
  cases a with
  | visit x =>
    intro p hq
    rcases List.mem_append.mp hq with hq | hq
    · exact hp p (List.mem_of_mem_take hq)
    · exact ha p hq
  | back => exact hp
  | forward => exact hp
  | go i => cases pa
theorem run_pages {pool : List Str} : ∀ (l : List Act) {h : Hist}, l.all plain = true → (∀ p ∈ h.ps, p ∈ pool) → (∀ a ∈ l, ∀ p ∈ pageOf a, p ∈ pool) → ∀ p ∈ (runH h l).ps, p ∈ pool
  | [], h, _, hp, _ => hp
  | a :: l, h, hl, hp, ha => by
    rw [List.all_cons, Bool.and_eq_true] at hl
    exact run_pages l hl.2 (step_pages hp (ha a List.mem_cons_self) hl.1) fun b hb => ha b (List.mem_cons_of_mem _ hb)
theorem run_len : ∀ (l : List Act) {h : Hist}, l.all plain = true → (runH h l).ps.length ≤ h.ps.length + l.length
  | [], h, _ => Nat.le_refl _
  | a :: l, h, hl => by
    rw [List.all_cons, Bool.and_eq_true] at hl
    have := run_len l (h := stepH h a) hl.2
    have h2 : (stepH h a).ps.length ≤ h.ps.length + 1 := by
      cases a with
      | visit x => simp [stepH]; omega
      | back => simp [stepH]
      | forward => simp [stepH]
      | go i => cases hl.1
    show (runH (stepH h a) l).ps.length ≤ _
    rw [List.length_cons]
    omega
end BF

set_option Elab.async false
set_option linter.all false
set_option autoImplicit false
set_option maxRecDepth 10000
namespace BF
open PySem Enc
/-! _law_step -/
def lstepF (h : Hist) (a : Act) : Option Hist := if valid h ∧ plain a = true then some (stepH h a) else none
def F__law_step : Fn := fn2 lstepF
abbrev N__law_step : List Str := ["history", "action", "pages", "place", "behind", "ahead", "page"]
def c__law_step : CS :=
  (sSeq (sSet (gT [(gV 2), (gV 3)]) (eV 0))
  (sSeq (sPar [4, 5] [(eN pList [(eSl (eV 2) none (some (eV 3)))]), (eN pList [(eSl (eV 2) (some (e2 gAdd (eV 3) (eL (.int 1)))) none)])])
  (sSeq (sSet (gV 6) (e2 gIx (eV 2) (eV 3)))
  (sSeq (sIf (tB (e2 gEq (e2 gIx (eV 1) (eL (.int 0))) (eL (.str "visit")))) (sPar [4, 6, 5] [(e2 gAdd (eV 4) (eLst [(eV 6)])), (e2 gIx (eV 1) (eL (.int 1))), (eLst [])]) (sIf (tAnd (tB (e2 gEq (e2 gIx (eV 1) (eL (.int 0))) (eL (.str "back")))) (tB (e2 gNe (eV 4) (eLst [])))) (sSeq (sSet (gV 5) (e2 gAdd (eLst [(eV 6)]) (eV 5)))
  (sSet (gV 6) (eML mPop (eV 4) []))) (sIf (tAnd (tB (e2 gEq (e2 gIx (eV 1) (eL (.int 0))) (eL (.str "forward")))) (tB (e2 gNe (eV 5) (eLst [])))) (sSeq (sSet (gV 4) (e2 gAdd (eV 4) (eLst [(eV 6)])))
  (sSet (gV 6) (eML mPopAt (eV 5) [(eL (.int 0))]))) sNil)))
  (sRet (eTup [(eN pTuple [(e2 gAdd (e2 gAdd (eV 4) (eLst [(eV 6)])) (eV 5))]), (eN pLen [(eV 4)])]))))))
theorem lstep_ok {h : Hist} {a : Act} (M : Mem) (hv : valid h) (ha : plain a = true) : F__law_step [enc h, enc a] M = some (enc (stepH h a), M) := by
  have := fn2_eq lstepF h a M
  unfold lstepF at this
  rw [if_pos ⟨hv, ha⟩] at this
  exact this
theorem keeps__law_step : Keeps 7 c__law_step F__law_step := by
  refine keeps2p fun h a c M e => ?_
  unfold lstepF at e
  split at e
  · rename_i hv
    cases e
    obtain ⟨⟨h1, h2⟩, h3⟩ := hv
    have k1 : h.ps.length ≤ 16777215 := by omega
    obtain ⟨ps, i⟩ := h
    simp only at h1 h2 k1
    obtain ⟨p, hp⟩ : ∃ p, ps[i]? = some p := ⟨_, List.getElem?_eq_getElem h1⟩
    have e0 : ps.take i ++ [p] = ps.take (i + 1) := by rw [List.take_add_one, hp]; rfl
    have e1 : ps.take i ++ (p :: ps.drop (i + 1)) = ps := by
      have : ps.drop i = p :: ps.drop (i + 1) := by
        rw [List.drop_eq_getElem_cons h1]
        rw [List.getElem?_eq_getElem h1] at hp
        cases hp; rfl
      rw [← this, List.take_append_drop]
    have e1' : List.take i (ps.map W.str) ++ (W.str p :: List.drop (i + 1) (ps.map W.str)) = ps.map W.str := by
      have := congrArg (List.map W.str) e1
      simpa using this
    have t1 : i ≤ 16777215 := by omega
    have t2 : i ≤ 16777214 := by omega
    have t3 : i + (1 + (ps.length - (i + 1))) ≤ 16777216 := by omega
    have t4 : i ≤ 16777213 := by omega
    have t5 : 1 + (ps.length - (i + 1)) ≤ 16777216 := by omega
    have m5 : min i ps.length = i := by omega
    have n1 : ps ≠ [] := fun z => by rw [z] at h1; simp at h1
    have e2 : (ps.take (i + 1)).map W.str = (ps.take i).map W.str ++ [.str p] := by rw [← e0]; simp
    simp only [List.map_take] at e2
    cases a with
    | visit q =>
      simp [c__law_step, enc_hist, stepH, cutW_map, ixW_nat h1, hp, List.length_take, m5, Nat.add_assoc, e2, t1, t2, t3, t4, t5]
    | back =>
      have q1 : eqW (M ++ [.lst ((ps.take i).map W.str), .lst ((ps.drop (i + 1)).map W.str), .lst []]) (.ref M.length) (.ref (M.length + 2)) = some (decide (ps.take i = [])) :=
        eqW_lst (α := Str) _ _ _ (ps.take i) [] (by simp; rfl) (by simp)
      simp only [List.map_take, List.map_drop] at q1
      by_cases hi : i = 0
      · rw [decide_eq_true (by simp [hi])] at q1
        simp [c__law_step, enc_hist, stepH, cutW_map, ixW_nat h1, hp, List.length_take, m5, Nat.add_assoc, q1, t1, t2, t3, t4, t5, e1']
        exact ⟨_, ⟨by omega, rfl⟩, List.prefix_append _ _⟩
      · rw [decide_eq_false (by simp [hi, n1])] at q1
        obtain ⟨p', hp'⟩ : ∃ p', ps[i - 1]? = some p' := ⟨_, List.getElem?_eq_getElem (by omega)⟩
        have hlt : i - 1 < i := by omega
        have e3 : List.take (i - 1) (ps.map W.str) ++ (W.str p' :: W.str p :: List.drop (i + 1) (ps.map W.str)) = ps.map W.str := by
          have : ps.take i = ps.take (i - 1) ++ [p'] := by
            have := List.take_add_one (l := ps) (i := i - 1)
            rw [hp', show i - 1 + 1 = i by omega] at this
            exact this
          have e4 := congrArg (List.map W.str) this
          simp only [List.map_take, List.map_append, List.map_cons, List.map_nil] at e4
          rw [e4] at e1'
          simpa using e1'
        have t6 : i - 1 ≤ 16777215 := by omega
        have t7 : min (i - 1) ps.length = i - 1 := by omega
        have t8 : i - 1 + (1 + (1 + (ps.length - (i + 1)))) ≤ 16777216 := by omega
        have t9 : i - 1 + (1 + (ps.length - (i + 1) + 1)) ≤ 16777216 := by omega
        simp [c__law_step, enc_hist, stepH, cutW_map, ixW_nat h1, hp, hp', hlt, List.length_take, List.dropLast_take, m5, Nat.add_assoc, q1, t1, t2, t3, t4, t5, t6, t7, t8, t9, e3]
        refine ⟨_, ⟨?_, rfl⟩, List.prefix_append _ _⟩
        have hd : (List.take i (ps.map W.str)).dropLast = List.take (i - 1) (ps.map W.str) := by
          rw [List.dropLast_eq_take, List.length_take, List.length_map, m5, List.take_take, show min (i - 1) i = i - 1 by omega]
        rw [hd]
        rw [List.getElem?_eq_getElem (by omega)] at hp'
        cases hp'
        exact e3
    | forward =>
      have q1 : eqW (M ++ [.lst ((ps.take i).map W.str), .lst ((ps.drop (i + 1)).map W.str), .lst []]) (.ref (M.length + 1)) (.ref (M.length + 2)) = some (decide (ps.drop (i + 1) = [])) :=
        eqW_lst (α := Str) _ _ _ (ps.drop (i + 1)) [] (by simp; rfl) (by simp)
      simp only [List.map_take, List.map_drop] at q1
      by_cases hi : i + 1 = ps.length
      · rw [decide_eq_true (by simp [hi])] at q1
        simp [c__law_step, enc_hist, stepH, cutW_map, ixW_nat h1, hp, List.length_take, m5, Nat.add_assoc, q1, t1, t2, t3, t4, t5, e1']
        exact ⟨_, ⟨by omega, rfl⟩, List.prefix_append _ _⟩
      · rw [decide_eq_false (by simp; omega)] at q1
        have hf : small62 0 = true := rfl
        have hx : ixW (ps.length - (i + 1)) 0 = some 0 := ixW_nat (j := 0) (by omega)
        obtain ⟨p', hp'⟩ : ∃ p', ps[i + 1]? = some p' := ⟨_, List.getElem?_eq_getElem (by omega)⟩
        have t6 : i + 1 ≤ 16777215 := by omega
        have t7 : i + (2 + (ps.length - (i + 2))) ≤ 16777216 := by omega
        have e3 : List.take i (ps.map W.str) ++ (W.str p :: W.str p' :: List.drop (i + 2) (ps.map W.str)) = ps.map W.str := by
          have : ps.drop (i + 1) = p' :: ps.drop (i + 2) := by
            rw [List.drop_eq_getElem_cons (by omega)]
            rw [List.getElem?_eq_getElem (by omega)] at hp'
            cases hp'; rfl
          have e4 := congrArg (List.map W.str) this
          simp only [List.map_drop, List.map_cons] at e4
          rw [e4] at e1'
          exact e1'
        simp [c__law_step, enc_hist, stepH, cutW_map, ixW_nat h1, hp, hp', hf, hx, List.length_take, m5, Nat.add_assoc, q1, t1, t2, t3, t4, t5, t6, t7, e3]
        exact ⟨_, ⟨by omega, rfl⟩, List.prefix_append _ _⟩
    | go i => cases h3
  · cases e
end BF

set_option Elab.async false
set_option linter.all false
set_option autoImplicit false
set_option maxRecDepth 10000
namespace BF
open PySem Enc
/-! after -/
def afterF (h : Hist) (a : Act) : Option Hist := if valid h ∧ plain a = true then some (stepH h a) else none
def F_after : Fn := fn2 afterF
abbrev N_after : List Str := ["history", "action", "pages", "place"]
def c_after : CS :=
  (sSeq (sSet (gT [(gV 2), (gV 3)]) (eV 0))
  (sSeq (sIf (tB (e2 gEq (e2 gIx (eV 1) (eL (.int 0))) (eL (.str "visit")))) (sRet (eTup [(e2 gAdd (eSl (eV 2) none (some (e2 gAdd (eV 3) (eL (.int 1))))) (eTup [(e2 gIx (eV 1) (eL (.int 1)))])), (e2 gAdd (eV 3) (eL (.int 1)))])) sNil)
  (sSeq (sIf (tB (e2 gEq (e2 gIx (eV 1) (eL (.int 0))) (eL (.str "back")))) (sRet (eTup [(eV 2), (eN pMax [(eL (.int 0)), (e2 gSub (eV 3) (eL (.int 1)))])])) sNil)
  (sRet (eTup [(eV 2), (eN pMin [(e2 gSub (eN pLen [(eV 2)]) (eL (.int 1))), (e2 gAdd (eV 3) (eL (.int 1)))])])))))
theorem after_ok {h : Hist} {a : Act} (M : Mem) (hv : valid h) (ha : plain a = true) : F_after [enc h, enc a] M = some (enc (stepH h a), M) := by
  have := fn2_eq afterF h a M
  unfold afterF at this
  rw [if_pos ⟨hv, ha⟩] at this
  exact this
theorem keeps_after : Keeps 4 c_after F_after := by
  refine keeps2 fun h a c M e => ⟨[], ?_⟩
  unfold afterF at e
  split at e
  · rename_i hv
    cases e
    obtain ⟨⟨h1, h2⟩, h3⟩ := hv
    rw [List.append_nil]
    have k1 : h.ps.length ≤ 16777215 := by omega
    cases a with
    | visit p =>
      have k2 : (h.ps.take (h.at_ + 1)).length + 1 ≤ 16777216 := by simp; omega
      simp [c_after, enc_hist, stepH, cutW_map, List.length_take] at k2 ⊢
      rw [if_pos k2]
      simp
    | back =>
      simp [c_after, enc_hist, stepH]
      split <;> omega
    | forward =>
      simp [c_after, enc_hist, stepH]
      split <;> omega
    | go i => cases h3
  · cases e
end BF

set_option Elab.async false
set_option linter.all false
set_option autoImplicit false
set_option maxRecDepth 10000
namespace BF
open PySem Enc
/-! _law_alphabet -/
def alph (pool : List Str) : List Act := [Act.back, .forward] ++ pool.map .visit
theorem alph_plain (pool : List Str) : ∀ a ∈ alph pool, plain a = true := by
  intro a ha
  rcases List.mem_append.mp ha with ha | ha
  · rcases List.mem_cons.mp ha with rfl | ha
    · rfl
    · rw [List.mem_singleton] at ha; subst ha; rfl
  · obtain ⟨p, _, rfl⟩ := List.mem_map.mp ha; rfl
def alphF (pool : List Str) : Option (List Act) := if pool.length ≤ 100 then some (alph pool) else none
def F__law_alphabet : Fn := fnL1 alphF
abbrev N__law_alphabet : List Str := ["pool", "page"]
def c__law_alphabet : CS :=
  (sRet (e2 gAdd (eLst [(eTup [(eL (.str "back"))]), (eTup [(eL (.str "forward"))])]) (eLc (iTup (eV 0)) (gV 1) tTrue (eTup [(eL (.str "visit")), (eV 1)]) [1])))
theorem alph_ok {pool : List Str} (M : Mem) (h : pool.length ≤ 100) : F__law_alphabet [enc pool] M = some (.ref M.length, M ++ [.lst ((alph pool).map enc)]) := by
  have := fnL1_eq alphF pool M
  unfold alphF at this
  rw [if_pos h] at this
  exact this
theorem keeps__law_alphabet : Keeps 2 c__law_alphabet F__law_alphabet := by
  refine keepsL1 fun pool cs M e => ?_
  unfold alphF at e
  split at e
  · rename_i h
    cases e
    have key := lcL_pure (gd := gdT) (g := gV 1) (e := eTup [(eL (.str "visit")), (eV 1)]) (vs := [1]) (σ := [some (enc pool), none]) (pool.map W.str) (fun w => .tup [.str "visit", w]) (M ++ [.lst [enc Act.back, enc Act.forward]]) [] (by simp; omega) (fun _ => rfl) (fun w _ l => ⟨_, rfl, by simp [wipe]⟩)
    have q : (M ++ [MO.lst [enc Act.back, enc Act.forward]]).length = M.length + 1 := by simp
    rw [q] at key
    have hm : (pool.map W.str).map (fun w => W.tup [.str "visit", w]) = (pool.map Act.visit).map enc := by
      rw [List.map_map, List.map_map]; rfl
    rw [hm, List.nil_append] at key
    refine ⟨M.length + 2, [.lst [enc Act.back, enc Act.forward], .lst ((pool.map Act.visit).map enc), .lst ((alph pool).map enc)], ?_, by omega, ?_⟩
    · have g1 : (M ++ [MO.lst [enc Act.back, enc Act.forward]] ++ [.lst ((pool.map Act.visit).map enc)])[M.length]? = some (.lst [enc Act.back, enc Act.forward]) := by simp
      have g2 : (M ++ [MO.lst [enc Act.back, enc Act.forward]] ++ [.lst ((pool.map Act.visit).map enc)])[M.length + 1]? = some (.lst ((pool.map Act.visit).map enc)) := by
        rw [List.getElem?_append_right (by simp)]; simp
      have k1 : 2 + pool.length ≤ 16777216 := by omega
      simp only [enc_list, map_encS, enc_back, enc_forward, List.append_assoc, List.cons_append, List.nil_append, List.map_map] at key g1 g2
      simp [c__law_alphabet, enc_list, map_encS, key, g1, g2, k1, alph]
    · rw [List.getElem?_append_right (by omega)]; simp
  · cases e
end BF

set_option Elab.async false
set_option linter.all false
set_option autoImplicit false
set_option maxRecDepth 10000
namespace BF
open PySem Enc
/-! sight -/
def sightH (h : Hist) : Sight := ⟨h.ps.getD h.at_ default, decide (0 < h.at_), decide (h.at_ + 1 < h.ps.length)⟩
def sightF (h : Hist) : Option Sight := if valid h then some (sightH h) else none
def F_sight : Fn := fn1 sightF
abbrev N_sight : List Str := ["history", "pages", "place"]
def c_sight : CS :=
  (sSeq (sSet (gT [(gV 1), (gV 2)]) (eV 0))
  (sRet (eTup [(e2 gIx (eV 1) (eV 2)), (e2 gGt (eV 2) (eL (.int 0))), (e2 gLt (eV 2) (e2 gSub (eN pLen [(eV 1)]) (eL (.int 1))))])))
theorem sight_ok {h : Hist} (M : Mem) (hv : valid h) : F_sight [enc h] M = some (enc (sightH h), M) := by
  have := fn1_eq sightF h M
  unfold sightF at this
  rw [if_pos hv] at this
  exact this
theorem keeps_sight : Keeps 3 c_sight F_sight := by
  refine keeps1 fun h c M e => ⟨[], ?_⟩
  unfold sightF at e
  split at e
  · rename_i hv
    cases e
    obtain ⟨h1, h2⟩ := hv
    rw [List.append_nil]
    simp [c_sight, enc_hist, enc_sight, sightH, ixW_nat h1, h1]
    omega
  · cases e
end BF

set_option Elab.async false
set_option linter.all false
set_option autoImplicit false
set_option maxRecDepth 10000
namespace BF
open PySem Enc
/-! dicts of our own keys, plainly -/
theorem keyNs_map {α : Type} {f : α → W} {k : α → NestedKey} (h : ∀ a, keyN (f a) = some (k a)) : ∀ l : List α, keyNs (l.map f) = some (l.map k)
  | [] => rfl
  | a :: l => by rw [List.map_cons, keyNs, h a, keyNs_map h l]; rfl
theorem depthAll_map {α : Type} {k : α → NestedKey} {d : Nat} (h : ∀ a, (k a).depth ≤ d) : ∀ l : List α, NestedKey.depthAll (l.map k) ≤ d
  | [] => Nat.zero_le _
  | a :: l => by rw [List.map_cons, NestedKey.depthAll]; exact Nat.max_le.mpr ⟨h a, depthAll_map h l⟩
class KeyE (α : Type) [Enc α] where
  kk : α → NestedKey
  keyN_enc : ∀ a : α, keyN (enc a) = some (kk a)
  keyT_enc : ∀ a : α, keyT (enc a) = some (kk a)
  inj : ∀ a b : α, kk a = kk b → a = b
def histK (h : Hist) : NestedKey := .tup [.tup (h.ps.map .text), .num (h.at_ : Int)]
theorem histK_dep (h : Hist) : (histK h).depth ≤ 2 := by
  have := depthAll_map (k := NestedKey.text) (d := 0) (fun _ => Nat.le_refl _) h.ps
  simp only [histK, NestedKey.depth, NestedKey.depthAll]
  omega
theorem histK_n (h : Hist) : keyN (enc h) = some (histK h) := by
  rw [enc_hist, keyN, keyNs, keyN, keyNs_map (k := NestedKey.text) (fun _ => rfl)]
  rfl
theorem texts_inj : ∀ a b : List Str, a.map NestedKey.text = b.map NestedKey.text → a = b
  | [], [], _ => rfl
  | [], _ :: _, h => by cases h
  | _ :: _, [], h => by cases h
  | x :: a, y :: b, h => by
    simp only [List.map_cons, List.cons.injEq, NestedKey.text.injEq] at h
    rw [h.1, texts_inj a b h.2]
theorem histK_inj (a b : Hist) (h : histK a = histK b) : a = b := by
  simp only [histK, NestedKey.tup.injEq, List.cons.injEq, NestedKey.num.injEq, and_true] at h
  obtain ⟨ap, aa⟩ := a
  obtain ⟨bp, ba⟩ := b
  simp only at h
  rw [texts_inj _ _ h.1, show aa = ba by omega]
theorem keyT_of {ws : List W} {k : NestedKey} (h : keyN (.tup ws) = some k) (hd : k.depth ≤ 8) : keyT (.tup ws) = some k := by
  rw [keyN] at h
  obtain ⟨ks, h1, rfl⟩ := Option.map_eq_some_iff.mp h
  unfold keyT
  simp only [h1, if_pos hd]
instance : KeyE Hist where
  kk := histK
  keyN_enc := histK_n
  keyT_enc h := keyT_of (histK_n h) (by have := histK_dep h; omega)
  inj := histK_inj
def sightK (s : Sight) : NestedKey := .tup [.text s.p, .num (if s.b = true then 1 else 0), .num (if s.f = true then 1 else 0)]
instance : KeyE Sight where
  kk := sightK
  keyN_enc s := rfl
  keyT_enc s := keyT_of (k := sightK s) rfl (by simp [sightK, NestedKey.depth, NestedKey.depthAll])
  inj a b h := by
    simp only [sightK, NestedKey.tup.injEq, List.cons.injEq, NestedKey.num.injEq, NestedKey.text.injEq, and_true] at h
    obtain ⟨h1, h2, h3⟩ := h
    obtain ⟨ap, ab, af⟩ := a
    obtain ⟨bp, bb, bf⟩ := b
    simp only at h1 h2 h3
    subst h1
    cases ab <;> cases bb <;> cases af <;> cases bf <;> simp at h2 h3 ⊢
/-- (history, number) -/
instance : KeyE (Hist × Nat) where
  kk p := .tup [histK p.1, .num (p.2 : Int)]
  keyN_enc p := by rw [enc_pair, keyN, keyNs, histK_n]; rfl
  keyT_enc p := keyT_of (by rw [keyN, keyNs, histK_n]; rfl) (by have := histK_dep p.1; simp only [NestedKey.depth, NestedKey.depthAll]; omega)
  inj a b h := by
    simp only [NestedKey.tup.injEq, List.cons.injEq, NestedKey.num.injEq, and_true] at h
    exact Prod.ext (histK_inj _ _ h.1) (by omega)
section
variable {κ β : Type} [Enc κ] [KeyE κ] [DecidableEq κ]
/-- the entries as they stand in the memory -/
def rowsD (f : β → W) (L : List (κ × β)) : List (W × W) := L.map fun p => (enc p.1, f p.2)
def getD' (L : List (κ × β)) (a : κ) : Option β := (L.find? fun p => decide (p.1 = a)).map (·.2)
def putD (L : List (κ × β)) (a : κ) (b : β) : List (κ × β) := if (getD' L a).isSome = true then L.map fun p => if p.1 = a then (p.1, b) else p else L ++ [(a, b)]
theorem key_iff (a b : κ) : keyN (enc a : W) = some (KeyE.kk b) ↔ a = b := by
  rw [KeyE.keyN_enc]
  exact ⟨fun h => KeyE.inj _ _ (Option.some.inj h), fun h => by rw [h]⟩
theorem valN_rows (f : β → W) (a : κ) : ∀ L : List (κ × β), valN (rowsD f L) (KeyE.kk a) = (getD' L a).map f
  | [] => rfl
  | p :: L => by
    have ih := valN_rows f a L
    unfold valN rowsD getD' at ih ⊢
    rw [List.map_cons]
    by_cases h : p.1 = a
    · rw [List.find?_cons_of_pos (by simpa using (key_iff p.1 a).mpr h), List.find?_cons_of_pos (by simpa using h)]; rfl
    · rw [List.find?_cons_of_neg (by simpa using fun z => h ((key_iff p.1 a).mp z)), List.find?_cons_of_neg (by simpa using h)]; exact ih
theorem putN_rows (f : β → W) (L : List (κ × β)) (a : κ) (b : β) : putN (rowsD f L) (KeyE.kk a) (enc a) (f b) = rowsD f (putD L a b) := by
  unfold putN putD
  rw [valN_rows, Option.isSome_map]
  split
  · unfold rowsD
    rw [List.map_map, List.map_map]
    refine List.map_congr_left fun p _ => ?_
    simp only [Function.comp]
    by_cases h : p.1 = a
    · rw [if_pos ((key_iff p.1 a).mpr h), if_pos h]
    · rw [if_neg (fun z => h ((key_iff p.1 a).mp z)), if_neg h]
  · unfold rowsD
    rw [List.map_append]; rfl
theorem getD_none {L : List (κ × β)} {a : κ} : getD' L a = none ↔ a ∉ L.map (·.1) := by
  unfold getD'
  rw [Option.map_eq_none_iff, List.find?_eq_none]
  constructor
  · intro h hm
    obtain ⟨p, hp, rfl⟩ := List.mem_map.mp hm
    exact h p hp (by simp)
  · intro h p hp hd
    exact h (List.mem_map.mpr ⟨p, hp, of_decide_eq_true hd⟩)
theorem getD_put (L : List (κ × β)) (a c : κ) (b : β) : getD' (putD L a b) c = if c = a then some b else getD' L c := by
  unfold putD
  split
  · rename_i hs
    have key : ∀ L : List (κ × β), getD' (L.map fun p => if p.1 = a then (p.1, b) else p) c = if c = a then (getD' L a).map (fun _ => b) else getD' L c := by
      intro L
      induction L with
      | nil => unfold getD'; split <;> rfl
      | cons p L ih =>
        unfold getD' at ih ⊢
        rw [List.map_cons]
        by_cases h : p.1 = a
        · rw [if_pos h]
          by_cases hc : c = a
          · rw [List.find?_cons_of_pos (by simp [h, hc]), if_pos hc, List.find?_cons_of_pos (by simpa using h)]; rfl
          · rw [List.find?_cons_of_neg (by simp [h]; exact fun z => hc z.symm), if_neg hc, List.find?_cons_of_neg (by simp [h]; exact fun z => hc z.symm)]
            rw [if_neg hc] at ih; exact ih
        · rw [if_neg h]
          by_cases hc : c = a
          · rw [List.find?_cons_of_neg (by rw [hc]; simpa using h), if_pos hc, List.find?_cons_of_neg (by simpa using h)]
            rw [if_pos hc] at ih; exact ih
          · rw [if_neg hc] at ih ⊢
            by_cases hp : p.1 = c
            · rw [List.find?_cons_of_pos (by simpa using hp), List.find?_cons_of_pos (by simpa using hp)]
            · rw [List.find?_cons_of_neg (by simpa using hp), List.find?_cons_of_neg (by simpa using hp)]; exact ih
    rw [key]
    split
    · obtain ⟨x, hx⟩ := Option.isSome_iff_exists.mp hs
      rw [hx]; rfl
    · rfl
  · rename_i hs
    unfold getD' at hs ⊢
    rw [List.find?_append]
    by_cases hc : c = a
    · subst hc
      rw [if_pos rfl]
      cases h : L.find? (fun p => decide (p.1 = c)) with
      | none => simp
      | some q => rw [h] at hs; simp at hs
    · rw [if_neg hc]
      cases h : L.find? (fun p => decide (p.1 = c)) with
      | none => simp [Ne.symm hc]
      | some q => rfl
theorem putD_length (L : List (κ × β)) (a : κ) (b : β) : (putD L a b).length ≤ L.length + 1 := by
  unfold putD
  split <;> simp
theorem putD_keys (L : List (κ × β)) (a c : κ) (b : β) : c ∈ (putD L a b).map (·.1) ↔ c = a ∨ c ∈ L.map (·.1) := by
  have h1 := getD_put L a c b
  have n1 := getD_none (L := putD L a b) (a := c)
  have n2 := getD_none (L := L) (a := c)
  by_cases hc : c = a
  · rw [if_pos hc] at h1
    refine ⟨fun _ => .inl hc, fun _ => ?_⟩
    exact Classical.byContradiction fun z => by rw [n1.mpr z] at h1; cases h1
  · rw [if_neg hc] at h1
    rw [h1] at n1
    refine ⟨fun h => .inr ?_, fun h => ?_⟩
    · exact Classical.byContradiction fun z => (n1.mp (n2.mpr z)) h
    · exact Classical.byContradiction fun z => (n2.mp (n1.mpr z)) (h.resolve_left hc)
/-- the operations on such dicts -/
theorem nestAt_of {M : Mem} {n : Nat} {ws : List (W × W)} (h : M[n]? = some (.dT .nest ws) ∨ M[n]? = some (.dT .lockN ws)) : nestAt M n = some ws := by
  unfold nestAt
  rcases h with h | h <;> rw [h]
variable {M : Mem} {n : Nat} {f : β → W} {L : List (κ × β)}
theorem gGetN_enc (h : nestAt M n = some (rowsD f L)) {a : κ} {b : β} (hb : getD' L a = some b) : gGetN M (.ref n) (enc a) = some (f b, M) := by
  unfold gGetN
  simp only [KeyE.keyT_enc, h, Option.bind_some, valN_rows, hb, Option.map_some]
theorem gInN_enc (h : nestAt M n = some (rowsD f L)) (a : κ) : gInN M (enc a) (.ref n) = some (.bl (getD' L a).isSome, M) := by
  unfold gInN
  simp only [KeyE.keyT_enc, h, Option.map_some, valN_rows, Option.isSome_map]
theorem gNotInN_enc (h : nestAt M n = some (rowsD f L)) (a : κ) : gNotInN M (enc a) (.ref n) = some (.bl (!(getD' L a).isSome), M) := by
  unfold gNotInN
  simp only [KeyE.keyT_enc, h, Option.map_some, valN_rows, Option.isSome_map]
theorem putNM_enc (h : M[n]? = some (.dT .nest (rowsD f L))) (hl : L.length < 16777216) (a : κ) (b : β) : putNM M (.ref n) (enc a) (f b) = some (M.set n (.dT .nest (rowsD f (putD L a b)))) := by
  unfold putNM
  simp only [KeyE.keyT_enc, h]
  rw [if_pos (by unfold rowsD; simpa using hl), putN_rows]
end
/-- lists of such dicts -/
def pureR (L : List (W × W)) : Prop := ∀ p ∈ L, okW 64 p.1 = true ∧ okW 64 p.2 = true
theorem pure_rows {κ β : Type} [Enc κ] {f : β → W} (L : List (κ × β)) (hk : dep κ ≤ 64) (hf : ∀ b, okW 64 (f b) = true) : pureR (L.map fun p => (enc p.1, f p.2)) := by
  intro p hp
  obtain ⟨q, _, rfl⟩ := List.mem_map.mp hp
  exact ⟨okW_mono _ _ (ok q.1) 64 hk, hf q.2⟩
mutual
theorem ren_ok {r : Nat → Nat} : ∀ (k : Nat) (w : W), okW k w = true → w.ren r = w
  | 0, _, h => by cases h
  | k + 1, .tup ws, h => by rw [okW] at h; rw [W.ren, rens_ok k ws h]
  | _ + 1, .ref _, h => by rw [okW] at h; cases h
  | _ + 1, .non, _ => rfl
  | _ + 1, .bl _, _ => rfl
  | _ + 1, .int _, _ => rfl
  | _ + 1, .str _, _ => rfl
theorem rens_ok {r : Nat → Nat} : ∀ (k : Nat) (ws : List W), ws.all (okW k) = true → W.rens r ws = ws
  | _, [], _ => rfl
  | k, w :: ws, h => by
    rw [List.all_cons, Bool.and_eq_true] at h
    rw [W.rens, ren_ok k w h.1, rens_ok k ws h.2]
end
theorem ren_pure {r : Nat → Nat} {L : List (W × W)} (h : pureR L) : (MO.dT .nest L).ren r = .dT .nest L := by
  rw [MO.ren]
  congr 1
  refine (List.map_congr_left fun p hp => ?_).trans (List.map_id _)
  obtain ⟨h1, h2⟩ := h p hp
  rw [ren_ok 64 _ h1, ren_ok 64 _ h2]; rfl
theorem closed_pure {L : List (W × W)} (h : pureR L) (k : Nat) : (MO.dT .nest L).closed k = true := by
  rw [MO.closed, List.all_eq_true]
  intro p hp
  obtain ⟨h1, h2⟩ := h p hp
  rw [okW_closed 64 _ h1 k, okW_closed 64 _ h2 k]; rfl
end BF

set_option Elab.async false
set_option linter.all false
set_option autoImplicit false
set_option maxRecDepth 10000
namespace BF
open PySem Enc
/-! promises of defs that hand back a new list of new dicts -/
theorem rens_map' {r : Nat → Nat} : ∀ ws : List W, W.rens r ws = ws.map (W.ren r)
  | [] => rfl
  | w :: ws => by rw [W.rens, rens_map' ws]; rfl
theorem closeds_of' {k : Nat} : ∀ {ws : List W}, (∀ w ∈ ws, w.closed k = true) → W.closeds k ws = true
  | [], _ => rfl
  | u :: ws, h => by
    rw [W.closeds, Bool.and_eq_true]
    exact ⟨h u List.mem_cons_self, closeds_of' fun w hw => h w (List.mem_cons_of_mem _ hw)⟩
theorem keeps_dicts {n : Nat} {body : CS} {F : Fn} (h : ∀ ws M w M', F ws M = some (w, M') → ∃ Ls : List (List (W × W)), (∀ L ∈ Ls, pureR L) ∧ w = .ref (M.length + Ls.length) ∧ M' = M ++ (Ls.map (MO.dT .nest) ++ [.lst ((List.range Ls.length).map fun i => W.ref (M.length + i))]) ∧
    ∃ (k : Nat) (g : Mem) (ids : List Nat), body (ws.map some ++ List.replicate (n - ws.length) none) M = some (.rt (.ref k) (M ++ g)) ∧ M.length ≤ k ∧ (M ++ g)[k]? = some (.lst (ids.map W.ref)) ∧ ids.length = Ls.length ∧ ids.Nodup ∧
      ∀ (i m : Nat) (L : List (W × W)), ids[i]? = some m → Ls[i]? = some L → M.length ≤ m ∧ m ≠ k ∧ (M ++ g)[m]? = some (.dT .nest L)) : Keeps n body F := by
  intro ws M w M' hc _ e
  obtain ⟨Ls, pu, rfl, rfl, k, g, ids, h1, h2, h3, h4, h5, h6⟩ := h ws M w M' e
  let r : Nat → Nat := fun i => if i < M.length then i else if i < M.length + Ls.length then ids.getD (i - M.length) 0 else k
  have hid : ∀ i < M.length, r i = i := fun i hi => if_pos hi
  have hmid : ∀ j < Ls.length, ids[j]? = some (r (M.length + j)) := fun j hj => by
    have : r (M.length + j) = ids.getD j 0 := by
      show (if M.length + j < M.length then M.length + j else if M.length + j < M.length + Ls.length then ids.getD (M.length + j - M.length) 0 else k) = _
      rw [if_neg (by omega), if_pos (by omega), Nat.add_sub_cancel_left]
    rw [this, List.getD_eq_getElem?_getD, List.getElem?_eq_getElem (by omega)]
    rfl
  have hend : r (M.length + Ls.length) = k := by
    show (if M.length + Ls.length < M.length then M.length + Ls.length else if M.length + Ls.length < M.length + Ls.length then _ else k) = k
    rw [if_neg (by omega), if_neg (by omega)]
  have hlen : (M ++ (Ls.map (MO.dT .nest) ++ [MO.lst ((List.range Ls.length).map fun i => W.ref (M.length + i))])).length = M.length + Ls.length + 1 := by simp; omega
  refine ⟨r, M ++ g, .inl ?_, hid, fun i mo hi => ?_, fun i j hi hj e => ?_, by rw [hlen]; omega, closed_app hc fun mo hm => ?_, ?_⟩
  · rw [W.ren, hend]; exact h1
  · by_cases hl : i < M.length
    · rw [List.getElem?_append_left hl] at hi
      rw [MO.ren_eq hid (hc mo (List.mem_of_getElem? hi)), hid i hl, List.getElem?_append_left hl]; exact hi
    · obtain ⟨j, rfl⟩ : ∃ j, i = M.length + j := ⟨i - M.length, by omega⟩
      rw [List.getElem?_append_right (by omega), Nat.add_sub_cancel_left] at hi
      by_cases hj : j < Ls.length
      · rw [List.getElem?_append_left (by simpa using hj), List.getElem?_map] at hi
        obtain ⟨L, hL, rfl⟩ := Option.map_eq_some_iff.mp hi
        rw [ren_pure (pu L (List.mem_of_getElem? hL))]
        exact (h6 j _ L (hmid j hj) hL).2.2
      · have hj2 : j = Ls.length := by
          have := (List.getElem?_eq_some_iff.mp hi).1
          simp at this; omega
        subst hj2
        rw [List.getElem?_append_right (by simp)] at hi
        simp at hi
        subst hi
        rw [hend, h3, MO.ren, rens_map', List.map_map]
        congr 2
        refine List.ext_getElem? fun q => ?_
        rw [List.getElem?_map, List.getElem?_map]
        by_cases hq : q < Ls.length
        · rw [hmid q hq, List.getElem?_range hq]; rfl
        · rw [List.getElem?_eq_none (by omega), List.getElem?_eq_none (by simp; omega)]; rfl
  · rw [hlen] at hi hj
    have up : ∀ i, M.length ≤ i → i < M.length + Ls.length → M.length ≤ r i ∧ r i ≠ k := fun i h1 h2 => by
      obtain ⟨q, rfl⟩ : ∃ q, i = M.length + q := ⟨i - M.length, by omega⟩
      have hq : q < Ls.length := by omega
      have := h6 q _ Ls[q] (hmid q hq) (List.getElem?_eq_getElem hq)
      exact ⟨this.1, this.2.1⟩
    by_cases a1 : i < M.length
    · rw [hid i a1] at e
      by_cases b1 : j < M.length
      · rw [hid j b1] at e; exact e
      · by_cases b2 : j < M.length + Ls.length
        · have := up j (by omega) b2; omega
        · have : j = M.length + Ls.length := by omega
          subst this; rw [hend] at e; omega
    · by_cases a2 : i < M.length + Ls.length
      · have ui := up i (by omega) a2
        by_cases b1 : j < M.length
        · rw [hid j b1] at e; omega
        · by_cases b2 : j < M.length + Ls.length
          · obtain ⟨p, rfl⟩ : ∃ p, i = M.length + p := ⟨i - M.length, by omega⟩
            obtain ⟨q, rfl⟩ : ∃ q, j = M.length + q := ⟨j - M.length, by omega⟩
            have e1 := hmid p (by omega)
            have e2 := hmid q (by omega)
            rw [e] at e1
            have := (List.getElem?_inj (by omega) h5).mp (e1.trans e2.symm)
            omega
          · have : j = M.length + Ls.length := by omega
            subst this; rw [hend] at e; omega
      · have : i = M.length + Ls.length := by omega
        subst this
        rw [hend] at e
        by_cases b1 : j < M.length
        · rw [hid j b1] at e; omega
        · by_cases b2 : j < M.length + Ls.length
          · have := up j (by omega) b2; omega
          · omega
  · rw [hlen]
    rcases List.mem_append.mp hm with hm | hm
    · obtain ⟨L, hL, rfl⟩ := List.mem_map.mp hm
      exact closed_pure (pu L hL) _
    · rw [List.mem_singleton] at hm
      subst hm
      show W.closeds _ _ = true
      refine closeds_of' fun w hw => ?_
      obtain ⟨i, hi, rfl⟩ := List.mem_map.mp hw
      have := List.mem_range.mp hi
      rw [W.closed]; exact decide_eq_true (by omega)
  · rw [W.closed, hlen]; exact decide_eq_true (by omega)
end BF

set_option Elab.async false
set_option linter.all false
set_option autoImplicit false
set_option maxRecDepth 10000
namespace BF
open PySem Enc
/-! locked walks, plainly -/
theorem sLk_F {c : CE} {b : CS} {σ σ' : Sl} {M M0 M' : Mem} {n : Nat} {ws ws' : List (W × W)} (h1 : c σ M = some (.ref n, M0)) (h2 : M[n]? = some (.dK ws)) (h3 : b σ (M.set n (.dT .lockF ws)) = some (.nx σ' M')) (h4 : M'[n]? = some (.dT .lockF ws')) : sLk c b σ M = some (.nx σ' (M'.set n (.dK ws'))) := by
  unfold sLk lkM
  simp only [h1, h2, Option.bind_some, lkO, Option.map_some, h3, unM, h4, unO]
theorem sLk_N {c : CE} {b : CS} {σ σ' : Sl} {M M0 M' : Mem} {n : Nat} {ws ws' : List (W × W)} (h1 : c σ M = some (.ref n, M0)) (h2 : M[n]? = some (.dT .nest ws)) (h3 : b σ (M.set n (.dT .lockN ws)) = some (.nx σ' M')) (h4 : M'[n]? = some (.dT .lockN ws')) : sLk c b σ M = some (.nx σ' (M'.set n (.dT .nest ws'))) := by
  unfold sLk lkM
  simp only [h1, h2, Option.bind_some, lkO, Option.map_some, h3, unM, h4, unO]
theorem iKeyF_eq {c : CE} {σ : Sl} {M M' : Mem} {n : Nat} {ws : List (W × W)} (h1 : c σ M = some (.ref n, M')) (h2 : M'[n]? = some (.dT .lockF ws)) : iKeyF c σ M = some (ws.map (·.1), gdT, M') := by
  unfold iKeyF
  rw [h1]
  simp only [Option.bind_some, h2]
theorem iKeyN_eq {c : CE} {σ : Sl} {M M' : Mem} {n : Nat} {ws : List (W × W)} (h1 : c σ M = some (.ref n, M')) (h2 : M'[n]? = some (.dT .lockN ws)) : iKeyN c σ M = some (ws.map (·.1), gdT, M') := by
  unfold iKeyN
  rw [h1]
  simp only [Option.bind_some, h2]
end BF

set_option Elab.async false
set_option linter.all false
set_option autoImplicit false
set_option maxRecDepth 10000
namespace BF
open PySem Enc
/-! breadth first, plainly -/
def stepA (S : List (Hist × Unit)) (old : Hist) (c : Nat) (L : List (Hist × Nat)) (a : Act) : List (Hist × Nat) :=
  if (getD' S (stepH old a)).isSome = true then L else putD L (stepH old a) ((getD' L (stepH old a)).getD 0 + c)
def stepO (S : List (Hist × Unit)) (acts : List Act) (prev : List (Hist × Nat)) (L : List (Hist × Nat)) (old : Hist) : List (Hist × Nat) := acts.foldl (stepA S old ((getD' prev old).getD 0)) L
def expandL (S : List (Hist × Unit)) (acts : List Act) (prev : List (Hist × Nat)) : List (Hist × Nat) := (prev.map (·.1)).foldl (stepO S acts prev) []
def seenL (S : List (Hist × Unit)) (L : List (Hist × Nat)) : List (Hist × Unit) := (L.map (·.1)).foldl (fun S t => putD S t ()) S
def layersP (h : Hist) (acts : List Act) : Nat → List (Hist × Unit) × List (List (Hist × Nat))
  | 0 => ([(h, ())], [[(h, 1)]])
  | d + 1 => (seenL (layersP h acts d).1 (expandL (layersP h acts d).1 acts ((layersP h acts d).2.getLast?.getD [])), (layersP h acts d).2 ++ [expandL (layersP h acts d).1 acts ((layersP h acts d).2.getLast?.getD [])])
def lay (h : Hist) (acts : List Act) (d : Nat) : List (Hist × Nat) := (layersP h acts d).2.getLast?.getD []
theorem layers_eq (h : Hist) (acts : List Act) : ∀ d, (layersP h acts d).2 = (List.range (d + 1)).map (lay h acts)
  | 0 => rfl
  | d + 1 => by
    have e : lay h acts (d + 1) = expandL (layersP h acts d).1 acts ((layersP h acts d).2.getLast?.getD []) := by unfold lay; rw [layersP]; simp
    rw [List.range_succ, List.map_append, ← layers_eq h acts d, layersP, List.map_cons, List.map_nil, e]
theorem lay_succ (h : Hist) (acts : List Act) (d : Nat) : lay h acts (d + 1) = expandL (layersP h acts d).1 acts (lay h acts d) := by unfold lay; rw [layersP]; simp
theorem stepA_keys (S : List (Hist × Unit)) (old : Hist) (c : Nat) (L : List (Hist × Nat)) (a : Act) (t : Hist) : t ∈ (stepA S old c L a).map (·.1) ↔ t ∈ L.map (·.1) ∨ (t ∉ S.map (·.1) ∧ stepH old a = t) := by
  unfold stepA
  have e := getD_none (L := S) (a := stepH old a)
  split
  · rename_i hs
    refine ⟨.inl, fun h => h.elim id fun ⟨h1, h2⟩ => ?_⟩
    subst h2
    rw [e.mpr h1] at hs; cases hs
  · rename_i hs
    rw [putD_keys]
    have h0 : getD' S (stepH old a) = none := by
      cases h : getD' S (stepH old a) with
      | none => rfl
      | some _ => rw [h] at hs; exact absurd rfl hs
    constructor
    · rintro (rfl | h)
      · exact .inr ⟨e.mp h0, rfl⟩
      · exact .inl h
    · rintro (h | ⟨_, h⟩)
      · exact .inr h
      · exact .inl h.symm
theorem foldA_keys (S : List (Hist × Unit)) (old : Hist) (c : Nat) (t : Hist) : ∀ (acts : List Act) (L : List (Hist × Nat)), t ∈ (acts.foldl (stepA S old c) L).map (·.1) ↔ t ∈ L.map (·.1) ∨ (t ∉ S.map (·.1) ∧ ∃ a ∈ acts, stepH old a = t)
  | [], L => by simp
  | a :: acts, L => by
    rw [List.foldl_cons, foldA_keys S old c t acts, stepA_keys]
    constructor
    · rintro ((h | ⟨h1, h2⟩) | ⟨h1, b, hb, h2⟩)
      · exact .inl h
      · exact .inr ⟨h1, a, List.mem_cons_self, h2⟩
      · exact .inr ⟨h1, b, List.mem_cons_of_mem _ hb, h2⟩
    · rintro (h | ⟨h1, b, hb, h2⟩)
      · exact .inl (.inl h)
      · rcases List.mem_cons.mp hb with rfl | hb
        · exact .inl (.inr ⟨h1, h2⟩)
        · exact .inr ⟨h1, b, hb, h2⟩
theorem foldO_keys (S : List (Hist × Unit)) (acts : List Act) (prev : List (Hist × Nat)) (t : Hist) : ∀ (olds : List Hist) (L : List (Hist × Nat)), t ∈ (olds.foldl (stepO S acts prev) L).map (·.1) ↔ t ∈ L.map (·.1) ∨ (t ∉ S.map (·.1) ∧ ∃ old ∈ olds, ∃ a ∈ acts, stepH old a = t)
  | [], L => by simp
  | o :: olds, L => by
    rw [List.foldl_cons, foldO_keys S acts prev t olds, show stepO S acts prev L o = acts.foldl (stepA S o ((getD' prev o).getD 0)) L from rfl, foldA_keys]
    constructor
    · rintro ((h | ⟨h1, h2⟩) | ⟨h1, b, hb, h2⟩)
      · exact .inl h
      · exact .inr ⟨h1, o, List.mem_cons_self, h2⟩
      · exact .inr ⟨h1, b, List.mem_cons_of_mem _ hb, h2⟩
    · rintro (h | ⟨h1, b, hb, h2⟩)
      · exact .inl (.inl h)
      · rcases List.mem_cons.mp hb with rfl | hb
        · exact .inl (.inr ⟨h1, h2⟩)
        · exact .inr ⟨h1, b, hb, h2⟩
theorem expand_keys (S : List (Hist × Unit)) (acts : List Act) (prev : List (Hist × Nat)) (t : Hist) : t ∈ (expandL S acts prev).map (·.1) ↔ t ∉ S.map (·.1) ∧ ∃ old ∈ prev.map (·.1), ∃ a ∈ acts, stepH old a = t := by
  unfold expandL
  rw [foldO_keys]
  simp
theorem seen_keys (t : Hist) : ∀ (ks : List Hist) (S : List (Hist × Unit)), t ∈ (ks.foldl (fun S t => putD S t ()) S).map (·.1) ↔ t ∈ S.map (·.1) ∨ t ∈ ks
  | [], S => by simp
  | k :: ks, S => by
    rw [List.foldl_cons, seen_keys t ks, putD_keys, List.mem_cons]
    constructor
    · rintro ((h | h) | h)
      · exact .inr (.inl h)
      · exact .inl h
      · exact .inr (.inr h)
    · rintro (h | h | h)
      · exact .inl (.inr h)
      · exact .inl (.inl h)
      · exact .inr h
/-- so many actions lead there -/
def Rch (h : Hist) (acts : List Act) (d : Nat) (t : Hist) : Prop := ∃ l : List Act, l.length = d ∧ (∀ a ∈ l, a ∈ acts) ∧ runH h l = t
theorem rch_succ {h : Hist} {acts : List Act} {d : Nat} {t : Hist} : Rch h acts (d + 1) t ↔ ∃ o, Rch h acts d o ∧ ∃ a ∈ acts, stepH o a = t := by
  constructor
  · rintro ⟨l, h1, h2, h3⟩
    have hne : l ≠ [] := fun z => by rw [z] at h1; cases h1
    refine ⟨runH h l.dropLast, ⟨l.dropLast, by rw [List.length_dropLast]; omega, fun a ha => h2 a ((List.dropLast_sublist l).subset ha), rfl⟩, l.getLast hne, h2 _ (List.getLast_mem hne), ?_⟩
    rw [← h3]
    conv => rhs; rw [← List.dropLast_concat_getLast hne]
    unfold runH
    rw [List.foldl_append]; rfl
  · rintro ⟨o, ⟨l, h1, h2, h3⟩, a, ha, h4⟩
    refine ⟨l ++ [a], by simp [h1], fun b hb => ?_, ?_⟩
    · rcases List.mem_append.mp hb with hb | hb
      · exact h2 b hb
      · rw [List.mem_singleton] at hb; subst hb; exact ha
    · unfold runH
      rw [List.foldl_append]
      unfold runH at h3
      rw [h3]; exact h4
theorem layers_spec (h : Hist) (acts : List Act) : ∀ d, (∀ t, t ∈ (layersP h acts d).1.map (·.1) ↔ ∃ n, n ≤ d ∧ Rch h acts n t) ∧ ∀ t, t ∈ (lay h acts d).map (·.1) ↔ Rch h acts d t ∧ ∀ n, n < d → ¬ Rch h acts n t
  | 0 => by
    refine ⟨fun t => ?_, fun t => ?_⟩
    · show t ∈ [h] ↔ _
      rw [List.mem_singleton]
      constructor
      · rintro rfl; exact ⟨0, Nat.le_refl _, [], rfl, fun _ h => (by cases h), rfl⟩
      · rintro ⟨n, hn, l, h1, _, h3⟩
        have : l = [] := List.length_eq_zero_iff.mp (by omega)
        rw [this] at h3; exact h3.symm
    · show t ∈ [h] ↔ _
      rw [List.mem_singleton]
      constructor
      · rintro rfl; exact ⟨⟨[], rfl, fun _ h => (by cases h), rfl⟩, fun n hn => absurd hn (Nat.not_lt_zero _)⟩
      · rintro ⟨⟨l, h1, _, h3⟩, _⟩
        have : l = [] := List.length_eq_zero_iff.mp h1
        rw [this] at h3; exact h3.symm
  | d + 1 => by
    obtain ⟨i1, i2⟩ := layers_spec h acts d
    have k2 : ∀ t, t ∈ (lay h acts (d + 1)).map (·.1) ↔ Rch h acts (d + 1) t ∧ ∀ n, n < d + 1 → ¬ Rch h acts n t := fun t => by
      rw [lay_succ, expand_keys, i1, rch_succ]
      constructor
      · rintro ⟨h1, o, ho, a, ha, e⟩
        exact ⟨⟨o, ((i2 o).mp ho).1, a, ha, e⟩, fun n hn hr => h1 ⟨n, by omega, hr⟩⟩
      · rintro ⟨⟨o, ho, a, ha, e⟩, h2⟩
        refine ⟨fun ⟨n, hn, hr⟩ => h2 n (by omega) hr, o, (i2 o).mpr ⟨ho, fun n hn hr => h2 (n + 1) (by omega) (rch_succ.mpr ⟨o, hr, a, ha, e⟩)⟩, a, ha, e⟩
    refine ⟨fun t => ?_, k2⟩
    rw [layersP]
    show t ∈ (seenL (layersP h acts d).1 (expandL (layersP h acts d).1 acts (lay h acts d))).map (·.1) ↔ _
    unfold seenL
    rw [seen_keys, i1, ← lay_succ, k2]
    constructor
    · rintro (⟨n, h1, h2⟩ | ⟨h1, _⟩)
      · exact ⟨n, by omega, h2⟩
      · exact ⟨d + 1, Nat.le_refl _, h1⟩
    · rintro ⟨n, h1, h2⟩
      by_cases hd : ∃ n, n ≤ d ∧ Rch h acts n t
      · exact .inl hd
      · have : n = d + 1 := by
          by_cases q : n ≤ d
          · exact absurd ⟨n, q, h2⟩ hd
          · omega
        subst this
        exact .inr ⟨h2, fun n hn hr => hd ⟨n, by omega, hr⟩⟩
theorem stepA_length (S : List (Hist × Unit)) (old : Hist) (c : Nat) (L : List (Hist × Nat)) (a : Act) : (stepA S old c L a).length ≤ L.length + 1 := by
  unfold stepA
  split
  · omega
  · exact putD_length _ _ _
theorem foldA_length (S : List (Hist × Unit)) (old : Hist) (c : Nat) : ∀ (acts : List Act) (L : List (Hist × Nat)), (acts.foldl (stepA S old c) L).length ≤ L.length + acts.length
  | [], L => Nat.le_refl _
  | a :: acts, L => by
    have h1 := stepA_length S old c L a
    have h2 := foldA_length S old c acts (stepA S old c L a)
    rw [List.foldl_cons, List.length_cons]
    omega
theorem foldO_length (S : List (Hist × Unit)) (acts : List Act) (prev : List (Hist × Nat)) : ∀ (olds : List Hist) (L : List (Hist × Nat)), (olds.foldl (stepO S acts prev) L).length ≤ L.length + olds.length * acts.length
  | [], L => by simp
  | o :: olds, L => by
    have h1 := foldA_length S o ((getD' prev o).getD 0) acts L
    have h2 := foldO_length S acts prev olds (stepO S acts prev L o)
    rw [List.foldl_cons, List.length_cons, Nat.succ_mul]
    unfold stepO at h2 ⊢
    omega
theorem seen_length : ∀ (ks : List Hist) (S : List (Hist × Unit)), (ks.foldl (fun S t => putD S t ()) S).length ≤ S.length + ks.length
  | [], S => Nat.le_refl _
  | k :: ks, S => by
    have h1 := putD_length S k ()
    have h2 := seen_length ks (putD S k ())
    rw [List.foldl_cons, List.length_cons]
    omega
theorem layers_length (h : Hist) (acts : List Act) (ha : acts.length ≤ 5) : ∀ d, (lay h acts d).length ≤ 5 ^ d ∧ (layersP h acts d).1.length ≤ 5 ^ (d + 1)
  | 0 => ⟨Nat.le_refl _, by show 1 ≤ 5; omega⟩
  | d + 1 => by
    obtain ⟨h1, h2⟩ := layers_length h acts ha d
    have h3 : (lay h acts (d + 1)).length ≤ 5 ^ (d + 1) := by
      rw [lay_succ]
      have := foldO_length (layersP h acts d).1 acts (lay h acts d) ((lay h acts d).map (·.1)) []
      unfold expandL
      refine Nat.le_trans this ?_
      rw [List.length_nil, Nat.zero_add, List.length_map, Nat.pow_succ]
      exact Nat.mul_le_mul h1 ha
    refine ⟨h3, ?_⟩
    rw [layersP]
    have := seen_length ((lay h acts (d + 1)).map (·.1)) (layersP h acts d).1
    rw [List.length_map, lay_succ] at this
    rw [lay_succ] at h3
    refine Nat.le_trans this ?_
    rw [Nat.pow_succ 5 (d + 1)]
    omega
end BF

set_option Elab.async false
set_option linter.all false
set_option autoImplicit false
set_option maxRecDepth 10000
namespace BF
open PySem Enc
/-! _law_layers: breadth first -/
abbrev fS : Unit → W := fun _ => .bl true
abbrev fN : Nat → W := fun n => .int (n : Int)
theorem set_same {M : Mem} {n : Nat} {x : MO} (h : M[n]? = some x) : M.set n x = M := by
  refine List.ext_getElem? fun i => ?_
  rw [List.getElem?_set]
  split
  · rename_i e
    subst e
    rw [if_pos (List.getElem?_eq_some_iff.mp h).1, h]
  · rfl
theorem set_get {M : Mem} {n m : Nat} {x y : MO} (h : M[m]? = some x) (hne : n ≠ m) : (M.set n y)[m]? = some x := by rw [List.getElem?_set_ne hne]; exact h
theorem ixW_neg1 {n : Nat} (h : 0 < n) : ixW n (-1) = some (n - 1) := by
  unfold ixW
  rw [if_neg (by omega), if_pos (by omega)]
  congr 1
  omega
theorem last_ix {M : Mem} {fd pv : Nat} {fs : List W} (hF : M[fd]? = some (.lst fs)) (hl : fs[fs.length - 1]? = some (.ref pv)) : gIx M (.ref fd) (.int (-1)) = some (.ref pv, M) := by
  have h0 : 0 < fs.length := by have := (List.getElem?_eq_some_iff.mp hl).1; omega
  rw [gIx_ref, hF]
  simp only [ixW_neg1 h0, Option.bind_some, hl, Option.map_some]
theorem eGetN2_enc {κ β : Type} [Enc κ] [KeyE κ] [DecidableEq κ] {o k d : CE} {σ : Sl} {M : Mem} {n : Nat} {f : β → W} {L : List (κ × β)} {a : κ} {w : W} (ho : o σ M = some (.ref n, M)) (hk : k σ M = some (enc a, M)) (hd : d σ M = some (w, M)) (h : nestAt M n = some (rowsD f L)) :
    eGetN2 o k d σ M = some (((getD' L a).map f).getD w, M) := by
  unfold eGetN2
  simp only [ho, Option.bind_some, h, Option.isSome_some, if_true, hk, hd, KeyE.keyT_enc, Option.map_some, valN_rows]
abbrev b1__law_layers : CS :=
  (sSeq (sSet (gV 6) eDictN)
  (sSeq (sLk (e2 gIx (eV 4) (e1 gNeg (eL (.int 1)))) (sFor (iKeyN (e2 gIx (eV 4) (e1 gNeg (eL (.int 1))))) (gV 7) (sFor (iLst (eN F__law_alphabet [(eV 1)])) (gV 8) (sSeq (sSet (gV 9) (eN F__law_step [(eV 7), (eV 8)]))
  (sIf (tB (e2 gNotInN (eV 9) (eV 3))) (sPut putNM (eV 6) (eV 9) (e2 gAdd (eGetN2 (eV 6) (eV 9) (eL (.int 0))) (e2 gGetN (e2 gIx (eV 4) (e1 gNeg (eL (.int 1)))) (eV 7)))) sNil)))))
  (sSeq (sLk (eV 6) (sFor (iKeyN (eV 6)) (gV 9) (sPut putNM (eV 3) (eV 9) (eL (.bl true)))))
  (sExpr (eML mAppend (eV 4) [(eV 6)])))))
abbrev b2__law_layers : CS :=
  (sFor (iLst (eN F__law_alphabet [(eV 1)])) (gV 8) (sSeq (sSet (gV 9) (eN F__law_step [(eV 7), (eV 8)]))
  (sIf (tB (e2 gNotInN (eV 9) (eV 3))) (sPut putNM (eV 6) (eV 9) (e2 gAdd (eGetN2 (eV 6) (eV 9) (eL (.int 0))) (e2 gGetN (e2 gIx (eV 4) (e1 gNeg (eL (.int 1)))) (eV 7)))) sNil)))
abbrev b3__law_layers : CS :=
  (sSeq (sSet (gV 9) (eN F__law_step [(eV 7), (eV 8)]))
  (sIf (tB (e2 gNotInN (eV 9) (eV 3))) (sPut putNM (eV 6) (eV 9) (e2 gAdd (eGetN2 (eV 6) (eV 9) (eL (.int 0))) (e2 gGetN (e2 gIx (eV 4) (e1 gNeg (eL (.int 1)))) (eV 7)))) sNil))
abbrev b4__law_layers : CS :=
  (sPut putNM (eV 3) (eV 9) (eL (.bl true)))
abbrev N__law_layers : List Str := ["history", "pool", "depth", "seen", "found", "turn", "layer", "old", "action", "new"]
def c__law_layers : CS :=
  (sSeq (sPar [3, 4] [(eNDisp (eV 0) (eL (.bl true))), (eLst [(eNDisp (eV 0) (eL (.int 1)))])])
  (sSeq (sFor (iRange1 (eV 2)) (gV 5) (sSeq (sSet (gV 6) eDictN)
  (sSeq (sLk (e2 gIx (eV 4) (e1 gNeg (eL (.int 1)))) (sFor (iKeyN (e2 gIx (eV 4) (e1 gNeg (eL (.int 1))))) (gV 7) (sFor (iLst (eN F__law_alphabet [(eV 1)])) (gV 8) (sSeq (sSet (gV 9) (eN F__law_step [(eV 7), (eV 8)]))
  (sIf (tB (e2 gNotInN (eV 9) (eV 3))) (sPut putNM (eV 6) (eV 9) (e2 gAdd (eGetN2 (eV 6) (eV 9) (eL (.int 0))) (e2 gGetN (e2 gIx (eV 4) (e1 gNeg (eL (.int 1)))) (eV 7)))) sNil)))))
  (sSeq (sLk (eV 6) (sFor (iKeyN (eV 6)) (gV 9) (sPut putNM (eV 3) (eV 9) (eL (.bl true)))))
  (sExpr (eML mAppend (eV 4) [(eV 6)]))))))
  (sRet (eV 4))))
theorem act_loop (M : Mem) (n0 fd pv ly al : Nat) (S : List (Hist × Unit)) (prev Lc : List (Hist × Nat)) (old : Hist) (c : Nat) (acts : List Act) (fs : List W) (s0 s1 s2 s5 s8 s9 : Option W)
    (hS : M[n0]? = some (.dT .nest (rowsD fS S))) (hF : M[fd]? = some (.lst fs)) (hl : fs[fs.length - 1]? = some (.ref pv)) (hP : M[pv]? = some (.dT .lockN (rowsD fN prev))) (hc : getD' prev old = some c)
    (hA : M[al]? = some (.lst (acts.map enc))) (hL : M[ly]? = some (.dT .nest (rowsD fN Lc))) (hn : ly ≠ n0) (hv : valid old) (ha : ∀ a ∈ acts, plain a = true) (hlen : Lc.length + acts.length ≤ 1000000) :
    ∃ s8' s9', forL (fun M' => decide (M'[al]? = some (.lst (acts.map enc)))) (gV 8) b3__law_layers (acts.map enc) [s0, s1, s2, some (.ref n0), some (.ref fd), s5, some (.ref ly), some (enc old), s8, s9] M =
      some (.nx [s0, s1, s2, some (.ref n0), some (.ref fd), s5, some (.ref ly), some (enc old), s8', s9'] (M.set ly (.dT .nest (rowsD fN (acts.foldl (stepA S old c) Lc))))) := by
  have n1 : ly ≠ fd := fun z => by subst z; rw [hL] at hF; cases hF
  have n2 : ly ≠ al := fun z => by subst z; rw [hL] at hA; cases hA
  have n3 : ly ≠ pv := fun z => by subst z; rw [hL] at hP; cases hP
  have hly : ly < M.length := (List.getElem?_eq_some_iff.mp hL).1
  have key := forL_ind (gd := fun M' => decide (M'[al]? = some (.lst (acts.map enc)))) (g := gV 8) (body := b3__law_layers) (acts.map enc) (fun i σ M' => M' = M.set ly (.dT .nest (rowsD fN ((acts.take i).foldl (stepA S old c) Lc))) ∧ ∃ s8 s9, σ = [s0, s1, s2, some (.ref n0), some (.ref fd), s5, some (.ref ly), some (enc old), s8, s9])
    (σ := [s0, s1, s2, some (.ref n0), some (.ref fd), s5, some (.ref ly), some (enc old), s8, s9]) (M := M) ⟨(set_same hL).symm, s8, s9, rfl⟩ (by
      rintro i σ M' ⟨rfl, _⟩
      exact decide_eq_true (set_get hA n2)) (by
    rintro i w σ M' hw ⟨rfl, s8, s9, rfl⟩
    rw [List.getElem?_map] at hw
    obtain ⟨a, hai, rfl⟩ := Option.map_eq_some_iff.mp hw
    have hi : i < acts.length := (List.getElem?_eq_some_iff.mp hai).1
    have pa := ha a (List.mem_of_getElem? hai)
    have et : acts.take (i + 1) = acts.take i ++ [a] := by
      rw [List.take_succ_eq_append_getElem hi, (List.getElem?_eq_some_iff.mp hai).2]
    obtain ⟨Li, hLi⟩ : ∃ Li, Li = (acts.take i).foldl (stepA S old c) Lc := ⟨_, rfl⟩
    have hll : Li.length ≤ 1000000 := by
      have := foldA_length S old c (acts.take i) Lc
      rw [← hLi, List.length_take] at this; omega
    rw [et, List.foldl_append, ← hLi]
    show ∃ σ1, _ ∧ ∃ σ2 M2, _
    refine ⟨_, rfl, [s0, s1, s2, some (.ref n0), some (.ref fd), s5, some (.ref ly), some (enc old), some (enc a), some (enc (stepH old a))], M.set ly (.dT .nest (rowsD fN (stepA S old c Li a))), .inl ?_, rfl, _, _, rfl⟩
    have f1 := fun M => lstep_ok (h := old) M hv pa
    have mS : nestAt (M.set ly (.dT .nest (rowsD fN Li))) n0 = some (rowsD fS S) := nestAt_of (.inl (set_get hS hn))
    have mP : nestAt (M.set ly (.dT .nest (rowsD fN Li))) pv = some (rowsD fN prev) := nestAt_of (.inr (set_get hP n3))
    have mL : (M.set ly (.dT .nest (rowsD fN Li)))[ly]? = some (.dT .nest (rowsD fN Li)) := by rw [List.getElem?_set_self hly]
    have t1 := gNotInN_enc mS (stepH old a)
    have t2 := gGetN_enc mP hc
    have t3 := last_ix (set_get (n := ly) (y := .dT .nest (rowsD fN Li)) hF n1) hl
    have t4 := putNM_enc mL (by omega) (stepH old a) ((getD' Li (stepH old a)).getD 0 + c)
    rw [List.set_set] at t4
    have t5 := eGetN2_enc (o := eV 6) (k := eV 9) (d := eL (.int 0)) (σ := [s0, s1, s2, some (.ref n0), some (.ref fd), s5, some (.ref ly), some (enc old), some (enc a), some (enc (stepH old a))]) (M := M.set ly (.dT .nest (rowsD fN Li))) (n := ly) (f := fN) (L := Li) (a := stepH old a) (w := .int 0) rfl rfl rfl (nestAt_of (.inl mL))
    have t6 : ((getD' Li (stepH old a)).map fN).getD (.int 0) = .int (((getD' Li (stepH old a)).getD 0 : Nat) : Int) := by cases getD' Li (stepH old a) <;> rfl
    rw [t6] at t5
    have pc : W.int ((((getD' Li (stepH old a)).getD 0 : Nat) : Int) + (c : Int)) = fN ((getD' Li (stepH old a)).getD 0 + c) := by show W.int _ = W.int _; congr 1
    cases hs : (getD' S (stepH old a)).isSome with
    | true =>
      rw [hs] at t1
      have e1 : stepA S old c Li a = Li := by unfold stepA; rw [if_pos hs]
      rw [e1]
      generalize M.set ly (.dT .nest (rowsD fN Li)) = M1 at *
      generalize stepH old a = new at *
      simp [f1, t1]
    | false =>
      rw [hs] at t1
      have e1 : stepA S old c Li a = putD Li (stepH old a) ((getD' Li (stepH old a)).getD 0 + c) := by unfold stepA; rw [if_neg (by rw [hs]; simp)]
      rw [e1]
      generalize M.set ly (.dT .nest (rowsD fN (putD Li (stepH old a) ((getD' Li (stepH old a)).getD 0 + c)))) = M2 at *
      generalize M.set ly (.dT .nest (rowsD fN Li)) = M1 at *
      generalize stepH old a = new at *
      simp only [b3__law_layers, sSeq_eq, sSet_eq, eN_eq, eArgs_cons, eArgs_nil, eV_eq, List.getD_cons_zero, List.getD_cons_succ, Option.bind_some, f1, gV_eq, List.set_cons_zero, List.set_cons_succ, sIf_eq, tB_eq, e2_eq, t1, Bool.not_false, if_true, sPut_eq, t5, eL_eq, e1_eq, gNeg_int, t3, t2, gAdd_int, pc, t4])
  obtain ⟨σ', M', e, rfl, s8', s9', rfl⟩ := key
  rw [List.length_map, List.take_length] at e
  exact ⟨s8', s9', e⟩
theorem old_loop (M : Mem) (n0 fd pv ly : Nat) (S : List (Hist × Unit)) (prev : List (Hist × Nat)) (pool : List Str) (fs : List W) (s0 s2 s5 s7 s8 s9 : Option W) (hp : pool.length ≤ 3)
    (hS : M[n0]? = some (.dT .nest (rowsD fS S))) (hF : M[fd]? = some (.lst fs)) (hl : fs[fs.length - 1]? = some (.ref pv)) (hP : M[pv]? = some (.dT .lockN (rowsD fN prev)))
    (hL : M[ly]? = some (.dT .nest [])) (hn : ly ≠ n0) (hv : ∀ t ∈ prev.map (·.1), valid t) (hlen : prev.length ≤ 10000) :
    ∃ g' s7' s8' s9', forL gdT (gV 7) b2__law_layers ((prev.map (·.1)).map enc) [s0, some (enc pool), s2, some (.ref n0), some (.ref fd), s5, some (.ref ly), s7, s8, s9] M =
      some (.nx [s0, some (enc pool), s2, some (.ref n0), some (.ref fd), s5, some (.ref ly), s7', s8', s9'] (M.set ly (.dT .nest (rowsD fN (expandL S (alph pool) prev))) ++ g')) := by
  have hly : ly < M.length := (List.getElem?_eq_some_iff.mp hL).1
  have n1 : ly ≠ fd := fun z => by subst z; rw [hL] at hF; cases hF
  have n3 : ly ≠ pv := fun z => by subst z; rw [hL] at hP; cases hP
  have la : (alph pool).length ≤ 5 := by simp [alph]; omega
  have key := forL_ind (gd := gdT) (g := gV 7) (body := b2__law_layers) ((prev.map (·.1)).map enc) (fun i σ M' => ∃ g' s7 s8 s9, M' = M.set ly (.dT .nest (rowsD fN (((prev.map (·.1)).take i).foldl (stepO S (alph pool) prev) []))) ++ g' ∧ σ = [s0, some (enc pool), s2, some (.ref n0), some (.ref fd), s5, some (.ref ly), s7, s8, s9])
    (σ := [s0, some (enc pool), s2, some (.ref n0), some (.ref fd), s5, some (.ref ly), s7, s8, s9]) (M := M) ⟨[], s7, s8, s9, by rw [List.append_nil]; exact (set_same hL).symm, rfl⟩ (fun _ _ _ _ => rfl) (by
    rintro i w σ M' hw ⟨g', s7, s8, s9, rfl, rfl⟩
    rw [List.getElem?_map] at hw
    obtain ⟨old, hoi, rfl⟩ := Option.map_eq_some_iff.mp hw
    have hi : i < (prev.map (·.1)).length := (List.getElem?_eq_some_iff.mp hoi).1
    have hil : i < prev.length := by simpa using hi
    have et : (prev.map (·.1)).take (i + 1) = (prev.map (·.1)).take i ++ [old] := by
      rw [List.take_succ_eq_append_getElem hi, (List.getElem?_eq_some_iff.mp hoi).2]
    obtain ⟨Li, hLi⟩ : ∃ Li, Li = ((prev.map (·.1)).take i).foldl (stepO S (alph pool) prev) [] := ⟨_, rfl⟩
    have hll : Li.length ≤ 60000 := by
      have := foldO_length S (alph pool) prev ((prev.map (·.1)).take i) []
      rw [← hLi, List.length_take, List.length_nil] at this
      have h2 : min i (prev.map (·.1)).length * (alph pool).length ≤ 10000 * 5 := Nat.mul_le_mul (by omega) la
      omega
    have hmem := List.mem_of_getElem? hoi
    obtain ⟨c, hc⟩ : ∃ c, getD' prev old = some c := by
      cases h : getD' prev old with
      | some c => exact ⟨c, rfl⟩
      | none => exact absurd hmem (getD_none.mp h)
    rw [et, List.foldl_append, ← hLi]
    have eO : [old].foldl (stepO S (alph pool) prev) Li = (alph pool).foldl (stepA S old c) Li := by
      show stepO S (alph pool) prev Li old = _
      unfold stepO; rw [hc]; rfl
    rw [eO]
    obtain ⟨M1, hM1⟩ : ∃ M1, M1 = M.set ly (.dT .nest (rowsD fN Li)) ++ g' := ⟨_, rfl⟩
    have l1 : M1.length = M.length + g'.length := by rw [hM1]; simp
    have al := alph_ok (pool := pool) M1 (by omega)
    have gt : ∀ {m : Nat} {x : MO}, M[m]? = some x → ly ≠ m → (M1 ++ [.lst ((alph pool).map enc)])[m]? = some x := fun {m x} h hne => get_app (by rw [hM1]; exact get_app (set_get h hne))
    have lL : (M1 ++ [.lst ((alph pool).map enc)])[ly]? = some (.dT .nest (rowsD fN Li)) := get_app (by rw [hM1]; exact get_app (by rw [List.getElem?_set_self hly]))
    have lA : (M1 ++ [.lst ((alph pool).map enc)])[M1.length]? = some (.lst ((alph pool).map enc)) := by simp
    obtain ⟨s8', s9', e⟩ := act_loop (M1 ++ [.lst ((alph pool).map enc)]) n0 fd pv ly M1.length S prev Li old c (alph pool) fs s0 (some (enc pool)) s2 s5 s8 s9 (gt hS hn) (gt hF n1) hl (gt hP n3) hc lA lL hn (hv old hmem) (alph_plain pool) (by omega)
    refine ⟨_, rfl, [s0, some (enc pool), s2, some (.ref n0), some (.ref fd), s5, some (.ref ly), some (enc old), s8', s9'], M.set ly (.dT .nest (rowsD fN ((alph pool).foldl (stepA S old c) Li))) ++ (g' ++ [.lst ((alph pool).map enc)]), .inl ?_, g' ++ [.lst ((alph pool).map enc)], _, _, _, rfl, rfl⟩
    rw [← hM1]
    have em : (M1 ++ [MO.lst ((alph pool).map enc)]).set ly (.dT .nest (rowsD fN ((alph pool).foldl (stepA S old c) Li))) = M.set ly (.dT .nest (rowsD fN ((alph pool).foldl (stepA S old c) Li))) ++ (g' ++ [MO.lst ((alph pool).map enc)]) := by
      rw [List.set_append_left _ _ (by omega), hM1, List.set_append_left _ _ (by simpa using hly), List.set_set, List.append_assoc]
    rw [em] at e
    rw [← e]
    simp only [b2__law_layers, sFor_eq, iLst_eq, eN_eq, eArgs_cons, eArgs_nil, eV_eq, List.getD_cons_zero, List.getD_cons_succ, Option.bind_some, gV_eq, List.set_cons_zero, List.set_cons_succ, al, lA])
  obtain ⟨σ', M', e, g', s7', s8', s9', rfl, rfl⟩ := key
  rw [List.length_map, List.take_length] at e
  exact ⟨g', s7', s8', s9', e⟩
theorem seen_loop (M : Mem) (n0 ly : Nat) (S : List (Hist × Unit)) (L : List (Hist × Nat)) (s0 s1 s2 s4 s5 s7 s8 s9 : Option W) (hS : M[n0]? = some (.dT .nest (rowsD fS S))) (hlen : S.length + L.length ≤ 1000000) :
    ∃ s9', forL gdT (gV 9) b4__law_layers ((L.map (·.1)).map enc) [s0, s1, s2, some (.ref n0), s4, s5, some (.ref ly), s7, s8, s9] M =
      some (.nx [s0, s1, s2, some (.ref n0), s4, s5, some (.ref ly), s7, s8, s9'] (M.set n0 (.dT .nest (rowsD fS (seenL S L))))) := by
  have h0 : n0 < M.length := (List.getElem?_eq_some_iff.mp hS).1
  have key := forL_ind (gd := gdT) (g := gV 9) (body := b4__law_layers) ((L.map (·.1)).map enc) (fun i σ M' => M' = M.set n0 (.dT .nest (rowsD fS (((L.map (·.1)).take i).foldl (fun S t => putD S t ()) S))) ∧ ∃ s9, σ = [s0, s1, s2, some (.ref n0), s4, s5, some (.ref ly), s7, s8, s9])
    (σ := [s0, s1, s2, some (.ref n0), s4, s5, some (.ref ly), s7, s8, s9]) (M := M) ⟨(set_same hS).symm, s9, rfl⟩ (fun _ _ _ _ => rfl) (by
    rintro i w σ M' hw ⟨rfl, s9, rfl⟩
    rw [List.getElem?_map] at hw
    obtain ⟨t, hti, rfl⟩ := Option.map_eq_some_iff.mp hw
    have hi : i < (L.map (·.1)).length := (List.getElem?_eq_some_iff.mp hti).1
    have et : (L.map (·.1)).take (i + 1) = (L.map (·.1)).take i ++ [t] := by
      rw [List.take_succ_eq_append_getElem hi, (List.getElem?_eq_some_iff.mp hti).2]
    obtain ⟨Si, hSi⟩ : ∃ Si, Si = ((L.map (·.1)).take i).foldl (fun S t => putD S t ()) S := ⟨_, rfl⟩
    have hll : Si.length ≤ 2000000 := by
      have := seen_length ((L.map (·.1)).take i) S
      rw [← hSi, List.length_take, List.length_map] at this
      omega
    rw [et, List.foldl_append, ← hSi]
    refine ⟨_, rfl, [s0, s1, s2, some (.ref n0), s4, s5, some (.ref ly), s7, s8, some (enc t)], M.set n0 (.dT .nest (rowsD fS (putD Si t ()))), .inl ?_, rfl, _, rfl⟩
    have mS : (M.set n0 (.dT .nest (rowsD fS Si)))[n0]? = some (.dT .nest (rowsD fS Si)) := by rw [List.getElem?_set_self h0]
    have t4 := putNM_enc mS (by omega) t ()
    rw [List.set_set] at t4
    simp only [b4__law_layers, sPut_eq, eL_eq, eV_eq, List.getD_cons_zero, List.getD_cons_succ, Option.bind_some, List.set_cons_zero, List.set_cons_succ, gV_eq]
    rw [show (W.bl true) = fS () from rfl, t4]
    rfl)
  obtain ⟨σ', M', e, rfl, s9', rfl⟩ := key
  rw [List.length_map, List.take_length] at e
  exact ⟨s9', e⟩
/-- the memory after so many turns -/
structure LSt (M0 M : Mem) (S : List (Hist × Unit)) (Ls : List (List (Hist × Nat))) (ids : List Nat) : Prop where
  len : M0.length + 3 ≤ M.length
  pre : ∀ (i : Nat) (x : MO), M0[i]? = some x → M[i]? = some x
  seen : M[M0.length]? = some (.dT .nest (rowsD fS S))
  fnd : M[M0.length + 2]? = some (.lst (ids.map W.ref))
  il : ids.length = Ls.length
  nd : ids.Nodup
  each : ∀ (i n : Nat) (L : List (Hist × Nat)), ids[i]? = some n → Ls[i]? = some L → M0.length < n ∧ n ≠ M0.length + 2 ∧ M[n]? = some (.dT .nest (rowsD fN L))
theorem mem_lt {M : Mem} {n : Nat} {x : MO} (h : M[n]? = some x) : n < M.length := (List.getElem?_eq_some_iff.mp h).1
theorem turn_layers (M0 M : Mem) (S : List (Hist × Unit)) (Ls : List (List (Hist × Nat))) (ids : List Nat) (prev : List (Hist × Nat)) (pool : List Str) (s0 s2 s5 s6 s7 s8 s9 : Option W) (st : LSt M0 M S Ls ids) (hp : pool.length ≤ 3) (hl : Ls[Ls.length - 1]? = some prev) (h0 : 0 < Ls.length)
    (hv : ∀ t ∈ prev.map (·.1), valid t) (hlen : prev.length ≤ 10000) (hS : S.length ≤ 100000) (hLs : Ls.length ≤ 1000) :
    ∃ s6' s7' s8' s9' M' ly, b1__law_layers [s0, some (enc pool), s2, some (.ref M0.length), some (.ref (M0.length + 2)), s5, s6, s7, s8, s9] M =
      some (.nx [s0, some (enc pool), s2, some (.ref M0.length), some (.ref (M0.length + 2)), s5, s6', s7', s8', s9'] M') ∧ LSt M0 M' (seenL S (expandL S (alph pool) prev)) (Ls ++ [expandL S (alph pool) prev]) (ids ++ [ly]) := by
  obtain ⟨L, hL⟩ : ∃ L, L = expandL S (alph pool) prev := ⟨_, rfl⟩
  have la : (alph pool).length ≤ 5 := by simp [alph]; omega
  have hLl : L.length ≤ 50000 := by
    have := foldO_length S (alph pool) prev (prev.map (·.1)) []
    rw [hL]; unfold expandL
    rw [List.length_nil, List.length_map] at this
    have h2 : prev.length * (alph pool).length ≤ 10000 * 5 := Nat.mul_le_mul hlen la
    omega
  obtain ⟨pv, hpv⟩ : ∃ pv, ids[Ls.length - 1]? = some pv := ⟨_, List.getElem?_eq_getElem (by rw [st.il]; omega)⟩
  obtain ⟨q1, q2, q3⟩ := st.each _ pv prev hpv hl
  have pvl := mem_lt q3
  obtain ⟨ly, hly⟩ : ∃ ly, ly = M.length := ⟨_, rfl⟩
  have hml := st.len
  -- the memory with the new layer, and locked
  obtain ⟨M1, hM1⟩ : ∃ M1, M1 = M ++ [MO.dT .nest []] := ⟨_, rfl⟩
  obtain ⟨M2, hM2⟩ : ∃ M2, M2 = M1.set pv (.dT .lockN (rowsD fN prev)) := ⟨_, rfl⟩
  have l1 : M1.length = M.length + 1 := by rw [hM1]; simp
  have l2 : M2.length = M.length + 1 := by rw [hM2, List.length_set, l1]
  have g1 : ∀ {i : Nat} {x : MO}, M[i]? = some x → M1[i]? = some x := fun h => by rw [hM1]; exact get_app h
  have g2 : ∀ {i : Nat} {x : MO}, M[i]? = some x → pv ≠ i → M2[i]? = some x := fun h hne => by rw [hM2]; exact set_get (g1 h) hne
  have n1 : ly ≠ M0.length := by omega
  have n2 : ly ≠ M0.length + 2 := by omega
  have n3 : pv ≠ M0.length := by omega
  have n4 : pv ≠ ly := by omega
  have L1 : M1[ly]? = some (.dT .nest []) := by rw [hM1, hly]; simp
  have L2 : M2[ly]? = some (.dT .nest []) := by rw [hM2]; exact set_get L1 n4
  have P2 : M2[pv]? = some (.dT .lockN (rowsD fN prev)) := by rw [hM2, List.getElem?_set_self (by omega)]
  have fl : (ids.map W.ref)[(ids.map W.ref).length - 1]? = some (.ref pv) := by rw [List.length_map, st.il, List.getElem?_map, hpv]; rfl
  obtain ⟨g', s7', s8', s9', eo⟩ := old_loop M2 M0.length (M0.length + 2) pv ly S prev pool (ids.map W.ref) s0 s2 s5 s7 s8 s9 hp (g2 st.seen n3) (g2 st.fnd q2) fl P2 L2 n1 hv hlen
  rw [← hL] at eo
  obtain ⟨M3, hM3⟩ : ∃ M3, M3 = M1.set ly (.dT .nest (rowsD fN L)) ++ g' := ⟨_, rfl⟩
  have un3 : (M2.set ly (.dT .nest (rowsD fN L)) ++ g').set pv (.dT .nest (rowsD fN prev)) = M3 := by
    rw [List.set_append_left _ _ (by rw [List.length_set]; omega), hM2, List.set_comm _ _ n4, List.set_set, List.set_comm _ _ (Ne.symm n4), set_same (g1 q3), hM3]
  have l3 : M3.length = M.length + 1 + g'.length := by rw [hM3, List.length_append, List.length_set, l1]
  have g3 : ∀ {i : Nat} {x : MO}, M[i]? = some x → M3[i]? = some x := fun {i x} h => by
    rw [hM3]; exact get_app (set_get (g1 h) (by have := mem_lt h; omega))
  have L3 : M3[ly]? = some (.dT .nest (rowsD fN L)) := by rw [hM3]; exact get_app (by rw [List.getElem?_set_self (by omega)])
  -- seen
  obtain ⟨M4, hM4⟩ : ∃ M4, M4 = M3.set ly (.dT .lockN (rowsD fN L)) := ⟨_, rfl⟩
  have S4 : M4[M0.length]? = some (.dT .nest (rowsD fS S)) := by rw [hM4]; exact set_get (g3 st.seen) n1
  obtain ⟨s9'', es⟩ := seen_loop M4 M0.length ly S L s0 (some (enc pool)) s2 (some (.ref (M0.length + 2))) s5 s7' s8' s9' S4 (by omega)
  obtain ⟨M5, hM5⟩ : ∃ M5, M5 = M3.set M0.length (.dT .nest (rowsD fS (seenL S L))) := ⟨_, rfl⟩
  have un5 : (M4.set M0.length (.dT .nest (rowsD fS (seenL S L)))).set ly (.dT .nest (rowsD fN L)) = M5 := by
    rw [hM4, List.set_comm _ _ n1, List.set_set, List.set_comm _ _ (Ne.symm n1), set_same L3, hM5]
  have P5 : (M4.set M0.length (.dT .nest (rowsD fS (seenL S L))))[ly]? = some (.dT .lockN (rowsD fN L)) := set_get (by rw [hM4, List.getElem?_set_self (by omega)]) (Ne.symm n1)
  have g5 : ∀ {i : Nat} {x : MO}, M[i]? = some x → M0.length ≠ i → M5[i]? = some x := fun h hne => by rw [hM5]; exact set_get (g3 h) hne
  have F5 := g5 st.fnd (by omega)
  have l5 : M5.length = M.length + 1 + g'.length := by rw [hM5, List.length_set, l3]
  obtain ⟨M6, hM6⟩ : ∃ M6, M6 = M5.set (M0.length + 2) (.lst ((ids ++ [ly]).map W.ref)) := ⟨_, rfl⟩
  have g6 : ∀ {i : Nat} {x : MO}, M[i]? = some x → M0.length ≠ i → M0.length + 2 ≠ i → M6[i]? = some x := fun h h1 h2 => by rw [hM6]; exact set_get (g5 h h1) h2
  have hnin : ly ∉ ids := fun hm => by
    obtain ⟨i, hi⟩ := List.getElem?_of_mem hm
    have hi2 : i < Ls.length := by rw [← st.il]; exact (List.getElem?_eq_some_iff.mp hi).1
    have := mem_lt (st.each i ly _ hi (List.getElem?_eq_getElem hi2)).2.2
    omega
  refine ⟨some (.ref ly), s7', s8', s9'', M6, ly, ?_, ?_⟩
  · have d1 : (e2 gIx (eV 4) (e1 gNeg (eL (.int 1)))) [s0, some (enc pool), s2, some (.ref M0.length), some (.ref (M0.length + 2)), s5, some (.ref ly), s7, s8, s9] M1 = some (.ref pv, M1) := by
      simp only [e2_eq, e1_eq, eV_eq, eL_eq, List.getD_cons_zero, List.getD_cons_succ, Option.bind_some, gNeg_int, last_ix (g1 st.fnd) fl]
    have d2 : (e2 gIx (eV 4) (e1 gNeg (eL (.int 1)))) [s0, some (enc pool), s2, some (.ref M0.length), some (.ref (M0.length + 2)), s5, some (.ref ly), s7, s8, s9] M2 = some (.ref pv, M2) := by
      simp only [e2_eq, e1_eq, eV_eq, eL_eq, List.getD_cons_zero, List.getD_cons_succ, Option.bind_some, gNeg_int, last_ix (g2 st.fnd q2) fl]
    have rk : ∀ L : List (Hist × Nat), (rowsD fN L).map (·.1) = (L.map (·.1)).map enc := fun L => by unfold rowsD; rw [List.map_map, List.map_map]; rfl
    have p1 := sLk_N (b := sFor (iKeyN (e2 gIx (eV 4) (e1 gNeg (eL (.int 1))))) (gV 7) b2__law_layers) (σ' := [s0, some (enc pool), s2, some (.ref M0.length), some (.ref (M0.length + 2)), s5, some (.ref ly), s7', s8', s9']) (M' := M2.set ly (.dT .nest (rowsD fN L)) ++ g') (ws' := rowsD fN prev) d1 (g1 q3) (by
      rw [← hM2, sFor_eq, iKeyN_eq d2 P2, rk]
      exact eo) (get_app (set_get P2 (Ne.symm n4)))
    rw [un3] at p1
    have p2 := sLk_N (c := eV 6) (b := sFor (iKeyN (eV 6)) (gV 9) b4__law_layers) (σ := [s0, some (enc pool), s2, some (.ref M0.length), some (.ref (M0.length + 2)), s5, some (.ref ly), s7', s8', s9']) (σ' := [s0, some (enc pool), s2, some (.ref M0.length), some (.ref (M0.length + 2)), s5, some (.ref ly), s7', s8', s9'']) (M := M3) (M0 := M3) (M' := M4.set M0.length (.dT .nest (rowsD fS (seenL S L)))) (n := ly) (ws' := rowsD fN L) rfl L3 (by
      rw [← hM4, sFor_eq, iKeyN_eq (M' := M4) (n := ly) (ws := rowsD fN L) rfl (by rw [hM4, List.getElem?_set_self (by omega)]), rk]
      exact es) P5
    rw [un5] at p2
    have il := st.il
    have ap : mAppend [.ref (M0.length + 2), .ref ly] M5 = some (.non, M6) := by
      rw [mAppend_ref, F5]
      simp only
      rw [if_pos (by rw [List.length_map, il]; omega), hM6, List.map_append]
      rfl
    have hz : b1__law_layers = sSeq (sSet (gV 6) eDictN) (sSeq (sLk (e2 gIx (eV 4) (e1 gNeg (eL (.int 1)))) (sFor (iKeyN (e2 gIx (eV 4) (e1 gNeg (eL (.int 1))))) (gV 7) b2__law_layers)) (sSeq (sLk (eV 6) (sFor (iKeyN (eV 6)) (gV 9) b4__law_layers)) (sExpr (eML mAppend (eV 4) [(eV 6)])))) := rfl
    rw [hz, sSeq_eq, show sSet (gV 6) eDictN [s0, some (enc pool), s2, some (.ref M0.length), some (.ref (M0.length + 2)), s5, s6, s7, s8, s9] M = some (.nx [s0, some (enc pool), s2, some (.ref M0.length), some (.ref (M0.length + 2)), s5, some (.ref ly), s7, s8, s9] M1) by rw [hly, hM1]; simp, Option.bind_some]
    simp only []
    rw [sSeq_eq, p1, Option.bind_some]
    simp only []
    rw [sSeq_eq, p2, Option.bind_some]
    simp only [sExpr_eq, eML_eq, eV_eq, List.getD_cons_zero, List.getD_cons_succ, Option.bind_some, isLst_ref, F5, if_true, eArgs_cons, eArgs_nil, ap]
  · rw [← hL]
    refine ⟨by rw [hM6, List.length_set, l5]; omega, fun i x h => g6 (st.pre i x h) (by have := mem_lt h; omega) (by have := mem_lt h; omega), ?_, by rw [hM6, List.getElem?_set_self (by omega)], by rw [List.length_append, List.length_append, st.il]; rfl, List.nodup_append.mpr ⟨st.nd, by simp, fun a ha b hb => by rw [List.mem_singleton] at hb; subst hb; exact fun z => hnin (z ▸ ha)⟩, fun i n L' hi hL' => ?_⟩
    · rw [hM6]; exact set_get (by rw [hM5, List.getElem?_set_self (by omega)]) (by omega)
    · by_cases hlt : i < Ls.length
      · rw [List.getElem?_append_left (by rw [st.il]; exact hlt)] at hi
        rw [List.getElem?_append_left hlt] at hL'
        obtain ⟨a1, a2, a3⟩ := st.each i n L' hi hL'
        exact ⟨a1, a2, g6 a3 (by omega) (Ne.symm a2)⟩
      · rw [List.getElem?_append_right (by rw [st.il]; omega)] at hi
        rw [List.getElem?_append_right (by omega)] at hL'
        have h1 := (List.getElem?_eq_some_iff.mp hL').1
        simp only [List.length_singleton] at h1
        have h2 : i - Ls.length = 0 := by omega
        rw [st.il, h2] at hi
        rw [h2] at hL'
        simp at hi hL'
        subst hi hL'
        refine ⟨by omega, by omega, ?_⟩
        rw [hM6, hM5]
        exact set_get (set_get L3 (by omega)) (by omega)
theorem eNDisp_enc {κ : Type} [Enc κ] [KeyE κ] {k v : CE} {σ : Sl} {M : Mem} {a : κ} {w : W} (hk : k σ (M ++ [.dT .nest []]) = some (enc a, M ++ [.dT .nest []])) (hv : v σ (M ++ [.dT .nest []]) = some (w, M ++ [.dT .nest []])) : eNDisp k v σ M = some (.ref M.length, M ++ [.dT .nest [(enc a, w)]]) := by
  unfold eNDisp
  simp only [hk, hv, Option.bind_some, KeyE.keyT_enc]
  rw [show (M ++ [MO.dT .nest []])[M.length]? = some (.dT .nest []) by simp]
  simp
theorem lay_valid {h : Hist} {pool : List Str} (hr : roomy h 900) : ∀ d, d ≤ 100 → ∀ t ∈ (lay h (alph pool) d).map (·.1), roomy t 800 := fun d hd t ht => by
  obtain ⟨⟨l, h1, h2, rfl⟩, _⟩ := ((layers_spec h (alph pool) d).2 t).mp ht
  exact roomy_run l (roomy_mono hr (by omega))
def layOk (h : Hist) (pool : List Str) (D : Nat) : Prop := roomy h 900 ∧ pool.length ≤ 3 ∧ D ≤ 5
instance (h : Hist) (pool : List Str) (D : Nat) : Decidable (layOk h pool D) := by unfold layOk; infer_instance
def layRows (h : Hist) (pool : List Str) (D : Nat) : List (List (W × W)) := (List.range (D + 1)).map fun d => rowsD fN (lay h (alph pool) d)
def layMem (h : Hist) (pool : List Str) (D : Nat) (M : Mem) : Mem := (layRows h pool D).map (MO.dT .nest) ++ [.lst ((List.range (D + 1)).map fun i => W.ref (M.length + i))]
def F__law_layers : Fn := fun ws M => match ws with
  | [x, y, z] => match (dec x : Option Hist), (dec y : Option (List Str)), (dec z : Option Nat) with
    | some h, some pool, some D => if layOk h pool D then some (.ref (M.length + (D + 1)), M ++ layMem h pool D M) else none
    | _, _, _ => none
  | _ => none
theorem layers_ok {h : Hist} {pool : List Str} {D : Nat} (M : Mem) (hk : layOk h pool D) : F__law_layers [enc h, enc pool, .int D] M = some (.ref (M.length + (D + 1)), M ++ layMem h pool D M) := by
  unfold F__law_layers
  simp only
  rw [dec_enc, dec_enc, show (dec (.int (D : Int)) : Option Nat) = some D from dec_enc (D : Nat)]
  simp only
  rw [if_pos hk]
theorem keeps__law_layers : Keeps 10 c__law_layers F__law_layers := by
  refine keeps_dicts fun ws M w M' e => ?_
  unfold F__law_layers at e
  split at e
  · rename_i x y z
    split at e
    · rename_i h pool D hh hpool hD
      split at e
      · rename_i hk
        cases e
        obtain ⟨hr, hp, hd⟩ := hk
        have la : (alph pool).length ≤ 5 := by simp [alph]; omega
        rw [enc_dec _ _ hh, enc_dec _ _ hpool, enc_dec _ _ hD]
        have hlen : (layRows h pool D).length = D + 1 := by simp [layRows]
        have M3 : Mem := M ++ [.dT .nest [(enc h, .bl true)], .dT .nest [(enc h, .int 1)], .lst [.ref (M.length + 1)]]
        have st0 : LSt M (M ++ [.dT .nest [(enc h, .bl true)], .dT .nest [(enc h, .int 1)], .lst [.ref (M.length + 1)]]) (layersP h (alph pool) 0).1 (layersP h (alph pool) 0).2 [M.length + 1] := by
          refine ⟨by simp, fun i x hi => get_app hi, ?_, ?_, rfl, by simp, fun i n L hi hL => ?_⟩
          · rw [List.getElem?_append_right (Nat.le_refl _)]; simp; rfl
          · rw [List.getElem?_append_right (by omega)]; simp
          · have h0 : i = 0 := by
              have := (List.getElem?_eq_some_iff.mp hi).1
              simp at this; omega
            subst h0
            cases hi; cases hL
            refine ⟨by omega, by omega, ?_⟩
            rw [List.getElem?_append_right (by omega)]; simp; rfl
        have key := forL_ind (gd := gdT) (g := gV 5) (body := b1__law_layers) (rangeW 0 D) (fun i σ M' => ∃ ids s5 s6 s7 s8 s9, LSt M M' (layersP h (alph pool) i).1 (layersP h (alph pool) i).2 ids ∧ σ = [some (enc h), some (enc pool), some (.int (D : Int)), some (.ref M.length), some (.ref (M.length + 2)), s5, s6, s7, s8, s9])
          (σ := [some (enc h), some (enc pool), some (.int (D : Int)), some (.ref M.length), some (.ref (M.length + 2)), none, none, none, none, none]) (M := M ++ [.dT .nest [(enc h, .bl true)], .dT .nest [(enc h, .int 1)], .lst [.ref (M.length + 1)]])
          ⟨_, _, _, _, _, _, st0, rfl⟩ (fun _ _ _ _ => rfl) (by
          rintro i w σ M' hw ⟨ids, s5, s6, s7, s8, s9, st, rfl⟩
          obtain ⟨hi, rfl⟩ := rangeW_get hw
          have eq := layers_eq h (alph pool) i
          have hl : (layersP h (alph pool) i).2.length = i + 1 := by rw [eq]; simp
          obtain ⟨b1, b2⟩ := layers_length h (alph pool) la i
          have p5 : 5 ^ i ≤ 5 ^ 5 := Nat.pow_le_pow_right (by omega) (by omega)
          have p6 : 5 ^ (i + 1) ≤ 5 ^ 6 := Nat.pow_le_pow_right (by omega) (by omega)
          obtain ⟨s6', s7', s8', s9', M2, ly, e1', st'⟩ := turn_layers M M' _ _ ids (lay h (alph pool) i) pool (some (enc h)) (some (.int (D : Int))) (some (.int (0 + (i : Int)))) s6 s7 s8 s9 st hp (by rw [hl, eq]; simp) (by omega) (fun t ht => by
            have := lay_valid hr i (by omega) t ht
            exact ⟨this.1, by have := this.2; omega⟩) (by omega) (by omega) (by omega)
          refine ⟨_, rfl, _, M2, .inl e1', ids ++ [ly], _, _, _, _, _, ?_, rfl⟩
          rw [← lay_succ] at st'
          have h1 : (layersP h (alph pool) (i + 1)).1 = seenL (layersP h (alph pool) i).1 (lay h (alph pool) (i + 1)) := by rw [lay_succ]; rfl
          have h2 : (layersP h (alph pool) (i + 1)).2 = (layersP h (alph pool) i).2 ++ [lay h (alph pool) (i + 1)] := by rw [lay_succ]; rfl
          rw [h1, h2]
          exact st')
        obtain ⟨σ', M', ef, ids, s5, s6, s7, s8, s9, st, rfl⟩ := key
        rw [rangeW_length] at st
        have eq := layers_eq h (alph pool) D
        have pfx : M <+: M' := List.prefix_iff_getElem?.mpr fun i hi => by rw [st.pre i _ (List.getElem?_eq_getElem hi)]
        obtain ⟨g, rfl⟩ := pfx
        refine ⟨layRows h pool D, fun L hL => ?_, by rw [hlen], by unfold layMem; rw [hlen], M.length + 2, g, ids, ?_, by omega, st.fnd, ?_, st.nd, fun i m L hi hL => ?_⟩
        · obtain ⟨d, _, rfl⟩ := List.mem_map.mp hL
          exact pure_rows _ (by decide) fun _ => rfl
        · have d1 := eNDisp_enc (k := eV 0) (v := eL (.bl true)) (σ := [some (enc h), some (enc pool), some (.int (D : Int)), none, none, none, none, none, none, none]) (M := M) (a := h) (w := .bl true) rfl rfl
          have d2 := eNDisp_enc (k := eV 0) (v := eL (.int 1)) (σ := [some (enc h), some (enc pool), some (.int (D : Int)), none, none, none, none, none, none, none]) (M := M ++ [.dT .nest [(enc h, .bl true)]]) (a := h) (w := .int 1) rfl rfl
          have kD : small62 (D : Int) = true := small62_of (by omega)
          have n1 : (M ++ [MO.dT .nest [(enc h, .bl true)]]).length = M.length + 1 := by simp
          have n2 : (M ++ [MO.dT .nest [(enc h, .bl true)]] ++ [MO.dT .nest [(enc h, .int 1)]]).length = M.length + 2 := by simp
          have n3 : M ++ [MO.dT .nest [(enc h, .bl true)]] ++ [MO.dT .nest [(enc h, .int 1)]] ++ [.lst [.ref (M.length + 1)]] = M ++ [.dT .nest [(enc h, .bl true)], .dT .nest [(enc h, .int 1)], .lst [.ref (M.length + 1)]] := by simp
          rw [n1] at d2
          have hb : c__law_layers = sSeq (sPar [3, 4] [(eNDisp (eV 0) (eL (.bl true))), (eLst [(eNDisp (eV 0) (eL (.int 1)))])]) (sSeq (sFor (iRange1 (eV 2)) (gV 5) b1__law_layers) (sRet (eV 4))) := rfl
          show c__law_layers [some (enc h), some (enc pool), some (.int (D : Int)), none, none, none, none, none, none, none] M = _
          rw [hb]
          simp only [sSeq_eq, sPar_eq, eArgs_cons, eArgs_nil, d1, eLst_eq, d2, Option.bind_some, List.length_cons, List.length_nil, n2, n3]
          simp [ef, kD]
        · rw [st.il, eq, hlen]; simp
        · have hlt : i < D + 1 := by
            have := (List.getElem?_eq_some_iff.mp hL).1
            rw [hlen] at this; exact this
          have e1' : (layersP h (alph pool) D).2[i]? = some (lay h (alph pool) i) := by rw [eq, List.getElem?_map, List.getElem?_range hlt]; rfl
          obtain ⟨a1, a2, a3⟩ := st.each i m _ hi e1'
          have : L = rowsD fN (lay h (alph pool) i) := by
            unfold layRows at hL
            rw [List.getElem?_map, List.getElem?_range hlt] at hL
            exact (Option.some.inj hL).symm
          rw [this]
          exact ⟨by omega, a2, a3⟩
      · cases e
    · cases e
  · cases e
end BF

set_option Elab.async false
set_option linter.all false
set_option autoImplicit false
set_option maxRecDepth 10000
namespace BF
open PySem Enc
/-! how many scripts lead to a history of a layer -/
def NodK (L : List (Hist × Nat)) : Prop := (L.map (·.1)).Nodup
def wsum (w : Hist → Nat) (L : List (Hist × Nat)) : Nat := (L.map fun p => p.2 * w p.1).sum
theorem wsum_cons (w : Hist → Nat) (p : Hist × Nat) (L : List (Hist × Nat)) : wsum w (p :: L) = p.2 * w p.1 + wsum w L := by unfold wsum; rw [List.map_cons, List.sum_cons]
theorem getD_cons (p : Hist × Nat) (L : List (Hist × Nat)) (a : Hist) : getD' (p :: L) a = if p.1 = a then some p.2 else getD' L a := by
  unfold getD'
  by_cases h : p.1 = a
  · rw [List.find?_cons_of_pos (by simpa using h), if_pos h]; rfl
  · rw [List.find?_cons_of_neg (by simpa using h), if_neg h]
theorem map_same (L : List (Hist × Nat)) (a : Hist) (b : Nat) (h : a ∉ L.map (·.1)) : (L.map fun p => if p.1 = a then (p.1, b) else p) = L := by
  refine (List.map_congr_left fun p hp => ?_).trans (List.map_id _)
  rw [if_neg]
  · rfl
  · intro z; exact h (List.mem_map.mpr ⟨p, hp, z⟩)
theorem put_nodup (L : List (Hist × Nat)) (a : Hist) (b : Nat) (h : NodK L) : NodK (putD L a b) := by
  unfold NodK putD at *
  split
  · rw [List.map_map]
    have : ((fun p : Hist × Nat => p.1) ∘ fun p => if p.1 = a then (p.1, b) else p) = fun p => p.1 := by
      funext p; simp only [Function.comp]; split <;> rfl
    rw [this]; exact h
  · rename_i hs
    rw [List.map_append, List.nodup_append]
    have h0 : getD' L a = none := by
      cases hq : getD' L a with
      | none => rfl
      | some _ => rw [hq] at hs; exact absurd rfl hs
    refine ⟨h, by simp, fun x hx y hy e => ?_⟩
    simp at hy
    subst hy; subst e
    exact getD_none.mp h0 hx
theorem wsum_put (w : Hist → Nat) (a : Hist) (c : Nat) (L : List (Hist × Nat)) (h : NodK L) : wsum w (putD L a ((getD' L a).getD 0 + c)) = wsum w L + c * w a := by
  cases hq : getD' L a with
  | none =>
    unfold putD
    rw [hq]
    simp [wsum]
  | some v =>
    unfold putD
    rw [hq]
    simp only [Option.isSome_some, if_true, Option.getD_some]
    induction L with
    | nil => cases hq
    | cons p L ih =>
      unfold NodK at h
      rw [List.map_cons, List.nodup_cons] at h
      rw [getD_cons] at hq
      by_cases e : p.1 = a
      · rw [if_pos e] at hq
        cases hq
        rw [List.map_cons, if_pos e, map_same L a _ (e ▸ h.1), wsum_cons, wsum_cons, e, Nat.add_mul]
        omega
      · rw [if_neg e] at hq
        rw [List.map_cons, if_neg e, wsum_cons, wsum_cons, ih h.2 hq]
        omega
theorem stepA_nod (S : List (Hist × Unit)) (old : Hist) (c : Nat) (L : List (Hist × Nat)) (a : Act) (h : NodK L) : NodK (stepA S old c L a) := by
  unfold stepA
  split
  · exact h
  · exact put_nodup _ _ _ h
theorem foldA_nod (S : List (Hist × Unit)) (old : Hist) (c : Nat) : ∀ (acts : List Act) (L : List (Hist × Nat)), NodK L → NodK (acts.foldl (stepA S old c) L)
  | [], _, h => h
  | a :: acts, L, h => foldA_nod S old c acts _ (stepA_nod S old c L a h)
theorem foldO_nod (S : List (Hist × Unit)) (acts : List Act) (prev : List (Hist × Nat)) : ∀ (ks : List Hist) (L : List (Hist × Nat)), NodK L → NodK (ks.foldl (stepO S acts prev) L)
  | [], _, h => h
  | k :: ks, L, h => foldO_nod S acts prev ks _ (foldA_nod S k _ acts L h)
theorem lay_nod (h : Hist) (acts : List Act) : ∀ d, NodK (lay h acts d)
  | 0 => by unfold NodK; show List.Nodup [h]; simp
  | d + 1 => by rw [lay_succ]; exact foldO_nod _ _ _ _ _ List.nodup_nil
theorem wsum_A (w : Hist → Nat) (S : List (Hist × Unit)) (hw : ∀ x ∈ S.map (·.1), w x = 0) (old : Hist) (c : Nat) (L : List (Hist × Nat)) (a : Act) (h : NodK L) : wsum w (stepA S old c L a) = wsum w L + c * w (stepH old a) := by
  unfold stepA
  split
  · rename_i hs
    have : stepH old a ∈ S.map (·.1) := by
      refine Classical.byContradiction fun z => ?_
      rw [getD_none.mpr z] at hs; cases hs
    rw [hw _ this, Nat.mul_zero, Nat.add_zero]
  · exact wsum_put w _ c L h
theorem wsum_foldA (w : Hist → Nat) (S : List (Hist × Unit)) (hw : ∀ x ∈ S.map (·.1), w x = 0) (old : Hist) (c : Nat) : ∀ (acts : List Act) (L : List (Hist × Nat)), NodK L → wsum w (acts.foldl (stepA S old c) L) = wsum w L + c * (acts.map fun a => w (stepH old a)).sum
  | [], L, _ => by simp
  | a :: acts, L, h => by
    rw [List.foldl_cons, wsum_foldA w S hw old c acts _ (stepA_nod S old c L a h), wsum_A w S hw old c L a h, List.map_cons, List.sum_cons, Nat.mul_add]
    omega
theorem wsum_foldO (w : Hist → Nat) (S : List (Hist × Unit)) (hw : ∀ x ∈ S.map (·.1), w x = 0) (acts : List Act) (prev : List (Hist × Nat)) : ∀ (ks : List Hist) (L : List (Hist × Nat)), NodK L → wsum w (ks.foldl (stepO S acts prev) L) = wsum w L + (ks.map fun o => (getD' prev o).getD 0 * (acts.map fun a => w (stepH o a)).sum).sum
  | [], L, _ => by simp
  | k :: ks, L, h => by
    rw [List.foldl_cons, show stepO S acts prev L k = acts.foldl (stepA S k ((getD' prev k).getD 0)) L from rfl, wsum_foldO w S hw acts prev ks _ (foldA_nod S k _ acts L h), List.map_cons, List.sum_cons]
    rw [wsum_foldA w S hw k _ acts L h]
    omega
theorem look_sum (f : Hist → Nat) (L : List (Hist × Nat)) (h : NodK L) : ∀ (P : List (Hist × Nat)), (∀ p ∈ P, getD' L p.1 = some p.2) → ((P.map (·.1)).map fun o => (getD' L o).getD 0 * f o).sum = wsum f P
  | [], _ => rfl
  | p :: P, hp => by
    rw [List.map_cons, List.map_cons, List.sum_cons, look_sum f L h P fun q hq => hp q (List.mem_cons_of_mem _ hq), hp p List.mem_cons_self, wsum_cons]; rfl
theorem getD_mem (L : List (Hist × Nat)) (h : NodK L) : ∀ p ∈ L, getD' L p.1 = some p.2 := by
  induction L with
  | nil => intro p hp; cases hp
  | cons q L ih =>
    unfold NodK at h
    rw [List.map_cons, List.nodup_cons] at h
    intro p hp
    rw [getD_cons]
    rcases List.mem_cons.mp hp with rfl | hp
    · rw [if_pos rfl]
    · rw [if_neg, ih h.2 p hp]
      intro e
      exact h.1 (e ▸ List.mem_map.mpr ⟨p, hp, rfl⟩)
theorem wsum_expand (w : Hist → Nat) (S : List (Hist × Unit)) (hw : ∀ x ∈ S.map (·.1), w x = 0) (acts : List Act) (prev : List (Hist × Nat)) (h : NodK prev) : wsum w (expandL S acts prev) = wsum (fun o => (acts.map fun a => w (stepH o a)).sum) prev := by
  unfold expandL
  rw [wsum_foldO w S hw acts prev _ [] List.nodup_nil, look_sum _ prev h prev (getD_mem prev h)]
  simp [wsum]
/-- so many scripts lead there -/
def manyN (acts : List Act) : Nat → Hist → Hist → Nat
  | 0, o, t => if o = t then 1 else 0
  | k + 1, o, t => (acts.map fun a => manyN acts k (stepH o a) t).sum
theorem sum_pos {l : List Nat} (h : l.sum ≠ 0) : ∃ x ∈ l, x ≠ 0 := by
  induction l with
  | nil => exact absurd rfl h
  | cons a l ih =>
    by_cases ha : a = 0
    · subst ha
      rw [List.sum_cons, Nat.zero_add] at h
      obtain ⟨x, hx, h2⟩ := ih h
      exact ⟨x, List.mem_cons_of_mem _ hx, h2⟩
    · exact ⟨a, List.mem_cons_self, ha⟩
theorem many_pos (acts : List Act) : ∀ (k : Nat) {o t : Hist}, manyN acts k o t ≠ 0 → Rch o acts k t
  | 0, o, t, h => by
    unfold manyN at h
    split at h
    · rename_i e; exact ⟨[], rfl, fun _ h => (by cases h), e⟩
    · exact absurd rfl h
  | k + 1, o, t, h => by
    unfold manyN at h
    obtain ⟨x, hx, h2⟩ := sum_pos h
    obtain ⟨a, ha, rfl⟩ := List.mem_map.mp hx
    obtain ⟨l, l1, l2, l3⟩ := many_pos acts k h2
    exact ⟨a :: l, by rw [List.length_cons, l1], fun b hb => (List.mem_cons.mp hb).elim (fun e => e ▸ ha) (l2 b), l3⟩
theorem rch_trans {h o t : Hist} {acts : List Act} {n k : Nat} (h1 : Rch h acts n o) (h2 : Rch o acts k t) : Rch h acts (n + k) t := by
  obtain ⟨l, a1, a2, a3⟩ := h1
  obtain ⟨m, b1, b2, b3⟩ := h2
  refine ⟨l ++ m, by rw [List.length_append, a1, b1], fun a ha => (List.mem_append.mp ha).elim (a2 a) (b2 a), ?_⟩
  unfold runH at *
  rw [List.foldl_append, a3, b3]
theorem lay_many {h t : Hist} {acts : List Act} {D : Nat} (hD : ∀ n, n < D → ¬ Rch h acts n t) : ∀ (d k : Nat), d + k = D → wsum (fun o => manyN acts k o t) (lay h acts d) = manyN acts D h t
  | 0, k, e => by
    have : k = D := by omega
    subst this
    show wsum _ [(h, 1)] = _
    simp [wsum]
  | d + 1, k, e => by
    rw [lay_succ, wsum_expand _ _ (fun x hx => ?_) _ _ (lay_nod h acts d)]
    · exact lay_many hD d (k + 1) (by omega)
    · refine Classical.byContradiction fun z => ?_
      obtain ⟨n, hn, hr⟩ := ((layers_spec h acts d).1 x).mp hx
      exact hD (n + k) (by omega) (rch_trans hr (many_pos acts k z))
theorem lay_count {h t : Hist} {acts : List Act} {D : Nat} (ht : t ∈ (lay h acts D).map (·.1)) : getD' (lay h acts D) t = some (manyN acts D h t) := by
  have hs := ((layers_spec h acts D).2 t).mp ht
  have := lay_many hs.2 D 0 rfl
  have e : ∀ (L : List (Hist × Nat)), NodK L → wsum (fun o => manyN acts 0 o t) L = (getD' L t).getD 0 := by
    intro L
    induction L with
    | nil => intro _; rfl
    | cons p L ih =>
      intro hn
      unfold NodK at hn
      rw [List.map_cons, List.nodup_cons] at hn
      rw [wsum_cons, ih hn.2, getD_cons]
      unfold manyN
      by_cases q : p.1 = t
      · rw [if_pos q, if_pos q]
        have : getD' L t = none := getD_none.mpr (q ▸ hn.1)
        rw [this]
        simp
      · rw [if_neg q, if_neg q]; simp
  rw [e _ (lay_nod h acts D)] at this
  cases hq : getD' (lay h acts D) t with
  | none => exact absurd ht (getD_none.mp hq)
  | some c => rw [hq] at this; rw [← this]; rfl
end BF

set_option Elab.async false
set_option linter.all false
set_option autoImplicit false
set_option maxRecDepth 10000
namespace BF
open PySem Enc
/-! a shortest script's first action -/
theorem count_mk (p w : List Str) (i e : Nat) : countP ⟨p, i⟩ ⟨w, e⟩ = if distH ⟨p, i⟩ ⟨w, e⟩ = none then 0 else if p = w ∧ ¬ (i < e ∧ e = w.length - 1) then 1 else (if p = w then e - i else min (commonN p w) (w.length - 1) - 1 - i) + 1 := rfl
/-- what an action adds -/
def gainA (h t : Hist) (d : Nat) : Nat := if distH h t = some (d : Int) then countP h t else 0
theorem gain_same {w : List Str} {i e d : Nat} : gainA ⟨w, i⟩ ⟨w, e⟩ d = if ((i : Int) - e).natAbs = d then (if i < e ∧ e = w.length - 1 then e - i + 1 else 1) else 0 := by
  unfold gainA
  rw [count_mk, dist_mk, if_pos rfl]
  simp only [Option.some.injEq, reduceCtorEq, if_false, true_and, if_true]
  by_cases h : ((i : Int) - e).natAbs = d
  · rw [if_pos (by omega), if_pos h]
    by_cases h2 : i < e ∧ e = w.length - 1
    · rw [if_pos h2, if_neg (fun z => z h2)]
    · rw [if_neg h2, if_pos h2]
  · rw [if_neg (by omega), if_neg h]
theorem gain_diff {p w : List Str} {i e d k : Nat} (hp : p ≠ w) (hk : min (commonN p w) (w.length - 1) = k) : gainA ⟨p, i⟩ ⟨w, e⟩ d = if k ≠ 0 ∧ (((min i (k - 1) : Nat) - i : Int).natAbs : Int) + w.length - 1 - (min i (k - 1) : Nat) + w.length - 1 - e = d then k - 1 - i + 1 else 0 := by
  unfold gainA
  rw [count_mk, dist_mk, hk, if_neg hp]
  simp only [hp, false_and, if_false]
  by_cases h0 : k = 0
  · simp [h0]
  · simp only [h0, if_false, ne_eq, not_false_eq_true, true_and, Option.some.injEq, reduceCtorEq]
/-- a visit -/
theorem gain_visit {h t : Hist} {d : Nat} (hv : h.at_ < h.ps.length) (tv : t.at_ < t.ps.length) (hd : distH h t = some ((d + 1 : Nat) : Int)) (x : Str) :
    gainA (stepH h (.visit x)) t d = if t.ps[h.at_ + 1]? = some x ∧ (if h.ps = t.ps then h.at_ < t.at_ ∧ t.at_ = t.ps.length - 1 else h.at_ + 1 ≤ keptN h t) then 1 else 0 := by
  obtain ⟨p, i⟩ := h
  obtain ⟨w, e⟩ := t
  simp only at hv tv ⊢
  have hkn : keptN ⟨p, i⟩ ⟨w, e⟩ = min (commonN p w) (w.length - 1) := rfl
  rw [hkn]
  have cl := commonN_le p w
  have self := commonN_self w
  obtain ⟨c1, c2, c3⟩ := common_visit (w := w) x hv
  have hl : (p.take (i + 1) ++ [x]).length = i + 2 := by simp; omega
  have hall : commonN (p.take (i + 1) ++ [x]) w = i + 2 → w.length = i + 2 → p.take (i + 1) ++ [x] = w := fun z1 z2 => commonN_all (by rw [z1, z2]) (by rw [z1, hl])
  have cl2 := commonN_le (p.take (i + 1) ++ [x]) w
  have hget : commonN (p.take (i + 1) ++ [x]) w = i + 2 → w[i + 1]? = some x := fun z => by
    have := take_of_common _ w (i + 2) (by omega : i + 2 ≤ commonN (p.take (i + 1) ++ [x]) w)
    have h2 := congrArg (fun l => l[i + 1]?) this
    simp only [List.getElem?_take, show i + 1 < i + 2 by omega, if_true] at h2
    rw [← h2, List.getElem?_append_right (by simp; omega)]
    have : (p.take (i + 1)).length = i + 1 := by simp; omega
    rw [this]; simp
  have hself : p.take (i + 1) ++ [x] = w → commonN (p.take (i + 1) ++ [x]) w = i + 2 := fun z => by
    have : commonN (p.take (i + 1) ++ [x]) w = w.length := by rw [z, commonN_self]
    rw [this, ← z, hl]
  rw [dist_mk] at hd
  show gainA ⟨p.take (i + 1) ++ [x], i + 1⟩ ⟨w, e⟩ d = _
  by_cases hp : p = w
  · rw [if_pos hp] at hd
    have hd2 := Option.some.inj hd
    have hpl : p.length = w.length := by rw [hp]
    have hcw : commonN p w = w.length := by rw [hp, self]
    simp only [if_pos hp]
    by_cases hq : p.take (i + 1) ++ [x] = w
    · obtain ⟨l1, _⟩ := c3 hq
      have g1 := hget (hself hq)
      rw [hq, gain_same]
      by_cases hc : w[i + 1]? = some x ∧ i < e ∧ e = w.length - 1
      · rw [if_pos hc, if_pos (by omega), if_neg (by omega)]
      · rw [if_neg hc, if_neg]
        intro z
        exact hc ⟨g1, by omega, by omega⟩
    · rw [gain_diff hq rfl]
      by_cases hw : w[i + 1]? = some x
      · have k1 := (c2 (by omega)).2 hw
        have k2 : w.length ≠ i + 2 := fun z => hq (hall k1 z)
        rw [k1]
        by_cases hc : i < e ∧ e = w.length - 1
        · rw [if_pos (by omega), if_pos ⟨hw, hc⟩]
          omega
        · rw [if_neg (by intro z; omega), if_neg (fun z => hc z.2)]
      · have k1 := ((c2 (by omega)).1).resolve_right fun z => hw (hget z)
        rw [k1, if_neg (by intro z; omega), if_neg (fun z => hw z.1)]
  · rw [if_neg hp] at hd
    simp only [if_neg hp]
    split at hd
    · cases hd
    · rename_i hk
      have hd2 := Option.some.inj hd
      by_cases hi : i + 1 ≤ min (commonN p w) (w.length - 1)
      · have hic : i + 1 ≤ commonN p w := by omega
        have hiw : i + 1 < w.length := by omega
        by_cases hw : w[i + 1]? = some x
        · rw [if_pos ⟨hw, hi⟩]
          have k1 := (c2 hic).2 hw
          by_cases hq : p.take (i + 1) ++ [x] = w
          · obtain ⟨l1, _⟩ := c3 hq
            rw [hq, gain_same, if_pos (by omega), if_neg (by omega)]
          · have k2 : w.length ≠ i + 2 := fun z => hq (hall k1 z)
            rw [gain_diff hq rfl, k1, if_pos (by omega)]
            omega
        · rw [if_neg (fun z => hw z.1)]
          have k1 := ((c2 hic).1).resolve_right fun z => hw (hget z)
          have hq : p.take (i + 1) ++ [x] ≠ w := fun z => by have := hself z; omega
          rw [gain_diff hq rfl, k1, if_neg]
          intro z
          omega
      · rw [if_neg (fun z => hi z.2)]
        have hq : p.take (i + 1) ++ [x] ≠ w := fun z => by
          obtain ⟨l1, l2⟩ := c3 z
          omega
        rw [gain_diff hq rfl, if_neg]
        intro z
        by_cases hc : commonN p w ≤ i
        · rw [c1 hc] at z; omega
        · have := (c2 (by omega)).1
          omega
/-- back or forward -/
theorem gain_move {h t : Hist} {d : Nat} (hv : h.at_ < h.ps.length) (tv : t.at_ < t.ps.length) (hd : distH h t = some ((d + 1 : Nat) : Int)) :
    gainA (stepH h .back) t d + gainA (stepH h .forward) t d + (if (if h.ps = t.ps then h.at_ < t.at_ ∧ t.at_ = t.ps.length - 1 else h.at_ + 1 ≤ keptN h t) then 1 else 0) = countP h t := by
  obtain ⟨p, i⟩ := h
  obtain ⟨w, e⟩ := t
  simp only at hv tv ⊢
  have hkn : keptN ⟨p, i⟩ ⟨w, e⟩ = min (commonN p w) (w.length - 1) := rfl
  rw [hkn]
  have cl := commonN_le p w
  rw [count_mk, hd]
  rw [dist_mk] at hd
  show gainA ⟨p, i - 1⟩ ⟨w, e⟩ d + gainA ⟨p, min (p.length - 1) (i + 1)⟩ ⟨w, e⟩ d + _ = _
  simp only [reduceCtorEq, if_false]
  by_cases hp : p = w
  · subst hp
    rw [if_pos rfl] at hd
    have hd2 := Option.some.inj hd
    simp only [if_true, true_and]
    rw [gain_same, gain_same]
    by_cases hlt : e < i
    · rw [if_neg (show ¬ (i < e ∧ e = p.length - 1) by omega), if_pos (show ¬ (i < e ∧ e = p.length - 1) by omega), if_pos (show (((i - 1 : Nat) : Int) - e).natAbs = d by omega), if_neg (show ¬ (i - 1 < e ∧ e = p.length - 1) by omega), if_neg (show ¬ ((min (p.length - 1) (i + 1) : Nat) - e : Int).natAbs = d by omega)]
    · rw [if_neg (show ¬ (((i - 1 : Nat) : Int) - e).natAbs = d by omega), if_pos (show ((min (p.length - 1) (i + 1) : Nat) - e : Int).natAbs = d by omega)]
      by_cases he : e = p.length - 1
      · rw [if_pos (show i < e ∧ e = p.length - 1 by omega), if_neg (show ¬ ¬ (i < e ∧ e = p.length - 1) by omega)]
        by_cases hz : min (p.length - 1) (i + 1) < e
        · rw [if_pos ⟨hz, he⟩]; omega
        · rw [if_neg (fun z => hz z.1)]; omega
      · rw [if_neg (show ¬ (i < e ∧ e = p.length - 1) by omega), if_pos (show ¬ (i < e ∧ e = p.length - 1) by omega), if_neg (fun z => he z.2)]
  · rw [if_neg hp] at hd
    simp only [hp, false_and, if_false]
    split at hd
    · cases hd
    · rename_i hk
      have hd2 := Option.some.inj hd
      rw [gain_diff hp rfl, gain_diff hp rfl]
      obtain ⟨k, hkk⟩ : ∃ k, k = min (commonN p w) (w.length - 1) := ⟨_, rfl⟩
      have hk1 : k ≤ p.length := by omega
      rw [← hkk] at hk hd2 ⊢
      by_cases hi : i + 1 ≤ k
      · rw [if_pos hi, if_neg (show ¬ (k ≠ 0 ∧ (((min (i - 1) (k - 1) : Nat) - (i - 1 : Nat) : Int).natAbs : Int) + w.length - 1 - (min (i - 1) (k - 1) : Nat) + w.length - 1 - e = d) by omega)]
        by_cases hi2 : i + 1 < k
        · rw [if_pos (by omega)]; omega
        · rw [if_neg (by omega)]; omega
      · rw [if_neg hi, if_pos (show k ≠ 0 ∧ (((min (i - 1) (k - 1) : Nat) - (i - 1 : Nat) : Int).natAbs : Int) + w.length - 1 - (min (i - 1) (k - 1) : Nat) + w.length - 1 - e = d by omega), if_neg (by omega)]
        omega
theorem one_of_two {w : List Str} {j : Nat} (hw : ∀ p ∈ w, p ∈ (["a", "b"] : List Str)) (hj : j < w.length) : (w[j]? = some ("a" : Str) ∧ w[j]? ≠ some ("b" : Str)) ∨ (w[j]? = some ("b" : Str) ∧ w[j]? ≠ some ("a" : Str)) := by
  have hm := hw w[j] (List.getElem_mem hj)
  rw [List.getElem?_eq_getElem hj]
  rcases List.mem_cons.mp hm with e | hm
  · exact .inl ⟨by rw [e], by rw [e]; decide⟩
  · rw [List.mem_singleton] at hm
    exact .inr ⟨by rw [hm], by rw [hm]; decide⟩
theorem many_count : ∀ (d : Nat) {h t : Hist}, h.at_ < h.ps.length → t.at_ < t.ps.length → (∀ p ∈ t.ps, p ∈ (["a", "b"] : List Str)) → distH h t = some (d : Int) → manyN (alph ["a", "b"]) d h t = countP h t
  | 0, h, t, hv, tv, hp, hd => by
    have := (distH_zero hv tv).mp hd
    subst this
    unfold manyN countP
    rw [if_pos rfl, hd, if_neg (by simp), if_pos ⟨rfl, by omega⟩]
  | d + 1, h, t, hv, tv, hp, hd => by
    have one : ∀ a ∈ alph ["a", "b"], manyN (alph ["a", "b"]) d (stepH h a) t = gainA (stepH h a) t d := fun a ha => by
      have pa := alph_plain _ a ha
      unfold gainA
      by_cases hs : distH (stepH h a) t = some (d : Int)
      · rw [if_pos hs, many_count d (step_valid hv pa) tv hp hs]
      · rw [if_neg hs]
        refine Classical.byContradiction fun z => hs ?_
        obtain ⟨l, l1, l2, l3⟩ := many_pos _ d z
        obtain ⟨u, u1, u2⟩ := dist_run l (t := t) (v := 0) (step_valid hv pa) tv (List.all_eq_true.mpr fun b hb => alph_plain _ b (l2 b hb)) (by rw [l3]; exact distH_self t)
        obtain ⟨v, v1, v2⟩ := dist_step hv tv pa u1
        rw [hd] at v1
        have := Option.some.inj v1
        rw [u1]
        congr 1
        omega
    have e : manyN (alph ["a", "b"]) (d + 1) h t = ((alph ["a", "b"]).map fun a => manyN (alph ["a", "b"]) d (stepH h a) t).sum := rfl
    rw [e, List.map_congr_left one]
    show gainA (stepH h .back) t d + (gainA (stepH h .forward) t d + (gainA (stepH h (.visit "a")) t d + (gainA (stepH h (.visit "b")) t d + 0))) = _
    have gm := gain_move hv tv hd
    rw [gain_visit hv tv hd, gain_visit hv tv hd, ← gm]
    by_cases hc : (if h.ps = t.ps then h.at_ < t.at_ ∧ t.at_ = t.ps.length - 1 else h.at_ + 1 ≤ keptN h t)
    · have hj : h.at_ + 1 < t.ps.length := by
        have : keptN h t ≤ t.ps.length - 1 := Nat.min_le_right _ _
        split at hc <;> omega
      simp only [hc, and_true, if_true]
      rcases one_of_two hp hj with ⟨z1, z2⟩ | ⟨z1, z2⟩
      · rw [if_pos z1, if_neg z2]; omega
      · rw [if_neg z2, if_pos z1]; omega
    · simp only [hc, and_false, if_false]; omega
end BF

set_option Elab.async false
set_option linter.all false
set_option autoImplicit false
set_option maxRecDepth 10000
namespace BF
open PySem Enc
/-! most_forward -/
def mostF2 (h t : Hist) : Option Nat := if valid h ∧ valid t ∧ h.ps.length ≤ 900 ∧ t.ps.length ≤ 900 then some (mostF h t) else none
def F_most_forward : Fn := fn2 mostF2
abbrev N_most_forward : List Str := ["history", "target", "pages", "place", "wanted", "end"]
def c_most_forward : CS :=
  (sSeq (sSet (gT [(gT [(gV 2), (gV 3)]), (gT [(gV 4), (gV 5)])]) (eTup [(eV 0), (eV 1)]))
  (sSeq (sIf (tB (e2 gEq (eV 2) (eV 4))) (sRet (eN pMax [(eL (.int 0)), (e2 gSub (eV 5) (eV 3))])) sNil)
  (sRet (eN pMax [(eL (.int 0)), (e2 gSub (e2 gSub (eN F_kept_pages [(eV 0), (eV 1)]) (eL (.int 1))) (eV 3))]))))
theorem most_ok {h t : Hist} (M : Mem) (h1 : valid h) (h2 : valid t) (h3 : h.ps.length ≤ 900) (h4 : t.ps.length ≤ 900) : F_most_forward [enc h, enc t] M = some (.int (mostF h t), M) := by
  have := fn2_eq mostF2 h t M
  unfold mostF2 at this
  rw [if_pos ⟨h1, h2, h3, h4⟩] at this
  exact this
theorem keeps_most_forward : Keeps 6 c_most_forward F_most_forward := by
  refine keeps2p fun h t c M e => ?_
  unfold mostF2 at e
  split at e
  · rename_i hv
    cases e
    obtain ⟨h1, h2, h3, h4⟩ := hv
    have f1 := kept_ok M h1 h2 h3 h4
    refine ⟨M, ?_, List.prefix_refl _⟩
    simp only [enc_hist] at f1
    unfold mostF
    by_cases hp : h.ps = t.ps
    · simp [c_most_forward, enc_hist, hp]
    · simp [c_most_forward, enc_hist, hp, f1]
      omega
  · cases e
end BF

set_option Elab.async false
set_option linter.all false
set_option autoImplicit false
set_option maxRecDepth 10000
namespace BF
open PySem Enc
/-! count_plans -/
def countF (h t : Hist) : Option Nat := if valid h ∧ valid t ∧ h.ps.length ≤ 900 ∧ t.ps.length ≤ 900 then some (countP h t) else none
def F_count_plans : Fn := fn2 countF
abbrev N_count_plans : List Str := ["history", "target", "pages", "place", "wanted", "end"]
def c_count_plans : CS :=
  (sSeq (sSet (gT [(gT [(gV 2), (gV 3)]), (gT [(gV 4), (gV 5)])]) (eTup [(eV 0), (eV 1)]))
  (sSeq (sIf (tB (e1 gIsN (eN F_distance [(eV 0), (eV 1)]))) (sRet (eL (.int 0))) sNil)
  (sSeq (sIf (tAnd (tB (e2 gEq (eV 2) (eV 4))) (tNot (tB (eChain gLt gEq (eV 3) (eV 5) (e2 gSub (eN pLen [(eV 4)]) (eL (.int 1))))))) (sRet (eL (.int 1))) sNil)
  (sRet (e2 gAdd (eN F_most_forward [(eV 0), (eV 1)]) (eL (.int 1)))))))
theorem count_ok {h t : Hist} (M : Mem) (h1 : valid h) (h2 : valid t) (h3 : h.ps.length ≤ 900) (h4 : t.ps.length ≤ 900) : F_count_plans [enc h, enc t] M = some (.int (countP h t), M) := by
  have := fn2_eq countF h t M
  unfold countF at this
  rw [if_pos ⟨h1, h2, h3, h4⟩] at this
  exact this
theorem keeps_count_plans : Keeps 6 c_count_plans F_count_plans := by
  refine keeps2p fun h t c M e => ?_
  unfold countF at e
  split at e
  · rename_i hv
    cases e
    obtain ⟨h1, h2, h3, h4⟩ := hv
    have f1 := distance_ok M h1 h2 h3 h4
    have f2 := most_ok M h1 h2 h3 h4
    refine ⟨M, ?_, List.prefix_refl _⟩
    simp only [enc_hist] at f1 f2
    unfold countP
    have tl := h2.1
    obtain ⟨L, hL⟩ : ∃ L, L = t.ps.length - 1 := ⟨_, rfl⟩
    have k1 : (t.ps.length : Int) - 1 = (L : Int) := by omega
    rw [← hL]
    cases hd : distH h t with
    | none =>
      rw [hd] at f1
      simp only [enc_on] at f1
      simp [c_count_plans, enc_hist, f1]
    | some v =>
      rw [hd] at f1
      simp only [enc_os] at f1
      by_cases hp : h.ps = t.ps
      · simp only [hp] at f1 f2
        by_cases hc : h.at_ < t.at_
        · by_cases hc2 : L = t.at_
          · subst hc2
            simp [c_count_plans, enc_hist, f1, f2, hp, hc, k1]
          · have hc3 : ¬ t.at_ = L := fun z => hc2 z.symm
            simp [c_count_plans, enc_hist, f1, f2, hp, hc, k1, hc3, Int.natCast_inj]
        · simp [c_count_plans, enc_hist, f1, f2, hp, hc, k1]
      · simp [c_count_plans, enc_hist, f1, f2, hp]
  · cases e
end BF

set_option Elab.async false
set_option linter.all false
set_option autoImplicit false
set_option maxRecDepth 10000
namespace BF
open PySem Enc
/-! _law_like, to a depth -/
def likeW (M : Mem) : Nat → W → W → Option Bool
  | 0, _, _ => none
  | k + 1, x, y => match seqW M x with
    | some (b, xs) => match seqW M y with
      | some (c, ys) => if b ≠ c then some false else if xs.length ≠ ys.length then some false else if xs.length ≤ 100000 then (mapO (fun p => likeW M k p.1 p.2) (xs.zip ys)).map fun bs => bs.all id else none
      | none => if isScal y = true then some false else none
    | none => if isScal x = true then match seqW M y with
        | some _ => some false
        | none => if isScal y = true then (if isBl x = isBl y then eqW M x y else some false) else none
      else none
def F__law_like (d : Nat) : Fn := fun ws M => match ws with
  | [x, y] => (likeW M d x y).map fun b => (.bl b, M)
  | _ => none
abbrev N__law_like : List Str := ["one", "two", "k"]
def c__law_like (R : Fn) : CS :=
  (sSeq (sIf (tB (e1 (gIsi2 "list" "tuple") (eV 0))) (sSeq (sIf (tOr (tB (e2 gNe (e1 (gIsi "list") (eV 0)) (e1 (gIsi "list") (eV 1)))) (tB (e2 gNe (e1 (gIsi "tuple") (eV 0)) (e1 (gIsi "tuple") (eV 1))))) (sRet (eL (.bl false))) sNil)
  (sSeq (sIf (tB (e2 gNe (eN pLen [(eV 0)]) (eN pLen [(eV 1)]))) (sRet (eL (.bl false))) sNil)
  (sRet (e2 gEq (eLc (iRange1 (eN pLen [(eV 0)])) (gV 2) (tNot (tB (eN R [(e2 gIx (eV 0) (eV 2)), (e2 gIx (eV 1) (eV 2))]))) (eV 2) [2]) (eLst []))))) sNil)
  (sSeq (sIf (tB (e1 (gIsi2 "list" "tuple") (eV 1))) (sRet (eL (.bl false))) sNil)
  (sRet (eAnd (e2 gEq (e1 (gIsi "bool") (eV 0)) (e1 (gIsi "bool") (eV 1))) (e2 gEq (eV 0) (eV 1))))))
theorem like_seq {M : Mem} {x y : W} {b c : Bool} {xs ys : List W} (R : Fn) (hx : seqW M x = some (b, xs)) (hy : seqW M y = some (c, ys)) {r : Bool}
    (h : b = c → xs.length = ys.length → xs.length ≤ 100000 ∧ ∃ bs : List Bool, bs.length = xs.length ∧ bs.all id = r ∧ ∀ (i : Nat) (p q : W), xs[i]? = some p → ys[i]? = some q → ∀ g, ∃ z, bs[i]? = some z ∧ R [p, q] (M ++ g) = some (.bl z, M ++ g))
    (h2 : b ≠ c → r = false) (h3 : xs.length ≠ ys.length → r = false) :
    ∃ g, c__law_like R [some x, some y, none] M = some (.rt (.bl r) (M ++ g)) := by
  unfold c__law_like
  simp only [sSeq_eq, sIf_eq, tB_eq, e1_eq, eV_eq, List.getD_cons_zero, List.getD_cons_succ, Option.bind_some, isi2_seq hx, if_true, tOr_eq, e2_eq, gNe_eq, isiL_seq hx, isiL_seq hy, eqW_bl, Option.map_some]
  by_cases hb : b = c
  · subst hb
    simp only [decide_true, Bool.not_true, Bool.false_eq_true, if_false, isiT_seq hx, isiT_seq hy, Option.bind_some, eqW_bl, Option.map_some, sNil_eq, eN_eq, eArgs_cons, eArgs_nil, eV_eq, List.getD_cons_zero, List.getD_cons_succ, len_seq hx, len_seq hy, eqW_int, sRet_eq, eL_eq]
    by_cases hl : xs.length = ys.length
    · obtain ⟨hL, bs, hbl, hr, hR⟩ := h rfl hl
      have hx' := hx
      simp only [← hl, decide_true, Bool.not_true, Bool.false_eq_true, if_false, e2_eq, eLc_eq, iRange1_eq, eN_eq, eArgs_cons, eArgs_nil, eV_eq, List.getD_cons_zero, Option.bind_some, len_seq hx]
      have k2 : small62 (xs.length : Int) = true := small62_of (by omega)
      simp only [k2, if_true, Option.bind_some, Int.toNat_natCast]
      have key := lcL_filter (gd := gdT) (g := gV 2) (t := tNot (tB (eN R [(e2 gIx (eV 0) (eV 2)), (e2 gIx (eV 1) (eV 2))]))) (e := eV 2) (vs := [2]) (σ := [some x, some y, none]) (rangeW 0 xs.length) id
        (fun w => match w with | .int i => !(bs.getD i.toNat true) | _ => false) M [] (by rw [rangeW_length]; simp; omega) (fun _ => rfl) (fun w hw l => by
          obtain ⟨i, hi, rfl⟩ := rangeW_mem hw
          refine ⟨[some x, some y, some (.int (0 + (i : Nat)))], rfl, ?_, fun _ => rfl⟩
          obtain ⟨p, hp⟩ : ∃ p, xs[i]? = some p := ⟨_, List.getElem?_eq_getElem hi⟩
          obtain ⟨q, hq⟩ : ∃ q, ys[i]? = some q := ⟨_, List.getElem?_eq_getElem (by omega)⟩
          obtain ⟨z, hz, hRz⟩ := hR i p q hp hq [.lst l]
          have f1 := ix_seq' (seqW_app (g := [.lst l]) hx) hp
          have f2 := ix_seq' (seqW_app (g := [.lst l]) hy) hq
          simp [f1, f2, hRz, hz])
      rw [key]
      simp only [Option.bind_some, eLst_eq, eArgs_nil, List.length_nil, Nat.zero_le, if_true, List.nil_append, List.map_id, gEq_eq]
      have hf : ∃ is : List Int, (rangeW 0 xs.length).filter (fun w => match w with | .int i => !(bs.getD i.toNat true) | _ => false) = is.map enc ∧ (is = [] ↔ bs.all id = true) := by
        refine ⟨((List.range xs.length).filter fun i => !(bs.getD i true)).map fun i => (0 + (i : Nat) : Int), ?_, ?_⟩
        · unfold rangeW
          rw [List.filter_map, List.map_map]
          have hp : ((fun w => match w with | .int i => !(bs.getD i.toNat true) | _ => false) ∘ fun (i : Nat) => W.int (0 + (i : Int))) = fun i => !(bs.getD i true) := by
            funext i
            show (!(bs.getD (0 + (i : Int)).toNat true)) = _
            rw [Int.zero_add, Int.toNat_natCast]
          rw [hp]
          exact List.map_congr_left fun _ _ => rfl
        · rw [List.map_eq_nil_iff, List.filter_eq_nil_iff, List.all_eq_true]
          constructor
          · intro h0 z hz
            obtain ⟨i, hi⟩ := List.getElem?_of_mem hz
            have hil : i < xs.length := by rw [← hbl]; exact (List.getElem?_eq_some_iff.mp hi).1
            have := h0 i (List.mem_range.mpr hil)
            rw [List.getD_eq_getElem?_getD, hi] at this
            simpa using this
          · intro h0 i hi
            have hil : i < bs.length := by rw [hbl]; exact List.mem_range.mp hi
            have := h0 bs[i] (List.getElem_mem hil)
            simp [hil] at this ⊢
            exact this
      obtain ⟨is, hf1, hf2⟩ := hf
      rw [hf1]
      have := eqW_lst (α := Int) (M ++ [.lst (is.map enc)] ++ [.lst []]) M.length (M ++ [MO.lst (is.map enc)]).length is [] (by simp) (by simp)
      refine ⟨[.lst (is.map enc)] ++ [.lst []], ?_⟩
      have hd : decide (is = []) = r := by
        rw [← hr, Bool.eq_iff_iff, decide_eq_true_eq]
        exact hf2
      rw [hd, List.append_assoc] at this
      simp only [this, Option.map_some, Option.bind_some, List.append_assoc]
    · refine ⟨[], ?_⟩
      have k1 : (!decide ((xs.length : Int) = (ys.length : Int))) = true := by simp; omega
      simp only [if_pos k1, Option.bind_some, h3 hl, List.append_nil]
  · refine ⟨[], ?_⟩
    have k1 : (!decide (b = c)) = true := by simp [hb]
    simp only [k1, if_true, Option.bind_some, h2 hb, sRet_eq, eL_eq, List.append_nil]

theorem isScal_closed {w : W} (h : isScal w = true) (n : Nat) : w.closed n = true := by cases w <;> first | rfl | cases h
theorem like_scal1 {M : Mem} {x y : W} {b : Bool} {xs : List W} (R : Fn) (hx : seqW M x = some (b, xs)) (hy : isScal y = true) : ∃ g, c__law_like R [some x, some y, none] M = some (.rt (.bl false) (M ++ g)) := by
  refine ⟨[], ?_⟩
  unfold c__law_like
  cases b <;> simp [isi2_seq hx, isiL_seq hx, isiT_seq hx, isiL_scal hy, isiT_scal hy]
theorem like_scal2 {M : Mem} {x y : W} {b : Bool} {ys : List W} (R : Fn) (hx : isScal x = true) (hy : seqW M y = some (b, ys)) : ∃ g, c__law_like R [some x, some y, none] M = some (.rt (.bl false) (M ++ g)) := by
  refine ⟨[], ?_⟩
  unfold c__law_like
  simp [isi2_scal hx, isi2_seq hy]
theorem like_scal3 {M : Mem} {x y : W} (R : Fn) {r : Bool} (hx : isScal x = true) (hy : isScal y = true) (h : isBl x = isBl y → eqW M x y = some r) (h2 : isBl x ≠ isBl y → r = false) : ∃ g, c__law_like R [some x, some y, none] M = some (.rt (.bl r) (M ++ g)) := by
  refine ⟨[], ?_⟩
  unfold c__law_like
  by_cases hb : isBl x = isBl y
  · simp [isi2_scal hx, isi2_scal hy, isiB_scal hx, isiB_scal hy, hb, h hb]
  · simp [isi2_scal hx, isi2_scal hy, isiB_scal hx, isiB_scal hy, hb, h2 hb]
theorem toD_app {M g : Mem} : ∀ (k : Nat) (x : W) (d : PyData), toD M k x = some d → toD (M ++ g) k x = some d
  | 0, _, _, h => by cases h
  | k + 1, x, d, h => by
    have all : ∀ (ws : List W) (ds : List PyData), mapO (toD M k) ws = some ds → mapO (toD (M ++ g) k) ws = some ds := by
      intro ws
      induction ws with
      | nil => intro ds h; exact h
      | cons w ws ih =>
        intro ds h
        rw [mapO] at h
        split at h
        · rename_i b bs h1 h2
          cases h
          rw [mapO, toD_app k w b h1, ih bs h2]
        · cases h
    cases x with
    | tup ws =>
      rw [toD] at h ⊢
      obtain ⟨ds, h1, rfl⟩ := Option.map_eq_some_iff.mp h
      rw [all ws ds h1]; rfl
    | ref n =>
      rw [toD] at h ⊢
      split at h
      · rename_i ws hw
        obtain ⟨ds, h1, rfl⟩ := Option.map_eq_some_iff.mp h
        rw [get_app hw]
        simp only [all ws ds h1]; rfl
      · rename_i ws hw
        obtain ⟨ds, h1, rfl⟩ := Option.map_eq_some_iff.mp h
        rw [get_app hw]
        simp only [all ws ds h1]; rfl
      · cases h
    | _ => exact h
theorem eqW_app {M g : Mem} {x y : W} {b : Bool} (h : eqW M x y = some b) : eqW (M ++ g) x y = some b := by
  unfold eqW at h
  split at h
  · rename_i d e h1 h2
    cases h
    unfold eqW
    rw [toD_app 64 x d h1, toD_app 64 y e h2]
  · cases h
theorem seqW_none_app {M g : Mem} {x : W} (h : isScal x = true) : seqW M x = none ∧ seqW (M ++ g) x = none := by cases x <;> first | exact ⟨rfl, rfl⟩ | cases h
theorem likeW_grow {M g : Mem} : ∀ (k : Nat) (x y : W) (b : Bool), likeW M k x y = some b → likeW (M ++ g) k x y = some b
  | 0, _, _, _, h => by cases h
  | k + 1, x, y, b, h => by
    rw [likeW] at h ⊢
    split at h
    · rename_i b1 xs hx
      rw [seqW_app hx]
      split at h
      · rename_i c ys hy
        rw [seqW_app hy]
        simp only at h ⊢
        split at h
        · rename_i hb; rw [if_pos hb]; exact h
        · rename_i hb
          rw [if_neg hb]
          split at h
          · rename_i hl; rw [if_pos hl]; exact h
          · rename_i hl
            rw [if_neg hl]
            split at h
            · rename_i h5
              rw [if_pos h5]
              obtain ⟨bs, h1, h2⟩ := Option.map_eq_some_iff.mp h
              have all : ∀ (ps : List (W × W)) (bs : List Bool), mapO (fun p => likeW M k p.1 p.2) ps = some bs → mapO (fun p => likeW (M ++ g) k p.1 p.2) ps = some bs := by
                intro ps
                induction ps with
                | nil => intro ds h; exact h
                | cons w ws ih =>
                  intro ds h
                  rw [mapO] at h
                  split at h
                  · rename_i b bs h1 h2
                    cases h
                    rw [mapO, likeW_grow k w.1 w.2 b h1, ih bs h2]
                  · cases h
              rw [all _ bs h1, ← h2]; rfl
            · cases h
      · rename_i hy
        split at h
        · rename_i hs
          rw [(seqW_none_app (M := M) (g := g) hs).2]
          simp only [if_pos hs]; exact h
        · cases h
    · rename_i hx
      split at h
      · rename_i hs
        rw [(seqW_none_app (M := M) (g := g) hs).2]
        simp only [if_pos hs]
        split at h
        · rename_i hy
          rw [seqW_app hy]; exact h
        · split at h
          · rename_i hy
            rw [(seqW_none_app (M := M) (g := g) hy).2]
            simp only [if_pos hy]
            split at h
            · rename_i hb; rw [if_pos hb]; exact eqW_app h
            · rename_i hb; rw [if_neg hb]; exact h
          · cases h
      · cases h
theorem keeps__law_like (d : Nat) : Keeps 3 (c__law_like (F__law_like d)) (F__law_like (d + 1)) := by
  refine KeepsP.keeps ?_
  intro ws M w M' hc hw e
  unfold F__law_like at e
  split at e
  · rename_i x y
    obtain ⟨r, hr, e2⟩ := Option.map_eq_some_iff.mp e
    cases e2
    have fin : (∃ g, c__law_like (F__law_like d) [some x, some y, none] M = some (.rt (.bl r) (M ++ g))) → ∃ g, (c__law_like (F__law_like d) (([x, y] : List W).map some ++ List.replicate (3 - ([x, y] : List W).length) none) M = some (.rt (.bl r) (M ++ g)) ∨
      W.bl r = .non ∧ ∃ σ', c__law_like (F__law_like d) (([x, y] : List W).map some ++ List.replicate (3 - ([x, y] : List W).length) none) M = some (.nx σ' (M ++ g))) ∧ M.length ≤ M.length ∧ Closed M ∧ (W.bl r).closed M.length = true :=
      fun ⟨g, hg⟩ => ⟨g, .inl hg, Nat.le_refl _, hc, rfl⟩
    refine fin ?_
    rw [likeW] at hr
    split at hr
    · rename_i b xs hx
      split at hr
      · rename_i c ys hy
        refine like_seq _ hx hy (fun h1 h2 => ?_) (fun h1 => ?_) (fun h2 => ?_)
        · subst h1
          rw [if_neg (by simp), if_neg (by simpa using h2)] at hr
          split at hr
          · rename_i h5
            obtain ⟨bs, h3, h4⟩ := Option.map_eq_some_iff.mp hr
            obtain ⟨l1, l2⟩ := mapO_at h3
            refine ⟨h5, bs, by rw [l1, List.length_zip]; omega, h4, fun i p q hp hq g => ?_⟩
            obtain ⟨z, hz, hlk⟩ := l2 i (p, q) (by rw [List.getElem?_zip_eq_some]; exact ⟨hp, hq⟩)
            refine ⟨z, hz, ?_⟩
            show (likeW (M ++ g) d p q).map _ = _
            rw [likeW_grow d p q z hlk]; rfl
          · cases hr
        · rw [if_pos h1] at hr
          cases hr; rfl
        · by_cases h1 : b ≠ c
          · rw [if_pos h1] at hr; cases hr; rfl
          · rw [if_neg h1, if_pos h2] at hr; cases hr; rfl
      · split at hr
        · rename_i hs
          cases hr
          exact like_scal1 _ hx hs
        · cases hr
    · split at hr
      · rename_i hs
        split at hr
        · rename_i hy
          cases hr
          exact like_scal2 _ hs hy
        · split at hr
          · rename_i hs2
            refine like_scal3 _ hs hs2 (fun hb => ?_) (fun hb => ?_)
            · rw [if_pos hb] at hr; exact hr
            · rw [if_neg hb] at hr; cases hr; rfl
          · cases hr
      · cases hr
  · cases e
/-- no tuple in it is long -/
def smallW : Nat → W → Bool
  | 0, _ => false
  | k + 1, .tup ws => decide (ws.length ≤ 100000) && ws.all (smallW k)
  | _ + 1, .non | _ + 1, .bl _ | _ + 1, .int _ | _ + 1, .str _ | _ + 1, .ref _ => true
/-- of list-free values it is equality itself -/
theorem eqP_scal {x y : W} (hx : isScal x = true) (hy : isScal y = true) (hb : isBl x = isBl y) : eqP x y = decide (x = y) := by
  rw [Bool.eq_iff_iff, decide_eq_true_eq]
  cases x <;> cases y <;> simp [isScal, isBl, eqP] at *
theorem likeW_S (M : Mem) (k : Nat) (x y : W) (sx : isScal x = true) (sy : isScal y = true) (hx : okW (k + 1) x = true) (hy : okW (k + 1) y = true) (hk : k + 1 ≤ 64) : likeW M (k + 1) x y = some (decide (x = y)) := by
  rw [likeW, (seqW_none_app (M := M) (g := []) sx).1]
  simp only [sx, if_true]
  rw [(seqW_none_app (M := M) (g := []) sy).1]
  simp only [sy, if_true]
  split
  · rename_i hb
    rw [eqW_P M (okW_mono _ _ hx 64 hk) (okW_mono _ _ hy 64 hk), eqP_scal sx sy hb]
  · rename_i hb
    congr 1
    symm
    rw [decide_eq_false_iff_not]
    intro e
    exact hb (by rw [e])
theorem likeW_P (M : Mem) : ∀ (k : Nat) (x y : W), okW k x = true → okW k y = true → (∀ z, z = x ∨ z = y → smallW k z = true) → k ≤ 64 → likeW M k x y = some (decide (x = y))
  | 0, _, _, h, _, _, _ => by cases h
  | k + 1, x, y, hx, hy, hz, hk => by
    cases x with
    | ref _ => rw [okW] at hx; cases hx
    | tup xs =>
      cases y with
      | ref _ => rw [okW] at hy; cases hy
      | tup ys =>
        rw [okW, List.all_eq_true] at hx hy
        have s1 := hz _ (.inl rfl)
        have s2 := hz _ (.inr rfl)
        rw [smallW, Bool.and_eq_true, List.all_eq_true] at s1 s2
        rw [likeW]
        show (if false ≠ false then some false else if xs.length ≠ ys.length then some false else if xs.length ≤ 100000 then _ else none) = _
        rw [if_neg (by simp)]
        by_cases hl : xs.length = ys.length
        · rw [if_neg (by simpa using hl), if_pos (of_decide_eq_true s1.1)]
          have : ∀ (xs ys : List W), xs.length = ys.length → (∀ x ∈ xs, okW k x = true) → (∀ x ∈ ys, okW k x = true) → (∀ x ∈ xs, smallW k x = true) → (∀ x ∈ ys, smallW k x = true) →
              (mapO (fun p : W × W => likeW M k p.1 p.2) (xs.zip ys)).map (fun bs => bs.all id) = some (decide (xs = ys)) := by
            intro xs
            induction xs with
            | nil => intro ys h _ _ _ _; cases ys with
              | nil => rfl
              | cons _ _ => cases h
            | cons x xs ih =>
              intro ys h a1 a2 a3 a4
              cases ys with
              | nil => cases h
              | cons y ys =>
                have e1 := likeW_P M k x y (a1 x List.mem_cons_self) (a2 y List.mem_cons_self) (fun z hz => hz.elim (fun e => e ▸ a3 x List.mem_cons_self) (fun e => e ▸ a4 y List.mem_cons_self)) (by omega)
                have e2 := ih ys (by simpa using h) (fun z hz => a1 z (List.mem_cons_of_mem _ hz)) (fun z hz => a2 z (List.mem_cons_of_mem _ hz)) (fun z hz => a3 z (List.mem_cons_of_mem _ hz)) (fun z hz => a4 z (List.mem_cons_of_mem _ hz))
                obtain ⟨bs, h1, h2⟩ := Option.map_eq_some_iff.mp e2
                rw [List.zip_cons_cons, mapO, e1, h1]
                simp only [Option.map_some, List.all_cons, id, h2]
                congr 1
                by_cases hxy : x = y <;> by_cases hxs : xs = ys <;> simp [hxy, hxs]
          rw [this xs ys hl hx hy s1.2 s2.2]
          simp
        · rw [if_pos (by simpa using hl)]
          congr 1
          symm
          rw [decide_eq_false_iff_not]
          intro e
          cases e
          exact hl rfl
      | _ => rfl
    | _ => cases y with
      | ref _ => rw [okW] at hy; cases hy
      | tup _ => rfl
      | _ => exact likeW_S M k _ _ rfl rfl hx hy hk
theorem like_enc {α : Type} [Enc α] [DecidableEq α] (d : Nat) (a b : α) (M : Mem) (h1 : dep α ≤ d) (h2 : d ≤ 64) (sa : smallW d (enc a) = true) (sb : smallW d (enc b) = true) : F__law_like d [enc a, enc b] M = some (.bl (decide (a = b)), M) := by
  unfold F__law_like
  simp only
  rw [likeW_P M d _ _ (okW_mono _ _ (ok a) d h1) (okW_mono _ _ (ok b) d h1) (fun z hz => hz.elim (fun e => e ▸ sa) (fun e => e ▸ sb)) h2]
  have : decide ((enc a : W) = enc b) = decide (a = b) := by
    rw [Bool.eq_iff_iff, decide_eq_true_eq, decide_eq_true_eq]
    exact ⟨fun h => Enc.inj h, fun h => by rw [h]⟩
  rw [this]; rfl
theorem F0__law_like (ws : List W) (M : Mem) : F__law_like 0 ws M = none := by
  unfold F__law_like
  split <;> rfl
end BF

set_option Elab.async false
set_option linter.all false
set_option autoImplicit false
set_option maxRecDepth 10000
namespace BF
open PySem Enc
/-! _law_like at lists -/
theorem like_lst {α : Type} [Enc α] [DecidableEq α] (d : Nat) (n m : Nat) (as bs : List α) (M : Mem) (e1 : M[n]? = some (.lst (as.map enc))) (e2 : M[m]? = some (.lst (bs.map enc))) (h1 : dep α ≤ d) (h2 : d + 1 ≤ 64) (sa : ∀ a ∈ as, smallW d (enc a) = true) (sb : ∀ b ∈ bs, smallW d (enc b) = true) (hl : as.length ≤ 100000) :
    F__law_like (d + 1) [.ref n, .ref m] M = some (.bl (decide (as = bs)), M) := by
  have q1 : seqW M (.ref n) = some (true, as.map enc) := by simp [seqW, e1]
  have q2 : seqW M (.ref m) = some (true, bs.map enc) := by simp [seqW, e2]
  have zz : ∀ (as bs : List α), as.length = bs.length → (∀ a ∈ as, smallW d (enc a) = true) → (∀ b ∈ bs, smallW d (enc b) = true) →
      (mapO (fun p : W × W => likeW M d p.1 p.2) ((as.map enc).zip (bs.map enc))).map (fun bs => bs.all id) = some (decide (as = bs)) := by
    intro as
    induction as with
    | nil => intro bs h _ _; cases bs with
      | nil => rfl
      | cons _ _ => cases h
    | cons a as ih => intro bs h ha hb; cases bs with
      | nil => cases h
      | cons b bs =>
        have r := ih bs (by simpa using h) (fun x hx => ha x (List.mem_cons_of_mem _ hx)) fun x hx => hb x (List.mem_cons_of_mem _ hx)
        obtain ⟨us, u1, u2⟩ := Option.map_eq_some_iff.mp r
        have t := likeW_P M d (enc a) (enc b) (okW_mono _ _ (ok a) d h1) (okW_mono _ _ (ok b) d h1) (fun z hz => hz.elim (fun e => e ▸ ha a List.mem_cons_self) (fun e => e ▸ hb b List.mem_cons_self)) (by omega)
        have t2 : decide ((enc a : W) = enc b) = decide (a = b) := by
          rw [Bool.eq_iff_iff, decide_eq_true_eq, decide_eq_true_eq]
          exact ⟨fun h => Enc.inj h, fun h => by rw [h]⟩
        rw [List.map_cons, List.map_cons, List.zip_cons_cons, mapO]
        simp only [t, u1, Option.bind_some, Option.map_some, List.all_cons, id, u2, t2]
        rw [Bool.eq_iff_iff.mpr (show (decide (a = b) && decide (as = bs)) = true ↔ decide (a :: as = b :: bs) = true by simp)]
  unfold F__law_like
  simp only
  rw [likeW, q1, q2]
  simp only [ne_eq, not_true_eq_false, if_false, List.length_map]
  by_cases hlen : as.length = bs.length
  · rw [if_neg (by simpa using hlen), if_pos hl, zz as bs hlen sa sb]; rfl
  · rw [if_pos hlen, show decide (as = bs) = false by rw [decide_eq_false_iff_not]; intro e; exact hlen (by rw [e])]; rfl
theorem lcL_range {α : Type} [Enc α] {gd : Mem → Bool} {g : CG} {e : CE} {vs : List Nat} {σ : Sl} (lo : Int) (n : Nat) (f : Nat → α) (M : Mem) (hl : n ≤ 16777216) (hg : ∀ l, gd (M ++ [.lst l]) = true)
    (h : ∀ i, i < n → ∀ l, ∃ σ1, g (.int (lo + (i : Nat))) (wipe σ vs) = some σ1 ∧ e σ1 (M ++ [.lst l]) = some (enc (f i), M ++ [.lst l])) :
    lcL gd g tTrue e vs σ M.length (rangeW lo n) (M ++ [.lst []]) = some (M ++ [.lst (((List.range n).map f).map enc)]) := by
  have := lcL_pure (gd := gd) (g := g) (e := e) (vs := vs) (σ := σ) (rangeW lo n) (fun w => match w with | .int z => enc (f (z - lo).toNat) | _ => .non) M [] (by rw [rangeW_length]; simpa using hl) hg (by
    intro w hw l
    obtain ⟨i, hi, rfl⟩ := rangeW_mem hw
    obtain ⟨σ1, h1, h2⟩ := h i hi l
    refine ⟨σ1, h1, ?_⟩
    simp only
    rw [show (lo + (i : Int) - lo).toNat = i by omega]
    exact h2)
  rw [this, List.nil_append]
  congr 4
  unfold rangeW
  rw [List.map_map, List.map_map]
  apply List.map_congr_left
  intro i _
  simp only [Function.comp]
  rw [show (lo + (i : Int) - lo).toNat = i by omega]
end BF

set_option Elab.async false
set_option linter.all false
set_option autoImplicit false
set_option maxRecDepth 10000
namespace BF
open PySem Enc
/-! what all laws begin with -/
abbrev pool3 : List Str := ["a", "b", "c"]
theorem keeps_lawT {n : Nat} {body : CS} (h : ∀ ns : List Int, ns.length ≤ 63 → ∃ s g, body (some (.ref 0) :: List.replicate (n - 1) none) [.ro (ns.map W.int)] = some (.rt (.bl true) (TM ns s g))) : Keeps n body lawF := keeps_law fun ns hn => by
  obtain ⟨s, g, e⟩ := h ns hn
  exact ⟨_, e⟩
theorem small_sight (d : Nat) (x : Sight) : smallW (d + 2) (enc x) = true := by simp [enc_sight, smallW]
theorem small_hist (d : Nat) (x : Hist) (h : x.ps.length ≤ 100000) : smallW (d + 3) (enc x) = true := by simp [enc_hist, smallW]; exact h
theorem small_oi (d : Nat) (x : Option Int) : smallW (d + 1) (enc x) = true := by cases x <;> rfl
/-- a law's frame: the tape, the pages, so many turns -/
theorem law_shape {n K : Nat} {B : CS} {pe : CE} {pl : List Str} (hk : small62 (K : Int) = true) (hp : ∀ σ M, pe σ M = some (enc pl, M)) (hn : 4 ≤ n)
    (turn : ∀ ns s g σ, σ.length = n → σ[1]? = some (some (.ref 2)) → σ[2]? = some (some (enc pl)) → ∃ σ2 s' g', B σ (TM ns s g) = some (.nx σ2 (TM ns s' g')) ∧ σ2.length = n ∧ σ2[1]? = some (some (.ref 2)) ∧ σ2[2]? = some (some (enc pl))) :
    Keeps n (sSeq (sSet (gV 1) (eLst [(eN pList [(eV 0)]), (eL (.int 0)), (eL (.int 0))])) (sSeq (sSet (gV 2) pe) (sSeq (sFor (iRange1 (eL (.int K))) (gV 3) B) (sRet (eL (.bl true)))))) lawF := by
  refine keeps_lawT fun ns hl => ?_
  obtain ⟨m, rfl⟩ : ∃ m, n = m + 4 := ⟨n - 4, by omega⟩
  have key := forL_ind (gd := gdT) (g := gV 3) (body := B) (rangeW 0 K) (fun _ σ M => ∃ s g, M = TM ns s g ∧ σ.length = m + 4 ∧ σ[1]? = some (some (.ref 2)) ∧ σ[2]? = some (some (enc pl)))
    (σ := some (.ref 0) :: some (.ref 2) :: some (enc pl) :: none :: List.replicate m none) (M := TM ns (0, 0) []) ⟨_, _, rfl, by simp, rfl, rfl⟩ (fun _ _ _ _ => rfl) (by
    intro i w σ M _ ⟨s, g, hM, hl, h1, h2⟩
    subst hM
    obtain ⟨σ2, s', g', e, l1, l2, l3⟩ := turn ns s g (σ.set 3 (some w)) (by simpa using hl) (by simpa using h1) (by simpa using h2)
    exact ⟨σ.set 3 (some w), rfl, σ2, _, .inl e, _, _, rfl, l1, l2, l3⟩)
  obtain ⟨σ', M', e, s, g, hM, _⟩ := key
  subst hM
  refine ⟨s, g, ?_⟩
  have kl : ns.length ≤ 16777216 := by omega
  have e0 : List.replicate (m + 4 - 1) (none : Option W) = none :: none :: none :: List.replicate m none := rfl
  rw [e0]
  simp only [TM] at e
  simp [hp, e, kl, hk, TM]
theorem law_tape {R : CS} {n : Nat} {ns : List Int} (hl : ns.length ≤ 63) : (sSeq (sSet (gV 1) (eLst [(eN pList [(eV 0)]), (eL (.int 0)), (eL (.int 0))])) R) (some (.ref 0) :: none :: List.replicate n none) [.ro (ns.map W.int)] = R (some (.ref 0) :: some (.ref 2) :: List.replicate n none) (TM ns (0, 0) []) := by
  have kl : ns.length ≤ 16777216 := by omega
  simp [kl, TM]
end BF

set_option Elab.async false
set_option linter.all false
set_option autoImplicit false
set_option maxRecDepth 10000
namespace BF
open PySem Enc
/-! the law's body -/
abbrev b1_law_k03 : CS :=
  (sSeq (sSet (gV 4) (eN F__law_history [(eV 1), (eL (.int 4)), (eV 2)]))
  (sSeq (sFor (iEnumL (eN F__law_layers [(eV 4), (eV 2), (eL (.int 5))])) (gT [(gV 5), (gV 6)]) (sLk (eV 6) (sFor (iKeyN (eV 6)) (gV 7) (sSeq (sIf (tNot (tB (eN (F__law_like 8) [(eN F_distance [(eV 4), (eV 7)]), (eV 5)]))) (sRet (eL (.bl false))) sNil)
  (sIf (tNot (tB (eN (F__law_like 8) [(eN F_count_plans [(eV 4), (eV 7)]), (e2 gGetN (eV 6) (eV 7))]))) (sRet (eL (.bl false))) sNil)))))
  (sSeq (sSet (gV 8) (eIf (tB (e2 gEq (e2 gIx (e2 gIx (eV 4) (eL (.int 0))) (eL (.int 0))) (eL (.str "a")))) (eL (.str "b")) (eL (.str "a"))))
  (sSeq (sSet (gV 9) (eTup [(e2 gAdd (eTup [(eV 8)]) (eSl (e2 gIx (eV 4) (eL (.int 0))) (some (eL (.int 1))) none)), (e2 gIx (eV 4) (eL (.int 1)))]))
  (sSeq (sIf (tOr (tB (e1 gNotN (eN F_distance [(eV 4), (eV 9)]))) (tB (e2 gNe (eN F_count_plans [(eV 4), (eV 9)]) (eL (.int 0))))) (sRet (eL (.bl false))) sNil)
  (sIf (tAnd (tB (e2 gGt (eN pLen [(e2 gIx (eV 4) (eL (.int 0)))]) (eL (.int 1)))) (tB (e1 gNotN (eN F_distance [(eV 4), (eTup [(eSl (e2 gIx (eV 4) (eL (.int 0))) none (some (eL (.int 1)))), (eL (.int 0))])])))) (sRet (eL (.bl false))) sNil))))))
abbrev b2_law_k03 : CS :=
  (sLk (eV 6) (sFor (iKeyN (eV 6)) (gV 7) (sSeq (sIf (tNot (tB (eN (F__law_like 8) [(eN F_distance [(eV 4), (eV 7)]), (eV 5)]))) (sRet (eL (.bl false))) sNil)
  (sIf (tNot (tB (eN (F__law_like 8) [(eN F_count_plans [(eV 4), (eV 7)]), (e2 gGetN (eV 6) (eV 7))]))) (sRet (eL (.bl false))) sNil))))
abbrev b3_law_k03 : CS :=
  (sSeq (sIf (tNot (tB (eN (F__law_like 8) [(eN F_distance [(eV 4), (eV 7)]), (eV 5)]))) (sRet (eL (.bl false))) sNil)
  (sIf (tNot (tB (eN (F__law_like 8) [(eN F_count_plans [(eV 4), (eV 7)]), (e2 gGetN (eV 6) (eV 7))]))) (sRet (eL (.bl false))) sNil))
abbrev N_law_k03 : List Str := ["script", "tape", "pool", "turn", "history", "depth", "layer", "target", "other", "unlike"]
def c_law_k03 : CS :=
  (sSeq (sSet (gV 1) (eLst [(eN pList [(eV 0)]), (eL (.int 0)), (eL (.int 0))]))
  (sSeq (sSet (gV 2) (eTup [(eL (.str "a")), (eL (.str "b"))]))
  (sSeq (sFor (iRange1 (eL (.int 2))) (gV 3) (sSeq (sSet (gV 4) (eN F__law_history [(eV 1), (eL (.int 4)), (eV 2)]))
  (sSeq (sFor (iEnumL (eN F__law_layers [(eV 4), (eV 2), (eL (.int 5))])) (gT [(gV 5), (gV 6)]) (sLk (eV 6) (sFor (iKeyN (eV 6)) (gV 7) (sSeq (sIf (tNot (tB (eN (F__law_like 8) [(eN F_distance [(eV 4), (eV 7)]), (eV 5)]))) (sRet (eL (.bl false))) sNil)
  (sIf (tNot (tB (eN (F__law_like 8) [(eN F_count_plans [(eV 4), (eV 7)]), (e2 gGetN (eV 6) (eV 7))]))) (sRet (eL (.bl false))) sNil)))))
  (sSeq (sSet (gV 8) (eIf (tB (e2 gEq (e2 gIx (e2 gIx (eV 4) (eL (.int 0))) (eL (.int 0))) (eL (.str "a")))) (eL (.str "b")) (eL (.str "a"))))
  (sSeq (sSet (gV 9) (eTup [(e2 gAdd (eTup [(eV 8)]) (eSl (e2 gIx (eV 4) (eL (.int 0))) (some (eL (.int 1))) none)), (e2 gIx (eV 4) (eL (.int 1)))]))
  (sSeq (sIf (tOr (tB (e1 gNotN (eN F_distance [(eV 4), (eV 9)]))) (tB (e2 gNe (eN F_count_plans [(eV 4), (eV 9)]) (eL (.int 0))))) (sRet (eL (.bl false))) sNil)
  (sIf (tAnd (tB (e2 gGt (eN pLen [(e2 gIx (eV 4) (eL (.int 0)))]) (eL (.int 1)))) (tB (e1 gNotN (eN F_distance [(eV 4), (eTup [(eSl (e2 gIx (eV 4) (eL (.int 0))) none (some (eL (.int 1)))), (eL (.int 0))])])))) (sRet (eL (.bl false))) sNil)))))))
  (sRet (eL (.bl true))))))
abbrev pool2 : List Str := ["a", "b"]
theorem loop_keep {gd : Mem → Bool} {g : CG} {body : CS} {M : Mem} (hg : gd M = true) (J : Sl → Prop) : ∀ (ws : List W) (σ : Sl), J σ → (∀ (i : Nat) (w : W), ws[i]? = some w → ∀ σ, J σ → ∃ σ1, g w σ = some σ1 ∧ ∃ σ2, body σ1 M = some (.nx σ2 M) ∧ J σ2) → ∃ σ', forL gd g body ws σ M = some (.nx σ' M) ∧ J σ'
  | [], σ, h0, _ => ⟨σ, forL_nil hg, h0⟩
  | w :: ws, σ, h0, st => by
    obtain ⟨σ1, e1, σ2, e2, h2⟩ := st 0 w rfl σ h0
    obtain ⟨σ', e, h'⟩ := loop_keep hg J ws σ2 h2 fun i w hw => st (i + 1) w hw
    exact ⟨σ', by rw [forL_cons hg e1 e2]; exact e, h'⟩
theorem lay_mem3 (h : Hist) (pool : List Str) (D : Nat) (M : Mem) : (∀ d, d ≤ D → (M ++ layMem h pool D M)[M.length + d]? = some (.dT .nest (rowsD fN (lay h (alph pool) d)))) ∧ (M ++ layMem h pool D M)[M.length + (D + 1)]? = some (.lst ((List.range (D + 1)).map fun i => W.ref (M.length + i))) := by
  refine ⟨fun d hd => ?_, ?_⟩
  · rw [List.getElem?_append_right (by omega), Nat.add_sub_cancel_left]
    unfold layMem layRows
    rw [List.getElem?_append_left (by simp; omega), List.getElem?_map, List.getElem?_map, List.getElem?_range (by omega)]
    rfl
  · rw [List.getElem?_append_right (by omega), Nat.add_sub_cancel_left]
    unfold layMem layRows
    rw [List.getElem?_append_right (by simp)]
    simp
/-- what stands in a layer -/
theorem lay_fact {h t : Hist} {d : Nat} (hv : h.at_ < h.ps.length) (hp : ∀ p ∈ h.ps, p ∈ pool2) (ht : t ∈ (lay h (alph pool2) d).map (·.1)) :
    t.at_ < t.ps.length ∧ distH h t = some (d : Int) ∧ getD' (lay h (alph pool2) d) t = some (countP h t) := by
  obtain ⟨⟨l, h1, h2, h3⟩, h4⟩ := ((layers_spec h (alph pool2) d).2 t).mp ht
  have pl : l.all plain = true := List.all_eq_true.mpr fun a ha => alph_plain _ a (h2 a ha)
  have tv := run_valid l hv pl
  have tp := run_pages l pl hp fun a ha p hm => by
    rcases List.mem_append.mp (h2 a ha) with z | z
    · rcases List.mem_cons.mp z with rfl | z
      · cases hm
      · rw [List.mem_singleton] at z; subst z; cases hm
    · obtain ⟨q, hq, rfl⟩ := List.mem_map.mp z
      have : p = q := by simpa [pageOf] using hm
      exact this ▸ hq
  rw [h3] at tv tp
  obtain ⟨u, u1, u2⟩ := dist_run l (t := t) (v := 0) hv tv pl (by rw [h3]; exact distH_self t)
  have u0 := dist_nonneg hv tv u1
  obtain ⟨n, rfl⟩ : ∃ n : Nat, u = n := ⟨u.toNat, by omega⟩
  have hn : d ≤ n := by
    refine Classical.byContradiction fun z => ?_
    have := many_count n hv tv tp u1
    have hc : countP h t ≠ 0 := by
      unfold countP
      rw [u1, if_neg (by simp)]
      split <;> omega
    exact h4 n (by omega) (many_pos _ n (by rw [this]; exact hc))
  have hnd : n = d := by omega
  subst hnd
  refine ⟨tv, u1, ?_⟩
  rw [lay_count ht, many_count n hv tv tp u1]
theorem one_k03 (M : Mem) (h t : Hist) (d ly : Nat) (L : List (Hist × Nat)) (hv : valid h) (tv : valid t) (hl : h.ps.length ≤ 900) (tl : t.ps.length ≤ 900) (hd : distH h t = some (d : Int)) (hc : getD' L t = some (countP h t)) (hM : nestAt M ly = some (rowsD fN L)) (s0 s1 s2 s3 s8 s9 : Option W) :
    b3_law_k03 [s0, s1, s2, s3, some (enc h), some (.int (d : Int)), some (.ref ly), some (enc t), s8, s9] M = some (.nx [s0, s1, s2, s3, some (enc h), some (.int (d : Int)), some (.ref ly), some (enc t), s8, s9] M) := by
  have f1 := distance_ok M hv tv hl tl
  rw [hd] at f1
  simp only [enc_os] at f1
  have f2 := count_ok M hv tv hl tl
  have f3 := like_enc 8 (d : Int) (d : Int) M (by decide) (by decide) rfl rfl
  have f4 := like_enc 8 ((countP h t : Nat) : Int) ((countP h t : Nat) : Int) M (by decide) (by decide) rfl rfl
  simp only [enc_int, decide_true] at f3 f4
  have f5 := gGetN_enc (f := fN) hM hc
  have f6 : gGetN M (.ref ly) (enc t) = some (.int ((countP h t : Nat) : Int), M) := f5
  simp [f1, f2, f3, f4, f6]
theorem turn_k03 (ns : List Int) (s : Dr) (g : Mem) (s0 s3 s4 s5 s6 s7 s8 s9 : Option W) : ∃ σ2 s' g', b1_law_k03 [s0, some (.ref 2), some (enc pool2), s3, s4, s5, s6, s7, s8, s9] (TM ns s g) = some (.nx σ2 (TM ns s' g')) ∧ σ2.length = 10 ∧ σ2[1]? = some (some (.ref 2)) ∧ σ2[2]? = some (some (enc pool2)) := by
  have f1 := lhist_ok ns 4 pool2 s g (by omega) (by omega) (by decide) (by decide)
  have rm := histD_roomy ns 4 pool2 s (by omega) (by omega)
  have hl := histD_len ns 4 pool2 s (by omega)
  have hpg := histD_pages ns 4 pool2 s (by decide)
  generalize histD ns 4 pool2 s = hq at f1 rm hl hpg
  obtain ⟨h, s1⟩ := hq
  simp only at f1 rm hl hpg
  have hv : valid h := ⟨rm.1, by omega⟩
  have q4 : ((4 : Nat) : Int) = 4 := rfl
  rw [q4] at f1
  obtain ⟨M1, hM1⟩ : ∃ M1, M1 = TM ns s1 g := ⟨_, rfl⟩
  have hlo := layers_ok (h := h) (pool := pool2) (D := 5) M1 ⟨rm, by decide, by omega⟩
  obtain ⟨lm1, lm2⟩ := lay_mem3 h pool2 5 M1
  obtain ⟨M2, hM2⟩ : ∃ M2, M2 = M1 ++ layMem h pool2 5 M1 := ⟨_, rfl⟩
  rw [← hM2] at hlo lm1 lm2
  obtain ⟨σ', el, s5', s6', s7', rfl⟩ := loop_keep (gd := fun M' => decide (M'[M1.length + (5 + 1)]? = some (.lst ((List.range (5 + 1)).map fun i => W.ref (M1.length + i))))) (g := gT [(gV 5), (gV 6)]) (body := b2_law_k03) (M := M2) (decide_eq_true lm2)
    (fun σ => ∃ s5 s6 s7, σ = [s0, some (.ref 2), some (enc pool2), s3, some (enc h), s5, s6, s7, s8, s9]) (enumW ((List.range (5 + 1)).map fun i => W.ref (M1.length + i))) [s0, some (.ref 2), some (enc pool2), s3, some (enc h), s5, s6, s7, s8, s9] ⟨_, _, _, rfl⟩ (by
    rintro i w hw σ ⟨s5, s6, s7, rfl⟩
    obtain ⟨x, hx, rfl⟩ := enumW_get hw
    have hi : i < 6 := by have := (List.getElem?_eq_some_iff.mp hx).1; simpa using this
    rw [List.getElem?_map, List.getElem?_range (by omega)] at hx
    have hx2 : x = W.ref (M1.length + i) := (Option.some.inj hx).symm
    subst hx2
    have y1 := lm1 i (by omega)
    obtain ⟨M4, hM4⟩ : ∃ M4, M4 = M2.set (M1.length + i) (.dT .lockN (rowsD fN (lay h (alph pool2) i))) := ⟨_, rfl⟩
    have y4 : M4[M1.length + i]? = some (.dT .lockN (rowsD fN (lay h (alph pool2) i))) := by rw [hM4, List.getElem?_set_self (mem_lt y1)]
    obtain ⟨σ', ek, s7', rfl⟩ := loop_keep (gd := gdT) (g := gV 7) (body := b3_law_k03) (M := M4) rfl (fun σ => ∃ s7, σ = [s0, some (.ref 2), some (enc pool2), s3, some (enc h), some (.int (i : Int)), some (.ref (M1.length + i)), s7, s8, s9]) (((lay h (alph pool2) i).map (·.1)).map enc) [s0, some (.ref 2), some (enc pool2), s3, some (enc h), some (.int (i : Int)), some (.ref (M1.length + i)), s7, s8, s9] ⟨_, rfl⟩ (by
      rintro j w hw σ ⟨s7, rfl⟩
      rw [List.getElem?_map] at hw
      obtain ⟨t, hti, rfl⟩ := Option.map_eq_some_iff.mp hw
      have ht := List.mem_of_getElem? hti
      obtain ⟨a1, a2, a3⟩ := lay_fact rm.1 hpg ht
      have tr := lay_valid (pool := pool2) rm i (by omega) t ht
      exact ⟨_, rfl, _, one_k03 M4 h t i (M1.length + i) _ hv ⟨tr.1, by have := tr.2; omega⟩ (by omega) (by have := tr.2; omega) a2 a3 (nestAt_of (.inr y4)) s0 (some (.ref 2)) (some (enc pool2)) s3 s8 s9, _, rfl⟩)
    have rk : (rowsD fN (lay h (alph pool2) i)).map (·.1) = ((lay h (alph pool2) i).map (·.1)).map enc := by unfold rowsD; rw [List.map_map, List.map_map]; rfl
    have sl := sLk_N (c := eV 6) (b := sFor (iKeyN (eV 6)) (gV 7) b3_law_k03) (σ := [s0, some (.ref 2), some (enc pool2), s3, some (enc h), some (.int (i : Int)), some (.ref (M1.length + i)), s7, s8, s9]) (M := M2) (M0 := M2) (n := M1.length + i) (ws' := rowsD fN (lay h (alph pool2) i)) rfl y1 (by
      rw [← hM4, sFor_eq, iKeyN_eq (M' := M4) (n := M1.length + i) rfl y4, rk]
      exact ek) y4
    rw [hM4, List.set_set, set_same y1] at sl
    exact ⟨_, rfl, _, sl, _, _, _, rfl⟩)
  have hb : b1_law_k03 = sSeq (sSet (gV 4) (eN F__law_history [(eV 1), (eL (.int 4)), (eV 2)])) (sSeq (sFor (iEnumL (eN F__law_layers [(eV 4), (eV 2), (eL (.int 5))])) (gT [(gV 5), (gV 6)]) b2_law_k03)
    (sSeq (sSet (gV 8) (eIf (tB (e2 gEq (e2 gIx (e2 gIx (eV 4) (eL (.int 0))) (eL (.int 0))) (eL (.str "a")))) (eL (.str "b")) (eL (.str "a"))))
    (sSeq (sSet (gV 9) (eTup [(e2 gAdd (eTup [(eV 8)]) (eSl (e2 gIx (eV 4) (eL (.int 0))) (some (eL (.int 1))) none)), (e2 gIx (eV 4) (eL (.int 1)))]))
    (sSeq (sIf (tOr (tB (e1 gNotN (eN F_distance [(eV 4), (eV 9)]))) (tB (e2 gNe (eN F_count_plans [(eV 4), (eV 9)]) (eL (.int 0))))) (sRet (eL (.bl false))) sNil)
    (sIf (tAnd (tB (e2 gGt (eN pLen [(e2 gIx (eV 4) (eL (.int 0)))]) (eL (.int 1)))) (tB (e1 gNotN (eN F_distance [(eV 4), (eTup [(eSl (e2 gIx (eV 4) (eL (.int 0))) none (some (eL (.int 1)))), (eL (.int 0))])])))) (sRet (eL (.bl false))) sNil))))) := rfl
  obtain ⟨p, ps, hps⟩ : ∃ p ps, h.ps = p :: ps := by
    cases hq : h.ps with
    | nil => have := rm.1; rw [hq] at this; simp at this
    | cons p ps => exact ⟨p, ps, rfl⟩
  have hpm : p = ("a" : Str) ∨ p = ("b" : Str) := by
    have := hpg p (by rw [hps]; exact List.mem_cons_self)
    rcases List.mem_cons.mp this with e | e
    · exact .inl e
    · rw [List.mem_singleton] at e; exact .inr e
  obtain ⟨o, ho⟩ : ∃ o : Str, o = if p = ("a" : Str) then ("b" : Str) else ("a" : Str) := ⟨_, rfl⟩
  have hop : p ≠ o := by
    rcases hpm with rfl | rfl
    · rw [ho, if_pos rfl]; decide
    · rw [ho, if_neg (by decide)]; decide
  have hlen : h.ps.length = ps.length + 1 := by rw [hps]; rfl
  have hat : h.at_ < ps.length + 1 := by rw [← hlen]; exact rm.1
  have uv : valid ⟨o :: ps, h.at_⟩ := ⟨hat, by simp only [List.length_cons]; omega⟩
  have d1 := distance_ok (h := h) (t := ⟨o :: ps, h.at_⟩) M2 hv uv (by omega) (by simp only [List.length_cons]; omega)
  have d2 := count_ok (h := h) (t := ⟨o :: ps, h.at_⟩) M2 hv uv (by omega) (by simp only [List.length_cons]; omega)
  have n1 : distH h ⟨o :: ps, h.at_⟩ = none := by
    unfold distH
    rw [if_neg (by rw [hps]; simp; exact hop), if_pos]
    show min (commonN h.ps (o :: ps)) _ = 0
    rw [hps, commonN, if_neg hop]; exact Nat.zero_min _
  have n2 : countP h ⟨o :: ps, h.at_⟩ = 0 := by unfold countP; rw [if_pos n1]
  rw [n1] at d1
  rw [n2] at d2
  simp only [enc_on] at d1
  rw [enc_hist (⟨o :: ps, h.at_⟩ : Hist)] at d1 d2
  simp only [List.map_cons] at d1 d2
  have d3 : 0 < ps.length → F_distance [enc h, .tup [.tup [.str p], .int 0]] M2 = some (.non, M2) := fun hz => by
    have := distance_ok (h := h) (t := ⟨[p], 0⟩) M2 hv ⟨by simp, by simp⟩ (by omega) (by simp)
    have n3 : distH h ⟨[p], 0⟩ = none := by
      unfold distH
      rw [if_neg (by rw [hps]; intro z; cases z; exact absurd hz (Nat.lt_irrefl _)), if_pos]
      exact Nat.min_zero _
    rw [n3] at this
    exact this
  refine ⟨[s0, some (.ref 2), some (enc pool2), s3, some (enc h), s5', s6', s7', some (.str o), some (.tup [.tup (.str o :: ps.map W.str), .int h.at_])], s1, g ++ layMem h pool2 5 M1, ?_, rfl, rfl, rfl⟩
  rw [← TM_append, ← hM1, ← hM2]
  have z1 : (sSet (gV 4) (eN F__law_history [(eV 1), (eL (.int 4)), (eV 2)])) [s0, some (.ref 2), some (enc pool2), s3, s4, s5, s6, s7, s8, s9] (TM ns s g) = some (.nx [s0, some (.ref 2), some (enc pool2), s3, some (enc h), s5, s6, s7, s8, s9] M1) := by
    rw [hM1]; simp [f1]
  have z2 : (sFor (iEnumL (eN F__law_layers [(eV 4), (eV 2), (eL (.int 5))])) (gT [(gV 5), (gV 6)]) b2_law_k03) [s0, some (.ref 2), some (enc pool2), s3, some (enc h), s5, s6, s7, s8, s9] M1 = some (.nx [s0, some (.ref 2), some (enc pool2), s3, some (enc h), s5', s6', s7', s8, s9] M2) := by
    rw [← el]
    have q5 : ((5 : Nat) : Int) = 5 := rfl
    rw [q5] at hlo
    simp only [sFor_eq, iEnumL_eq, eN_eq, eArgs_cons, eArgs_nil, eV_eq, eL_eq, List.getD_cons_zero, List.getD_cons_succ, Option.bind_some, hlo]
    simp only [Nat.reduceAdd] at lm2
    simp only [Nat.reduceAdd, lm2, Option.bind_some]
  rw [hb, sSeq_eq, z1, Option.bind_some]
  simp only []
  rw [sSeq_eq, z2, Option.bind_some]
  simp only []
  have z3 : (sSet (gV 8) (eIf (tB (e2 gEq (e2 gIx (e2 gIx (eV 4) (eL (.int 0))) (eL (.int 0))) (eL (.str "a")))) (eL (.str "b")) (eL (.str "a")))) [s0, some (.ref 2), some (enc pool2), s3, some (enc h), s5', s6', s7', s8, s9] M2 = some (.nx [s0, some (.ref 2), some (enc pool2), s3, some (enc h), s5', s6', s7', some (.str o), s9] M2) := by
    have i0 : ixW (ps.length + 1) 0 = some 0 := ixW_nat (j := 0) (by omega)
    by_cases hpa : p = ("a" : Str)
    · rw [ho, if_pos hpa]
      simp [enc_hist h, hps, hpa, i0]
    · rw [ho, if_neg hpa]
      simp [enc_hist h, hps, hpa, i0]
  rw [sSeq_eq, z3, Option.bind_some]
  simp only []
  have z4 : (sSet (gV 9) (eTup [(e2 gAdd (eTup [(eV 8)]) (eSl (e2 gIx (eV 4) (eL (.int 0))) (some (eL (.int 1))) none)), (e2 gIx (eV 4) (eL (.int 1)))])) [s0, some (.ref 2), some (enc pool2), s3, some (enc h), s5', s6', s7', some (.str o), s9] M2 = some (.nx [s0, some (.ref 2), some (enc pool2), s3, some (enc h), s5', s6', s7', some (.str o), some (.tup [.tup (.str o :: ps.map W.str), .int h.at_])] M2) := by
    have hb1 : 1 + ps.length ≤ 16777216 := by omega
    have hc : cutW (W.str p :: List.map W.str ps) (some 1) none = ps.map W.str := cutW_lo (W.str p :: List.map W.str ps) 1
    simp [enc_hist h, hps, hc, hb1]
  rw [sSeq_eq, z4, Option.bind_some]
  simp only []
  have z5 : (sIf (tOr (tB (e1 gNotN (eN F_distance [(eV 4), (eV 9)]))) (tB (e2 gNe (eN F_count_plans [(eV 4), (eV 9)]) (eL (.int 0))))) (sRet (eL (.bl false))) sNil) [s0, some (.ref 2), some (enc pool2), s3, some (enc h), s5', s6', s7', some (.str o), some (.tup [.tup (.str o :: ps.map W.str), .int h.at_])] M2 = some (.nx [s0, some (.ref 2), some (enc pool2), s3, some (enc h), s5', s6', s7', some (.str o), some (.tup [.tup (.str o :: ps.map W.str), .int h.at_])] M2) := by
    simp [d1, d2]
  rw [sSeq_eq, z5, Option.bind_some]
  simp only []
  have hc1 : cutW (W.str p :: List.map W.str ps) none (some 1) = [W.str p] := cutW_hi (W.str p :: List.map W.str ps) 1
  have a0 : ∀ M : Mem, gIx M (enc h) (.int 0) = some (.tup (.str p :: ps.map W.str), M) := fun M => by simp [enc_hist h, hps]
  by_cases hz : 0 < ps.length
  · have d3 := d3 hz
    simp [a0, hc1, d3, hz]
  · have hz' : ¬ (1 < (ps.length : Int) + 1) := by omega
    simp [a0, hz']
theorem keeps_law_k03 : Keeps 10 c_law_k03 lawF := by
  refine law_shape (pl := pool2) rfl (fun σ M => by simp [enc_list]) (by omega) fun ns s g σ hl h1 h2 => ?_
  match σ, hl, h1, h2 with
  | [s0, s1, s2, s3, s4, s5, s6, s7, s8, s9], _, h1, h2 =>
    cases h1
    cases h2
    exact turn_k03 ns s g s0 s3 s4 s5 s6 s7 s8 s9
end BF

namespace BF
open PySem PySem.Spec
open PyProof.Rows L2
/-! ### the text of k03 -/
def topS (i : Nat) : Stmt := PySem.Challenge.pw_backforward_k03_whole_distances_by_searc.main.body.getD i (.Pass ⟨0, 0, 0, 0⟩)
abbrev s__law_draw : Stmt := topS 7
theorem sc__law_draw : FnScope N__law_draw ["tape", "many"] (defScope s__law_draw) := ⟨rfl, rfl, rfl, by decide +kernel, rfl, by decide +kernel, by decide +kernel⟩
theorem bi__law_draw : BindsAll "_law_draw" s__law_draw ["tape", "many"] := fun _ _ _ _ _ _ us hl => match us, hl with | [_, _], _ => rfl
abbrev s__law_history : Stmt := topS 9
theorem sc__law_history : FnScope N__law_history ["tape", "most", "pool"] (defScope s__law_history) := ⟨rfl, rfl, rfl, by decide +kernel, rfl, by decide +kernel, by decide +kernel⟩
theorem bi__law_history : BindsAll "_law_history" s__law_history ["tape", "most", "pool"] := fun _ _ _ _ _ _ us hl => match us, hl with | [_, _, _], _ => rfl
abbrev s__law_alphabet : Stmt := topS 11
theorem sc__law_alphabet : FnScope N__law_alphabet ["pool"] (defScope s__law_alphabet) := ⟨rfl, rfl, rfl, by decide +kernel, rfl, by decide +kernel, by decide +kernel⟩
theorem bi__law_alphabet : BindsAll "_law_alphabet" s__law_alphabet ["pool"] := fun _ _ _ _ _ _ us hl => match us, hl with | [_], _ => rfl
abbrev s__law_step : Stmt := topS 10
theorem sc__law_step : FnScope N__law_step ["history", "action"] (defScope s__law_step) := ⟨rfl, rfl, rfl, by decide +kernel, rfl, by decide +kernel, by decide +kernel⟩
theorem bi__law_step : BindsAll "_law_step" s__law_step ["history", "action"] := fun _ _ _ _ _ _ us hl => match us, hl with | [_, _], _ => rfl
abbrev s__law_layers : Stmt := topS 12
theorem sc__law_layers : FnScope N__law_layers ["history", "pool", "depth"] (defScope s__law_layers) := ⟨rfl, rfl, rfl, by decide +kernel, rfl, by decide +kernel, by decide +kernel⟩
theorem bi__law_layers : BindsAll "_law_layers" s__law_layers ["history", "pool", "depth"] := fun _ _ _ _ _ _ us hl => match us, hl with | [_, _, _], _ => rfl
abbrev s__law_like : Stmt := topS 8
theorem sc__law_like : FnScope N__law_like ["one", "two"] (defScope s__law_like) := ⟨rfl, rfl, rfl, by decide +kernel, rfl, by decide +kernel, by decide +kernel⟩
theorem bi__law_like : BindsAll "_law_like" s__law_like ["one", "two"] := fun _ _ _ _ _ _ us hl => match us, hl with | [_, _], _ => rfl
abbrev s_common : Stmt := topS 1
theorem sc_common : FnScope N_common ["one", "other"] (defScope s_common) := ⟨rfl, rfl, rfl, by decide +kernel, rfl, by decide +kernel, by decide +kernel⟩
theorem bi_common : BindsAll "common" s_common ["one", "other"] := fun _ _ _ _ _ _ us hl => match us, hl with | [_, _], _ => rfl
abbrev s_kept_pages : Stmt := topS 2
theorem sc_kept_pages : FnScope N_kept_pages ["history", "target"] (defScope s_kept_pages) := ⟨rfl, rfl, rfl, by decide +kernel, rfl, by decide +kernel, by decide +kernel⟩
theorem bi_kept_pages : BindsAll "kept_pages" s_kept_pages ["history", "target"] := fun _ _ _ _ _ _ us hl => match us, hl with | [_, _], _ => rfl
abbrev s_distance : Stmt := topS 3
theorem sc_distance : FnScope N_distance ["history", "target"] (defScope s_distance) := ⟨rfl, rfl, rfl, by decide +kernel, rfl, by decide +kernel, by decide +kernel⟩
theorem bi_distance : BindsAll "distance" s_distance ["history", "target"] := fun _ _ _ _ _ _ us hl => match us, hl with | [_, _], _ => rfl
abbrev s_most_forward : Stmt := topS 4
theorem sc_most_forward : FnScope N_most_forward ["history", "target"] (defScope s_most_forward) := ⟨rfl, rfl, rfl, by decide +kernel, rfl, by decide +kernel, by decide +kernel⟩
theorem bi_most_forward : BindsAll "most_forward" s_most_forward ["history", "target"] := fun _ _ _ _ _ _ us hl => match us, hl with | [_, _], _ => rfl
abbrev s_count_plans : Stmt := topS 5
theorem sc_count_plans : FnScope N_count_plans ["history", "target"] (defScope s_count_plans) := ⟨rfl, rfl, rfl, by decide +kernel, rfl, by decide +kernel, by decide +kernel⟩
theorem bi_count_plans : BindsAll "count_plans" s_count_plans ["history", "target"] := fun _ _ _ _ _ _ us hl => match us, hl with | [_, _], _ => rfl
abbrev s_law : Stmt := topS 13
theorem sc_law : FnScope N_law_k03 ["script"] (defScope s_law) := ⟨rfl, rfl, rfl, by decide +kernel, rfl, by decide +kernel, by decide +kernel⟩
theorem bi_law : BindsAll "law" s_law ["script"] := fun _ _ _ _ _ _ us hl => match us, hl with | [_], _ => rfl
section
variable {P : Program} {w : World} {K : PySem.W.Frag} {mg : Str → Option Value} {base : Heap}
theorem kn__law_draw (D : DefAt K mg "_law_draw" s__law_draw) (z_len : mg "len" = none) : Known P w K mg base 1 "_law_draw" ["tape", "many"] F__law_draw :=
  known D sc__law_draw bi__law_draw keeps__law_draw fun f cdv A outer s H E hr =>
  (ss_cons (s_set 2 sc__law_draw.nd r_int)
  (ss_cons (s_if (t_cmp op_lt l_lt (r_ix ix_seq l_ix (r_var 0) r_int) (r_var 1) (nomark _)) (ss_cons (s_set 3 sc__law_draw.nd r_int)
  (ss_cons (s_if (t_cmp op_gt l_gt (r_callB call_len_seq n_len (by rfl) z_len (by decide +kernel) (a_cons (r_ix ix_seq l_ix (r_var 0) r_int) a_nil)) r_int (nomark _)) (ss_one (s_set 3 sc__law_draw.nd (r_ix ix_seq l_ix (r_ix ix_seq l_ix (r_var 0) r_int) (r_op op_mod l_mod (r_ix ix_seq l_ix (r_var 0) r_int) (r_callB call_len_seq n_len (by rfl) z_len (by decide +kernel) (a_cons (r_ix ix_seq l_ix (r_var 0) r_int) a_nil)))))) ss_nil)
  (ss_cons (s_if (t_w (w_or (t_cmp op_ge l_ge (r_ix ix_seq l_ix (r_var 0) r_int) (r_callB call_len_seq n_len (by rfl) z_len (by decide +kernel) (a_cons (r_ix ix_seq l_ix (r_var 0) r_int) a_nil)) (nomark _)) (w_one (t_cmp op_lt l_lt (r_var 3) (r_op op_pow l_pow r_int r_int) (nomark _))))) (ss_cons (s_set 3 sc__law_draw.nd (r_op op_mod l_mod (r_op o_add l_add (r_var 3) (r_op op_mul l_mul r_int (r_ix ix_seq l_ix (r_var 0) r_int))) (r_var 2)))
  (ss_cons (s_set 3 sc__law_draw.nd (r_op op_mod l_mod (r_op o_add l_add (r_op o_add l_add (r_op op_mul l_mul (r_var 3) (r_var 3)) (r_op op_mul l_mul r_int (r_var 3))) r_int) (r_var 2)))
  (ss_one (s_set 3 sc__law_draw.nd (r_op op_mod l_mod (r_op o_add l_add (r_op op_mul l_mul (r_var 3) (r_var 3)) r_int) (r_var 2)))))) ss_nil)
  (ss_cons (s_put set_list p_lst (r_op o_add l_add (r_ix ix_seq l_ix (r_var 0) r_int) r_int) (r_var 0) r_int)
  (ss_one (s_put set_list p_lst (r_var 3) (r_var 0) r_int)))))) ss_nil)
  (ss_cons (s_set 4 sc__law_draw.nd (r_op op_mod l_mod (r_ix ix_seq l_ix (r_var 0) r_int) (r_var 1)))
  (ss_cons (s_put set_list p_lst (r_op op_fdivW l_div (r_ix ix_seq l_ix (r_var 0) r_int) (r_var 1)) (r_var 0) r_int)
  (ss_one (s_ret (r_var 4)))))))
theorem kn__law_history (D : DefAt K mg "_law_history" s__law_history) (G__law_draw : Known P w K mg base 1 "_law_draw" ["tape", "many"] F__law_draw) (z_tuple : mg "tuple" = none) (z_range : mg "range" = none) (z_len : mg "len" = none) : Known P w K mg base 2 "_law_history" ["tape", "most", "pool"] F__law_history :=
  known D sc__law_history bi__law_history keeps__law_history fun f cdv A outer s H E hr =>
  (ss_cons (s_set 3 sc__law_history.nd (r_op o_add l_add r_int (r_callK G__law_draw (hr.mono (by decide)) (by rfl) (a_cons (r_var 0) (a_cons (r_var 1) a_nil)))))
  (ss_cons (s_set 4 sc__law_history.nd (r_callTy call_tuple_of n_tuple (by rfl) z_tuple (by decide +kernel) (a_cons (r_lc (own := [("k", 5)]) sc__law_history.nd (i_range1 (by rfl) z_range (a_cons (r_var 3) a_nil)) (by kernel_rfl) (fun _ _ _ _ _ => (gw_name 5 sc__law_history.nd)) (fun _ _ _ _ _ => ts_nil) (fun _ _ _ _ _ => (r_ix ix_seq l_ix (r_var 2) (r_callK G__law_draw (hr.mono (by decide)) (by rfl) (a_cons (r_var 0) (a_cons (r_callB call_len_seq n_len (by rfl) z_len (by decide +kernel) (a_cons (r_var 2) a_nil)) a_nil)))))) a_nil)))
  (ss_one (s_ret (r_tup (a_cons (r_var 4) (a_cons (r_callK G__law_draw (hr.mono (by decide)) (by rfl) (a_cons (r_var 0) (a_cons (r_var 3) a_nil))) a_nil)))))))
theorem kn__law_alphabet (D : DefAt K mg "_law_alphabet" s__law_alphabet)  : Known P w K mg base 1 "_law_alphabet" ["pool"] F__law_alphabet :=
  known D sc__law_alphabet bi__law_alphabet keeps__law_alphabet fun f cdv A outer s H E hr =>
  (ss_one (s_ret (r_op o_add l_add (r_lst (a_cons (r_tup (a_cons r_str a_nil)) (a_cons (r_tup (a_cons r_str a_nil)) a_nil))) (r_lc (own := [("page", 1)]) sc__law_alphabet.nd (i_tup (r_var 0)) (by kernel_rfl) (fun _ _ _ _ _ => (gw_name 1 sc__law_alphabet.nd)) (fun _ _ _ _ _ => ts_nil) (fun _ _ _ _ _ => (r_tup (a_cons r_str (a_cons (r_var 1) a_nil))))))))
theorem kn__law_step (D : DefAt K mg "_law_step" s__law_step) (z_list : mg "list" = none) (z_tuple : mg "tuple" = none) (z_len : mg "len" = none) : Known P w K mg base 1 "_law_step" ["history", "action"] F__law_step :=
  known D sc__law_step bi__law_step keeps__law_step fun f cdv A outer s H E hr =>
  (ss_cons (s_asg (r_var 0) (g_tup rfl (gs_cons (g_name 2 sc__law_step.nd) (gs_cons (g_name 3 sc__law_step.nd) gs_nil))))
  (ss_cons (s_par2 4 5 rfl sc__law_step.nd (a_cons (r_callTy call_list_of n_list (by rfl) z_list (by decide +kernel) (a_cons (r_sl o_sl l_sl (r_var 2) o_none (o_some (r_var 3))) a_nil)) (a_cons (r_callTy call_list_of n_list (by rfl) z_list (by decide +kernel) (a_cons (r_sl o_sl l_sl (r_var 2) (o_some (r_op o_add l_add (r_var 3) r_int)) o_none) a_nil)) a_nil)))
  (ss_cons (s_set 6 sc__law_step.nd (r_ix ix_seq l_ix (r_var 2) (r_var 3)))
  (ss_cons (s_if (t_cmp (op_eqD (hu64 hr)) l_eq (r_ix ix_seq l_ix (r_var 1) r_int) r_str (nomark _)) (ss_one (s_par3 4 6 5 rfl sc__law_step.nd (a_cons (r_op o_add l_add (r_var 4) (r_lst (a_cons (r_var 6) a_nil))) (a_cons (r_ix ix_seq l_ix (r_var 1) r_int) (a_cons (r_lst a_nil) a_nil))))) (ss_one (s_if (t_w (w_and (t_cmp (op_eqD (hu64 hr)) l_eq (r_ix ix_seq l_ix (r_var 1) r_int) r_str (nomark _)) (w_one (t_cmp (op_neD (hu64 hr)) l_ne (r_var 4) (r_lst a_nil) (nomark _))))) (ss_cons (s_set 5 sc__law_step.nd (r_op o_add l_add (r_lst (a_cons (r_var 6) a_nil)) (r_var 5)))
  (ss_one (s_set 6 sc__law_step.nd (r_meth0 PySem.F.slot_list_pop PySem.F.type_list_pop mt_pop m_pop (r_var 4))))) (ss_one (s_if (t_w (w_and (t_cmp (op_eqD (hu64 hr)) l_eq (r_ix ix_seq l_ix (r_var 1) r_int) r_str (nomark _)) (w_one (t_cmp (op_neD (hu64 hr)) l_ne (r_var 5) (r_lst a_nil) (nomark _))))) (ss_cons (s_set 4 sc__law_step.nd (r_op o_add l_add (r_var 4) (r_lst (a_cons (r_var 6) a_nil))))
  (ss_one (s_set 6 sc__law_step.nd (r_meth PySem.F.slot_list_pop PySem.F.type_list_pop mt_popAt m_popAt (r_var 5) (a_cons r_int a_nil))))) ss_nil)))))
  (ss_one (s_ret (r_tup (a_cons (r_callTy call_tuple_of n_tuple (by rfl) z_tuple (by decide +kernel) (a_cons (r_op o_add l_add (r_op o_add l_add (r_var 4) (r_lst (a_cons (r_var 6) a_nil))) (r_var 5)) a_nil)) (a_cons (r_callB call_len_seq n_len (by rfl) z_len (by decide +kernel) (a_cons (r_var 4) a_nil)) a_nil)))))))))
theorem kn__law_layers (D : DefAt K mg "_law_layers" s__law_layers) (G__law_alphabet : Known P w K mg base 1 "_law_alphabet" ["pool"] F__law_alphabet) (G__law_step : Known P w K mg base 1 "_law_step" ["history", "action"] F__law_step) (z_range : mg "range" = none) : Known P w K mg base 2 "_law_layers" ["history", "pool", "depth"] F__law_layers :=
  known D sc__law_layers bi__law_layers keeps__law_layers fun f cdv A outer s H E hr =>
  (ss_cons (s_par2 3 4 rfl sc__law_layers.nd (a_cons (r_ndisp (hu64 hr) (r_var 0) r_bl) (a_cons (r_lst (a_cons (r_ndisp (hu64 hr) (r_var 0) r_int) a_nil)) a_nil)))
  (ss_cons (s_for (i_range1 (by rfl) z_range (a_cons (r_var 2) a_nil)) (g_name 5 sc__law_layers.nd) (ss_cons (s_set 6 sc__law_layers.nd r_dictN)
  (ss_cons (s_lock (e2 gIx (eV 4) (e1 gNeg (eL (.int 1)))) (s_for (i_keyN (r_ix ix_seq l_ix (r_var 4) (r_un un_neg l_neg r_int))) (g_name 7 sc__law_layers.nd) (ss_one (s_for (i_lst (r_callK G__law_alphabet (hr.mono (by decide)) (by rfl) (a_cons (r_var 1) a_nil))) (g_name 8 sc__law_layers.nd) (ss_cons (s_set 9 sc__law_layers.nd (r_callK G__law_step (hr.mono (by decide)) (by rfl) (a_cons (r_var 7) (a_cons (r_var 8) a_nil))))
  (ss_one (s_if (t_cmp (op_nnotin (hu64 hr)) l_notInN (r_var 9) (r_var 3) (by rfl)) (ss_one (s_put (o_nput (hu64 hr)) p_nput (r_op o_add l_add (r_getN2 (hu64 hr) (r_var 6) (r_var 9) r_int) (r_getN (hu64 hr) (r_ix ix_seq l_ix (r_var 4) (r_un un_neg l_neg r_int)) (r_var 7) (fun _ _ => rfl))) (r_var 6) (r_var 9))) ss_nil)))))))
  (ss_cons (s_lock (eV 6) (s_for (i_keyN (r_var 6)) (g_name 9 sc__law_layers.nd) (ss_one (s_put (o_nput (hu64 hr)) p_nput r_bl (r_var 3) (r_var 9)))))
  (ss_one (s_expr (r_meth PySem.F.slot_list_append PySem.F.type_list_append mt_append m_append (r_var 4) (a_cons (r_var 6) a_nil))))))))
  (ss_one (s_ret (r_var 4)))))
theorem kn__law_like (D : DefAt K mg "_law_like" s__law_like) (z_isinstance : mg "isinstance" = none) (z_list : mg "list" = none) (z_tuple : mg "tuple" = none) (z_len : mg "len" = none) (z_range : mg "range" = none) (z_bool : mg "bool" = none) : ∀ d : Nat, Known P w K mg base (d + 1) "_law_like" ["one", "two"] (F__law_like d)
  | 0 => known0 D sc__law_like bi__law_like (fun ws M => F0__law_like ws M)
  | d + 1 => by
    have R := kn__law_like D z_isinstance z_list z_tuple z_len z_range z_bool d
    exact known D sc__law_like bi__law_like (keeps__law_like d) fun f cdv A outer s H E hr =>
  (ss_cons (s_if (t_val (r_isi2 "list" "tuple" (by simp) (by simp) (by rfl) z_isinstance (by rfl) z_list (by decide +kernel) (by rfl) z_tuple (by decide +kernel) (r_var 0))) (ss_cons (s_if (t_w (w_or (t_cmp (op_neD (hu64 hr)) l_ne (r_isi "list" (by simp) (by rfl) z_isinstance (by rfl) z_list (by decide +kernel) (r_var 0)) (r_isi "list" (by simp) (by rfl) z_isinstance (by rfl) z_list (by decide +kernel) (r_var 1)) (nomark _)) (w_one (t_cmp (op_neD (hu64 hr)) l_ne (r_isi "tuple" (by simp) (by rfl) z_isinstance (by rfl) z_tuple (by decide +kernel) (r_var 0)) (r_isi "tuple" (by simp) (by rfl) z_isinstance (by rfl) z_tuple (by decide +kernel) (r_var 1)) (nomark _))))) (ss_one (s_ret r_bl)) ss_nil)
  (ss_cons (s_if (t_cmp (op_neD (hu64 hr)) l_ne (r_callB call_len_seq n_len (by rfl) z_len (by decide +kernel) (a_cons (r_var 0) a_nil)) (r_callB call_len_seq n_len (by rfl) z_len (by decide +kernel) (a_cons (r_var 1) a_nil)) (nomark _)) (ss_one (s_ret r_bl)) ss_nil)
  (ss_one (s_ret (r_cmp (op_eqD (hu64 hr)) l_eq (r_lc (own := [("k", 2)]) sc__law_like.nd (i_range1 (by rfl) z_range (a_cons (r_callB call_len_seq n_len (by rfl) z_len (by decide +kernel) (a_cons (r_var 0) a_nil)) a_nil)) (by kernel_rfl) (fun _ _ _ _ _ => (gw_name 2 sc__law_like.nd)) (fun _ _ _ _ _ => (ts_one (t_not (t_val (r_callK R (hr.mono (by omega)) (by rfl) (a_cons (r_ix ix_seq l_ix (r_var 0) (r_var 2)) (a_cons (r_ix ix_seq l_ix (r_var 1) (r_var 2)) a_nil))))))) (fun _ _ _ _ _ => (r_var 2))) (r_lst a_nil) (nomark _)))))) ss_nil)
  (ss_cons (s_if (t_val (r_isi2 "list" "tuple" (by simp) (by simp) (by rfl) z_isinstance (by rfl) z_list (by decide +kernel) (by rfl) z_tuple (by decide +kernel) (r_var 1))) (ss_one (s_ret r_bl)) ss_nil)
  (ss_one (s_ret (r_and (r_cmp (op_eqD (hu64 hr)) l_eq (r_isi "bool" (by simp) (by rfl) z_isinstance (by rfl) z_bool (by decide +kernel) (r_var 0)) (r_isi "bool" (by simp) (by rfl) z_isinstance (by rfl) z_bool (by decide +kernel) (r_var 1)) (nomark _)) (r_one (r_cmp (op_eqD (hu64 hr)) l_eq (r_var 0) (r_var 1) (nomark _))))))))
theorem kn_common (D : DefAt K mg "common" s_common) (z_min : mg "min" = none) (z_len : mg "len" = none) : Known P w K mg base 1 "common" ["one", "other"] F_common :=
  known D sc_common bi_common keeps_common fun f cdv A outer s H E hr =>
  (ss_cons (s_set 2 sc_common.nd r_int)
  (ss_cons (s_while 1000 (t_w (w_and (t_cmp op_lt l_lt (r_var 2) (r_callB (call_min2 rfl) n_min (by rfl) z_min (by decide +kernel) (a_cons (r_callB call_len_seq n_len (by rfl) z_len (by decide +kernel) (a_cons (r_var 0) a_nil)) (a_cons (r_callB call_len_seq n_len (by rfl) z_len (by decide +kernel) (a_cons (r_var 1) a_nil)) a_nil))) (nomark _)) (w_one (t_cmp (op_eqD (hu64 hr)) l_eq (r_ix ix_seq l_ix (r_var 0) (r_var 2)) (r_ix ix_seq l_ix (r_var 1) (r_var 2)) (nomark _))))) (ss_one (s_aug 2 sc_common.nd iop_add l_iadd r_int)))
  (ss_one (s_ret (r_var 2)))))
theorem kn_kept_pages (D : DefAt K mg "kept_pages" s_kept_pages) (G_common : Known P w K mg base 1 "common" ["one", "other"] F_common) (z_min : mg "min" = none) (z_len : mg "len" = none) : Known P w K mg base 2 "kept_pages" ["history", "target"] F_kept_pages :=
  known D sc_kept_pages bi_kept_pages keeps_kept_pages fun f cdv A outer s H E hr =>
  (ss_one (s_ret (r_callB (call_min2 rfl) n_min (by rfl) z_min (by decide +kernel) (a_cons (r_callK G_common (hr.mono (by decide)) (by rfl) (a_cons (r_ix ix_seq l_ix (r_var 0) r_int) (a_cons (r_ix ix_seq l_ix (r_var 1) r_int) a_nil))) (a_cons (r_op op_sub l_sub (r_callB call_len_seq n_len (by rfl) z_len (by decide +kernel) (a_cons (r_ix ix_seq l_ix (r_var 1) r_int) a_nil)) r_int) a_nil)))))
theorem kn_distance (D : DefAt K mg "distance" s_distance) (G_kept_pages : Known P w K mg base 2 "kept_pages" ["history", "target"] F_kept_pages) (z_abs : mg "abs" = none) (z_min : mg "min" = none) (z_len : mg "len" = none) : Known P w K mg base 3 "distance" ["history", "target"] F_distance :=
  known D sc_distance bi_distance keeps_distance fun f cdv A outer s H E hr =>
  (ss_cons (s_asg (r_tup (a_cons (r_var 0) (a_cons (r_var 1) a_nil))) (g_tup rfl (gs_cons (g_tup rfl (gs_cons (g_name 2 sc_distance.nd) (gs_cons (g_name 3 sc_distance.nd) gs_nil))) (gs_cons (g_tup rfl (gs_cons (g_name 4 sc_distance.nd) (gs_cons (g_name 5 sc_distance.nd) gs_nil))) gs_nil))))
  (ss_cons (s_if (t_cmp (op_eqD (hu64 hr)) l_eq (r_var 2) (r_var 4) (nomark _)) (ss_one (s_ret (r_callB call_abs n_abs (by rfl) z_abs (by decide +kernel) (a_cons (r_op op_sub l_sub (r_var 3) (r_var 5)) a_nil)))) ss_nil)
  (ss_cons (s_set 6 sc_distance.nd (r_callK G_kept_pages (hr.mono (by decide)) (by rfl) (a_cons (r_var 0) (a_cons (r_var 1) a_nil))))
  (ss_cons (s_if (t_cmp (op_eqD (hu64 hr)) l_eq (r_var 6) r_int (nomark _)) (ss_one (s_ret r_non)) ss_nil)
  (ss_one (s_ret (r_op op_sub l_sub (r_op op_sub l_sub (r_op o_add l_add (r_op op_sub l_sub (r_op op_sub l_sub (r_op o_add l_add (r_callB call_abs n_abs (by rfl) z_abs (by decide +kernel) (a_cons (r_op op_sub l_sub (r_callB (call_min2 rfl) n_min (by rfl) z_min (by decide +kernel) (a_cons (r_var 3) (a_cons (r_op op_sub l_sub (r_var 6) r_int) a_nil))) (r_var 3)) a_nil)) (r_callB call_len_seq n_len (by rfl) z_len (by decide +kernel) (a_cons (r_var 4) a_nil))) r_int) (r_callB (call_min2 rfl) n_min (by rfl) z_min (by decide +kernel) (a_cons (r_var 3) (a_cons (r_op op_sub l_sub (r_var 6) r_int) a_nil)))) (r_callB call_len_seq n_len (by rfl) z_len (by decide +kernel) (a_cons (r_var 4) a_nil))) r_int) (r_var 5))))))))
theorem kn_most_forward (D : DefAt K mg "most_forward" s_most_forward) (G_kept_pages : Known P w K mg base 2 "kept_pages" ["history", "target"] F_kept_pages) (z_max : mg "max" = none) : Known P w K mg base 3 "most_forward" ["history", "target"] F_most_forward :=
  known D sc_most_forward bi_most_forward keeps_most_forward fun f cdv A outer s H E hr =>
  (ss_cons (s_asg (r_tup (a_cons (r_var 0) (a_cons (r_var 1) a_nil))) (g_tup rfl (gs_cons (g_tup rfl (gs_cons (g_name 2 sc_most_forward.nd) (gs_cons (g_name 3 sc_most_forward.nd) gs_nil))) (gs_cons (g_tup rfl (gs_cons (g_name 4 sc_most_forward.nd) (gs_cons (g_name 5 sc_most_forward.nd) gs_nil))) gs_nil))))
  (ss_cons (s_if (t_cmp (op_eqD (hu64 hr)) l_eq (r_var 2) (r_var 4) (nomark _)) (ss_one (s_ret (r_callB (call_max2 rfl) n_max (by rfl) z_max (by decide +kernel) (a_cons r_int (a_cons (r_op op_sub l_sub (r_var 5) (r_var 3)) a_nil))))) ss_nil)
  (ss_one (s_ret (r_callB (call_max2 rfl) n_max (by rfl) z_max (by decide +kernel) (a_cons r_int (a_cons (r_op op_sub l_sub (r_op op_sub l_sub (r_callK G_kept_pages (hr.mono (by decide)) (by rfl) (a_cons (r_var 0) (a_cons (r_var 1) a_nil))) r_int) (r_var 3)) a_nil)))))))
theorem kn_count_plans (D : DefAt K mg "count_plans" s_count_plans) (G_distance : Known P w K mg base 3 "distance" ["history", "target"] F_distance) (G_most_forward : Known P w K mg base 3 "most_forward" ["history", "target"] F_most_forward) (z_len : mg "len" = none) : Known P w K mg base 4 "count_plans" ["history", "target"] F_count_plans :=
  known D sc_count_plans bi_count_plans keeps_count_plans fun f cdv A outer s H E hr =>
  (ss_cons (s_asg (r_tup (a_cons (r_var 0) (a_cons (r_var 1) a_nil))) (g_tup rfl (gs_cons (g_tup rfl (gs_cons (g_name 2 sc_count_plans.nd) (gs_cons (g_name 3 sc_count_plans.nd) gs_nil))) (gs_cons (g_tup rfl (gs_cons (g_name 4 sc_count_plans.nd) (gs_cons (g_name 5 sc_count_plans.nd) gs_nil))) gs_nil))))
  (ss_cons (s_if (t_isN (r_callK G_distance (hr.mono (by decide)) (by rfl) (a_cons (r_var 0) (a_cons (r_var 1) a_nil)))) (ss_one (s_ret r_int)) ss_nil)
  (ss_cons (s_if (t_w (w_and (t_cmp (op_eqD (hu64 hr)) l_eq (r_var 2) (r_var 4) (nomark _)) (w_one (t_not (t_chain op_lt l_lt (op_eqD (hu64 hr)) l_eq (r_var 3) (r_var 5) (r_op op_sub l_sub (r_callB call_len_seq n_len (by rfl) z_len (by decide +kernel) (a_cons (r_var 4) a_nil)) r_int)))))) (ss_one (s_ret r_int)) ss_nil)
  (ss_one (s_ret (r_op o_add l_add (r_callK G_most_forward (hr.mono (by decide)) (by rfl) (a_cons (r_var 0) (a_cons (r_var 1) a_nil))) r_int))))))
theorem kn_law {f : Addr} {fd : FuncData} (D : Fun K "law" "law" s_law f fd) (G__law_history : Known P w K mg base 2 "_law_history" ["tape", "most", "pool"] F__law_history) (G__law_layers : Known P w K mg base 2 "_law_layers" ["history", "pool", "depth"] F__law_layers) (G__law_like : Known P w K mg base 9 "_law_like" ["one", "two"] (F__law_like 8)) (G_distance : Known P w K mg base 3 "distance" ["history", "target"] F_distance) (G_count_plans : Known P w K mg base 4 "count_plans" ["history", "target"] F_count_plans) (z_list : mg "list" = none) (z_range : mg "range" = none) (z_enumerate : mg "enumerate" = none) (z_len : mg "len" = none) : FnOk P w K mg base CX0 10 f fd ["script"] (spF ⟨K, w⟩ (["script"] : List Str).length lawF) :=
  fn_ok D sc_law keeps_law_k03 fun cdv A outer s H E hr =>
  (ss_cons (s_set 1 sc_law.nd (r_lst (a_cons (r_callTy call_list_of n_list (by rfl) z_list (by decide +kernel) (a_cons (r_var 0) a_nil)) (a_cons r_int (a_cons r_int a_nil)))))
  (ss_cons (s_set 2 sc_law.nd (r_tup (a_cons r_str (a_cons r_str a_nil))))
  (ss_cons (s_for (i_range1 (by rfl) z_range (a_cons r_int a_nil)) (g_name 3 sc_law.nd) (ss_cons (s_set 4 sc_law.nd (r_callK G__law_history (hr.mono (by decide)) (by rfl) (a_cons (r_var 1) (a_cons r_int (a_cons (r_var 2) a_nil)))))
  (ss_cons (s_for (i_enumL (by rfl) z_enumerate (a_cons (r_callK G__law_layers (hr.mono (by decide)) (by rfl) (a_cons (r_var 4) (a_cons (r_var 2) (a_cons r_int a_nil)))) a_nil)) (g_tup rfl (gs_cons (g_name 5 sc_law.nd) (gs_cons (g_name 6 sc_law.nd) gs_nil))) (ss_one (s_lock (eV 6) (s_for (i_keyN (r_var 6)) (g_name 7 sc_law.nd) (ss_cons (s_if (t_not (t_val (r_callK G__law_like (hr.mono (by decide)) (by rfl) (a_cons (r_callK G_distance (hr.mono (by decide)) (by rfl) (a_cons (r_var 4) (a_cons (r_var 7) a_nil))) (a_cons (r_var 5) a_nil))))) (ss_one (s_ret r_bl)) ss_nil)
  (ss_one (s_if (t_not (t_val (r_callK G__law_like (hr.mono (by decide)) (by rfl) (a_cons (r_callK G_count_plans (hr.mono (by decide)) (by rfl) (a_cons (r_var 4) (a_cons (r_var 7) a_nil))) (a_cons (r_getN (hu64 hr) (r_var 6) (r_var 7) (fun _ _ => rfl)) a_nil))))) (ss_one (s_ret r_bl)) ss_nil)))))))
  (ss_cons (s_set 8 sc_law.nd (r_if (t_cmp (op_eqD (hu64 hr)) l_eq (r_ix ix_seq l_ix (r_ix ix_seq l_ix (r_var 4) r_int) r_int) r_str (nomark _)) r_str r_str))
  (ss_cons (s_set 9 sc_law.nd (r_tup (a_cons (r_op o_add l_add (r_tup (a_cons (r_var 8) a_nil)) (r_sl o_sl l_sl (r_ix ix_seq l_ix (r_var 4) r_int) (o_some r_int) o_none)) (a_cons (r_ix ix_seq l_ix (r_var 4) r_int) a_nil))))
  (ss_cons (s_if (t_w (w_or (t_notN (r_callK G_distance (hr.mono (by decide)) (by rfl) (a_cons (r_var 4) (a_cons (r_var 9) a_nil)))) (w_one (t_cmp (op_neD (hu64 hr)) l_ne (r_callK G_count_plans (hr.mono (by decide)) (by rfl) (a_cons (r_var 4) (a_cons (r_var 9) a_nil))) r_int (nomark _))))) (ss_one (s_ret r_bl)) ss_nil)
  (ss_one (s_if (t_w (w_and (t_cmp op_gt l_gt (r_callB call_len_seq n_len (by rfl) z_len (by decide +kernel) (a_cons (r_ix ix_seq l_ix (r_var 4) r_int) a_nil)) r_int (nomark _)) (w_one (t_notN (r_callK G_distance (hr.mono (by decide)) (by rfl) (a_cons (r_var 4) (a_cons (r_tup (a_cons (r_sl o_sl l_sl (r_ix ix_seq l_ix (r_var 4) r_int) o_none (o_some r_int)) (a_cons r_int a_nil))) a_nil))))))) (ss_one (s_ret r_bl)) ss_nil))))))))
  (ss_one (s_ret r_bl)))))
end
theorem all_k03 {l : PySem.W.OpenLaw} {w : World} {K : PySem.W.Frag} {h : Heap} {mg : Str → Option Value} {fa f : Addr} {oc : Value} {od an : Option Addr} {osl : Array (Option Value)} {kV doc pm cdv ct : Value} (X : K.In h) (G : h.Ns mainGlobals mg) (hfa : mg "law" = some (.ref fa))
    (a : PySem.W.nsIn K mainGlobals "law" = some (some (.ref f))) (lk : K.lookup f = some ⟨oc, od, .func (PySem.W.fnOf "law" "law" (defArgs s_law) (defBody s_law) (defScope s_law) .none kV doc pm an cdv ct), osl⟩) (c : PySem.W.codeIn K cdv "law" = true) (kp : PySem.W.keepIn K (.ref f) = true)
    (D__law_draw : DefAt K mg "_law_draw" s__law_draw) (D__law_history : DefAt K mg "_law_history" s__law_history) (D__law_alphabet : DefAt K mg "_law_alphabet" s__law_alphabet) (D__law_step : DefAt K mg "_law_step" s__law_step) (D__law_layers : DefAt K mg "_law_layers" s__law_layers) (D__law_like : DefAt K mg "_law_like" s__law_like) (D_common : DefAt K mg "common" s_common) (D_kept_pages : DefAt K mg "kept_pages" s_kept_pages) (D_distance : DefAt K mg "distance" s_distance) (D_most_forward : DefAt K mg "most_forward" s_most_forward) (D_count_plans : DefAt K mg "count_plans" s_count_plans) (z_abs : mg "abs" = none) (z_bool : mg "bool" = none) (z_enumerate : mg "enumerate" = none) (z_isinstance : mg "isinstance" = none) (z_len : mg "len" = none) (z_list : mg "list" = none) (z_max : mg "max" = none) (z_min : mg "min" = none) (z_range : mg "range" = none) (z_tuple : mg "tuple" = none) :
    ∃ fd : FuncData, (∀ (s : Shared) (v : Value), BindsTo s fd ⟨[v], []⟩ [("script", v)]) ∧ ∀ base : Heap, K.In base → base.Ns mainGlobals mg → FnOk l.prog w K mg base CX0 10 fa fd ["script"] (spLaw K) :=
  law_head X G hfa a lk c kp bi_law fun base fd D => by
    have G__law_draw := kn__law_draw (P := l.prog) (w := w) (base := base) D__law_draw z_len
    have G__law_history := kn__law_history (P := l.prog) (w := w) (base := base) D__law_history G__law_draw z_tuple z_range z_len
    have G__law_alphabet := kn__law_alphabet (P := l.prog) (w := w) (base := base) D__law_alphabet 
    have G__law_step := kn__law_step (P := l.prog) (w := w) (base := base) D__law_step z_list z_tuple z_len
    have G__law_layers := kn__law_layers (P := l.prog) (w := w) (base := base) D__law_layers G__law_alphabet G__law_step z_range
    have G__law_like := kn__law_like (P := l.prog) (w := w) (base := base) D__law_like z_isinstance z_list z_tuple z_len z_range z_bool 8
    have G_common := kn_common (P := l.prog) (w := w) (base := base) D_common z_min z_len
    have G_kept_pages := kn_kept_pages (P := l.prog) (w := w) (base := base) D_kept_pages G_common z_min z_len
    have G_distance := kn_distance (P := l.prog) (w := w) (base := base) D_distance G_kept_pages z_abs z_min z_len
    have G_most_forward := kn_most_forward (P := l.prog) (w := w) (base := base) D_most_forward G_kept_pages z_max
    have G_count_plans := kn_count_plans (P := l.prog) (w := w) (base := base) D_count_plans G_distance G_most_forward z_len
    exact kn_law D G__law_history G__law_layers G__law_like G_distance G_count_plans z_list z_range z_enumerate z_len
end BF
open PySem PySem.W PyProof.Rows
set_option maxHeartbeats 0 in
theorem PySem.Challenge.cw_backforward_k03_whole_distances_by_searc_holds : PySem.Challenge.rw_backforward_k03_whole_distances_by_searc.Holds := by
  w_on; o_law; k_head; (case hw => w_witness2)
  k_fill
  refine L2.walk_of (l := PySem.Challenge.rw_backforward_k03_whole_distances_by_searc) (n := 63) (k := 10) (x := "script") (CX := fun _ => L2.CX0) (sp := fun w => BF.spLaw _) rfl (by decide) rfl ⟨rfl, by decide, by decide⟩ (fun w h Y => PySem.W.kIn_of Y) ?F (fun _ H a ns hl ho hS => ⟨a, ns, rfl, ho, hS, hl, fun _ => rfl⟩) (fun _ _ _ _ _ h => h)
  case F =>
    intro w mg fa h KX G hmg
    refine' BF.all_k03 KX G hmg ?a0 ?l0 ?c0 ?k0 (BF.defAt KX G ?a1 ?l1 ?c1 ?k1) (BF.defAt KX G ?a2 ?l2 ?c2 ?k2) (BF.defAt KX G ?a3 ?l3 ?c3 ?k3) (BF.defAt KX G ?a4 ?l4 ?c4 ?k4) (BF.defAt KX G ?a5 ?l5 ?c5 ?k5) (BF.defAt KX G ?a6 ?l6 ?c6 ?k6) (BF.defAt KX G ?a7 ?l7 ?c7 ?k7) (BF.defAt KX G ?a8 ?l8 ?c8 ?k8) (BF.defAt KX G ?a9 ?l9 ?c9 ?k9) (BF.defAt KX G ?a10 ?l10 ?c10 ?k10) (BF.defAt KX G ?a11 ?l11 ?c11 ?k11) (PySem.W.mg_none_of KX G ?z_abs) (PySem.W.mg_none_of KX G ?z_bool) (PySem.W.mg_none_of KX G ?z_enumerate) (PySem.W.mg_none_of KX G ?z_isinstance) (PySem.W.mg_none_of KX G ?z_len) (PySem.W.mg_none_of KX G ?z_list) (PySem.W.mg_none_of KX G ?z_max) (PySem.W.mg_none_of KX G ?z_min) (PySem.W.mg_none_of KX G ?z_range) (PySem.W.mg_none_of KX G ?z_tuple)
    (case a0 => k_is); (case l0 => k_is); (case c0 => k_is); (case k0 => k_is); (case a1 => k_is); (case l1 => k_is); (case c1 => k_is); (case k1 => k_is); (case a2 => k_is); (case l2 => k_is); (case c2 => k_is); (case k2 => k_is); (case a3 => k_is); (case l3 => k_is); (case c3 => k_is); (case k3 => k_is); (case a4 => k_is); (case l4 => k_is); (case c4 => k_is); (case k4 => k_is); (case a5 => k_is); (case l5 => k_is); (case c5 => k_is); (case k5 => k_is); (case a6 => k_is); (case l6 => k_is); (case c6 => k_is); (case k6 => k_is); (case a7 => k_is); (case l7 => k_is); (case c7 => k_is); (case k7 => k_is); (case a8 => k_is); (case l8 => k_is); (case c8 => k_is); (case k8 => k_is); (case a9 => k_is); (case l9 => k_is); (case c9 => k_is); (case k9 => k_is); (case a10 => k_is); (case l10 => k_is); (case c10 => k_is); (case k10 => k_is); (case a11 => k_is); (case l11 => k_is); (case c11 => k_is); (case k11 => k_is); (case z_abs => k_is); (case z_bool => k_is); (case z_enumerate => k_is); (case z_isinstance => k_is); (case z_len => k_is); (case z_list => k_is); (case z_max => k_is); (case z_min => k_is); (case z_range => k_is); (case z_tuple => k_is)
