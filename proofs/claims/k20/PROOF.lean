import PyProof.Rows.All
import Wide.All
import OpenK.AllK
import Wide.FinOn
import HandS.ForMost
import HandS.TupAny
import HandS.TupMul
import HandS.Zip
import HandS.Wide
import HandS.IsInst
import HandS.Flow
import HandS.Style
import HandS.Steps
import HandS.Conv
import KE.KTupSum
import HandS.Dict
import KE.KDictKeyed
import KE.KDictDisplayH
import HandS.Iter
import HandS.Flt
import HandS.More
import HandS.Deep
import KE.GoesEnum
import KE.SortData
import HandS.TupSets
import KE.DataFind
import HandS.Text
import HandS.ExcCtx
import HandS.HotCalls
import HandS.ExcIs
import PySem.Challenge.RW_backforward_k20_tabs_call_by_call
set_option Elab.async false
set_option linter.all false
set_option autoImplicit false
/-! The plain reading: values, memory, and what each construct computes. -/
namespace BF
open PySem

inductive W where
  | non
  | bl (b : Bool)
  | int (i : Int)
  | str (x : Str)
  | tup (ws : List W)
  | ref (n : Nat)

instance : Inhabited W := ⟨.non⟩

mutual
def W.beq : W → W → Bool
  | .non, .non => true
  | .bl a, .bl b => a == b
  | .int a, .int b => decide (a = b)
  | .str a, .str b => decide (a = b)
  | .tup a, .tup b => W.beqs a b
  | .ref a, .ref b => decide (a = b)
  | .non, .bl _ | .non, .int _ | .non, .str _ | .non, .tup _ | .non, .ref _ => false
  | .bl _, .non | .bl _, .int _ | .bl _, .str _ | .bl _, .tup _ | .bl _, .ref _ => false
  | .int _, .non | .int _, .bl _ | .int _, .str _ | .int _, .tup _ | .int _, .ref _ => false
  | .str _, .non | .str _, .bl _ | .str _, .int _ | .str _, .tup _ | .str _, .ref _ => false
  | .tup _, .non | .tup _, .bl _ | .tup _, .int _ | .tup _, .str _ | .tup _, .ref _ => false
  | .ref _, .non | .ref _, .bl _ | .ref _, .int _ | .ref _, .str _ | .ref _, .tup _ => false
def W.beqs : List W → List W → Bool
  | [], [] => true
  | a :: as, b :: bs => W.beq a b && W.beqs as bs
  | [], _ :: _ => false
  | _ :: _, [] => false
end
mutual
theorem W.beq_self : ∀ a : W, W.beq a a = true
  | .non => rfl
  | .bl a => by simp [W.beq]
  | .int a => by simp [W.beq]
  | .str a => by simp [W.beq]
  | .tup a => by rw [W.beq]; exact W.beqs_self a
  | .ref a => by simp [W.beq]
theorem W.beqs_self : ∀ a : List W, W.beqs a a = true
  | [] => rfl
  | a :: as => by rw [W.beqs, W.beq_self a, W.beqs_self as]; rfl
end
mutual
theorem W.eq_of_beq : ∀ a b : W, W.beq a b = true → a = b
  | .non, b, h => by cases b <;> simp [W.beq] at h; rfl
  | .bl a, b, h => by cases b <;> simp [W.beq] at h; rw [h]
  | .int a, b, h => by cases b <;> simp [W.beq] at h; rw [h]
  | .str a, b, h => by cases b <;> simp [W.beq] at h; rw [h]
  | .tup a, b, h => by
    cases b with
    | tup b => rw [W.beq] at h; rw [W.eq_of_beqs a b h]
    | _ => simp [W.beq] at h
  | .ref a, b, h => by cases b <;> simp [W.beq] at h; rw [h]
theorem W.eq_of_beqs : ∀ a b : List W, W.beqs a b = true → a = b
  | [], b, h => by
    cases b with
    | nil => rfl
    | cons _ _ => simp [W.beqs] at h
  | a :: as, b, h => by
    cases b with
    | nil => simp [W.beqs] at h
    | cons b bs =>
      rw [W.beqs, Bool.and_eq_true] at h
      rw [W.eq_of_beq a b h.1, W.eq_of_beqs as bs h.2]
end
instance : DecidableEq W := fun a b =>
  if h : W.beq a b = true then .isTrue (W.eq_of_beq a b h) else .isFalse fun e => h (e ▸ W.beq_self a)

/-- a dict keyed by nested tuples; a dict that is walked (keys: numbers and texts; nested tuples); an instance (fields by name) -/
inductive DM where
  | nest
  | lockF
  | lockN
  | tab
  deriving DecidableEq
/-- what stands at an id: a list (made here), a list that is only read, a dict, one with int and text keys -/
inductive MO where
  | lst (ws : List W)
  | ro (ws : List W)
  | dT (m : DM) (kvs : List (W × W))
  | dK (kvs : List (W × W))
  deriving DecidableEq

abbrev Mem := List MO
abbrev Sl := List (Option W)
abbrev CE := Sl → Mem → Option (W × Mem)
abbrev CA := Sl → Mem → Option (List W × Mem)
abbrev CT := Sl → Mem → Option (Bool × Mem)
abbrev Fn := List W → Mem → Option (W × Mem)
inductive Out where
  | nx (σ : Sl) (M : Mem)
  | rt (w : W) (M : Mem)
  | bk (σ : Sl) (M : Mem)
  | ct (σ : Sl) (M : Mem)
abbrev CS := Sl → Mem → Option Out
abbrev CG := W → Sl → Option Sl
/-- what a loop walks: the items, and what must stay true of the memory meanwhile -/
abbrev CI := Sl → Mem → Option (List W × (Mem → Bool) × Mem)


/-! ### expressions -/
def eV (i : Nat) : CE := fun σ M => match σ.getD i none with
  | some w => some (w, M)
  | none => none
def eL (w : W) : CE := fun _ M => some (w, M)
def e1 (f : Mem → W → Option (W × Mem)) (a : CE) : CE := fun σ M => (a σ M).bind fun p => f p.2 p.1
def e2 (f : Mem → W → W → Option (W × Mem)) (a b : CE) : CE := fun σ M =>
  (a σ M).bind fun p => (b σ p.2).bind fun q => f q.2 p.1 q.1
def eArgs : List CE → CA
  | [] => fun _ M => some ([], M)
  | a :: as => fun σ M => (a σ M).bind fun p => (eArgs as σ p.2).bind fun q => some (p.1 :: q.1, q.2)
def eN (f : Fn) (as : List CE) : CE := fun σ M => (eArgs as σ M).bind fun p => f p.1 p.2
def eTup (as : List CE) : CE := fun σ M => (eArgs as σ M).bind fun p =>
  if p.1.length ≤ 16777216 then some (.tup p.1, p.2) else none
def eLst (as : List CE) : CE := fun σ M => (eArgs as σ M).bind fun p =>
  if p.1.length ≤ 16777216 then some (.ref p.2.length, p.2 ++ [.lst p.1]) else none
def eIf (t : CT) (a b : CE) : CE := fun σ M => (t σ M).bind fun p => if p.1 = true then a σ p.2 else b σ p.2
/-- a and b, a or b, not a: of truth values -/
def eAnd (a b : CE) : CE := fun σ M => (a σ M).bind fun p => match p.1 with
  | .bl true => b σ p.2
  | .bl false => some (.bl false, p.2)
  | _ => none
def eOr (a b : CE) : CE := fun σ M => (a σ M).bind fun p => match p.1 with
  | .bl true => some (.bl true, p.2)
  | .bl false => b σ p.2
  | _ => none
def eNot (a : CE) : CE := fun σ M => (a σ M).bind fun p => match p.1 with
  | .bl c => some (.bl (!c), p.2)
  | _ => none
/-- a op b op' c -/
def eChain (f g : Mem → W → W → Option (W × Mem)) (a b c : CE) : CE := fun σ M =>
  (a σ M).bind fun p => (b σ p.2).bind fun q => (f q.2 p.1 q.1).bind fun r => match r.1 with
    | .bl true => (c σ r.2).bind fun t => g t.2 q.1 t.1
    | .bl false => some (.bl false, r.2)
    | _ => none

/-! ### tests -/
def tB (e : CE) : CT := fun σ M => (e σ M).bind fun p => match p.1 with
  | .bl c => some (c, p.2)
  | _ => none
def tAnd (a b : CT) : CT := fun σ M => (a σ M).bind fun p => if p.1 = true then b σ p.2 else some (false, p.2)
def tOr (a b : CT) : CT := fun σ M => (a σ M).bind fun p => if p.1 = true then some (true, p.2) else b σ p.2
def tNot (a : CT) : CT := fun σ M => (a σ M).bind fun p => some (!p.1, p.2)
def tTrue : CT := fun _ M => some (true, M)

/-! ### targets -/
def gV (i : Nat) : CG := fun w σ => some (σ.set i (some w))
def gAll : List CG → List W → Sl → Option Sl
  | [], [], σ => some σ
  | g :: gs, w :: ws, σ => (g w σ).bind fun σ1 => gAll gs ws σ1
  | _, _, _ => none
def gT (gs : List CG) : CG := fun w σ => match w with
  | .tup ws => gAll gs ws σ
  | _ => none

/-! ### statements -/
def sSet (g : CG) (e : CE) : CS := fun σ M => (e σ M).bind fun p => (g p.1 σ).bind fun σ1 => some (.nx σ1 p.2)
/-- a, b = x, y of plain names -/
def sPar (is : List Nat) (as : List CE) : CS := fun σ M => (eArgs as σ M).bind fun p =>
  if p.1.length = is.length then some (.nx ((is.zip p.1).foldl (fun σ q => σ.set q.1 (some q.2)) σ) p.2) else none
def sAug (i : Nat) (f : Mem → W → W → Option (W × Mem)) (e : CE) : CS := fun σ M => match σ.getD i none with
  | some w => (e σ M).bind fun p => (f p.2 w p.1).bind fun q => some (.nx (σ.set i (some q.1)) q.2)
  | none => none
/-- o[k] = e -/
def sPut (f : Mem → W → W → W → Option Mem) (o k e : CE) : CS := fun σ M =>
  (e σ M).bind fun p => (o σ p.2).bind fun q => (k σ q.2).bind fun r => (f r.2 q.1 r.1 p.1).bind fun M' => some (.nx σ M')
def sExpr (e : CE) : CS := fun σ M => (e σ M).bind fun p => some (.nx σ p.2)
def sRet (e : CE) : CS := fun σ M => (e σ M).bind fun p => some (.rt p.1 p.2)
def sNil : CS := fun σ M => some (.nx σ M)
def sBreak : CS := fun σ M => some (.bk σ M)
def sSeq (a b : CS) : CS := fun σ M => (a σ M).bind fun o => match o with
  | .nx σ' M' => b σ' M'
  | .rt w M' => some (.rt w M')
  | .bk σ' M' => some (.bk σ' M')
  | .ct σ' M' => some (.ct σ' M')
def sIf (t : CT) (a b : CS) : CS := fun σ M => (t σ M).bind fun p => if p.1 = true then a σ p.2 else b σ p.2
def forL (gd : Mem → Bool) (g : CG) (body : CS) : List W → CS
  | [], σ, M => if gd M = true then some (.nx σ M) else none
  | w :: ws, σ, M => if gd M = true then (g w σ).bind fun σ1 => (body σ1 M).bind fun o => match o with
      | .nx σ' M' => forL gd g body ws σ' M'
      | .ct σ' M' => forL gd g body ws σ' M'
      | .bk σ' M' => some (.nx σ' M')
      | .rt w M' => some (.rt w M')
    else none
def sFor (it : CI) (g : CG) (body : CS) : CS := fun σ M => (it σ M).bind fun p => forL p.2.1 g body p.1 σ p.2.2
def whileL (t : CT) (body : CS) : Nat → CS
  | 0, _, _ => none
  | n + 1, σ, M => (t σ M).bind fun p => if p.1 = true then (body σ p.2).bind fun o => match o with
      | .nx σ' M' => whileL t body n σ' M'
      | .ct σ' M' => whileL t body n σ' M'
      | .bk σ' M' => some (.nx σ' M')
      | .rt w M' => some (.rt w M')
    else some (.nx σ p.2)
def sWhile (n : Nat) (t : CT) (body : CS) : CS := whileL t body n

/-! ### what is walked -/
def gdT : Mem → Bool := fun _ => true
def iTup (e : CE) : CI := fun σ M => (e σ M).bind fun p => match p.1 with
  | .tup ws => some (ws, gdT, p.2)
  | _ => none
def iLst (e : CE) : CI := fun σ M => (e σ M).bind fun p => match p.1 with
  | .ref n => match p.2[n]? with
    | some (.lst ws) => some (ws, fun M' => decide (M'[n]? = some (.lst ws)), p.2)
    | some (.ro ws) => some (ws, fun M' => decide (M'[n]? = some (.ro ws)), p.2)
    | _ => none
  | _ => none
def rangeW (lo : Int) (n : Nat) : List W := (List.range n).map fun i => .int (lo + (i : Nat))
def small62 (i : Int) : Bool := Nat.ble i.natAbs 4611686018427387903
theorem small62_of {i : Int} (h : i.natAbs ≤ 4611686018427387903) : small62 i = true := Nat.ble_eq_true_of_le h
def iRange1 (e : CE) : CI := fun σ M => (e σ M).bind fun p => match p.1 with
  | .int j => if small62 j = true then some (rangeW 0 j.toNat, gdT, p.2) else none
  | _ => none
def iRange2 (a b : CE) : CI := fun σ M => (a σ M).bind fun p => (b σ p.2).bind fun q => match p.1, q.1 with
  | .int i, .int j => if small62 i = true ∧ small62 j = true then some (rangeW i (j - i).toNat, gdT, q.2) else none
  | _, _ => none
def enumW (ws : List W) : List W := ws.zipIdx.map fun p => .tup [.int (p.2 : Nat), p.1]
def iEnumT (e : CE) : CI := fun σ M => (e σ M).bind fun p => match p.1 with
  | .tup ws => some (enumW ws, gdT, p.2)
  | _ => none
def iEnumL (e : CE) : CI := fun σ M => (e σ M).bind fun p => match p.1 with
  | .ref n => match p.2[n]? with
    | some (.lst ws) => some (enumW ws, fun M' => decide (M'[n]? = some (.lst ws)), p.2)
    | _ => none
  | _ => none
def zipW (xs ys : List W) : List W := (xs.zip ys).map fun p => .tup [p.1, p.2]
def iZipT (a b : CE) : CI := fun σ M => (a σ M).bind fun p => (b σ p.2).bind fun q => match p.1, q.1 with
  | .tup xs, .tup ys => some (zipW xs ys, gdT, q.2)
  | _, _ => none

/-! ### a list comprehension -/
def wipe (σ : Sl) : List Nat → Sl
  | [] => σ
  | v :: vs => (wipe σ vs).set v none
def lcL (gd : Mem → Bool) (g : CG) (t : CT) (e : CE) (vs : List Nat) (σ : Sl) (D : Nat) : List W → Mem → Option Mem
  | [], M => if gd M = true then some M else none
  | w :: ws, M => if gd M = true then (g w (wipe σ vs)).bind fun σ1 => (t σ1 M).bind fun p => if p.1 = true then
        (e σ1 p.2).bind fun q => match q.2[D]? with
          | some (.lst acc) => if acc.length < 16777216 then lcL gd g t e vs σ D ws (q.2.set D (.lst (acc ++ [q.1]))) else none
          | _ => none
      else lcL gd g t e vs σ D ws p.2
    else none
def eLc (it : CI) (g : CG) (t : CT) (e : CE) (vs : List Nat) : CE := fun σ M => (it σ M).bind fun p =>
  (lcL p.2.1 g t e vs σ p.2.2.length p.1 (p.2.2 ++ [.lst []])).bind fun M' => some (.ref p.2.2.length, M')

/-! ### data -/
def mapO {α β : Type} (f : α → Option β) : List α → Option (List β)
  | [] => some []
  | a :: as => match f a, mapO f as with
    | some b, some bs => some (b :: bs)
    | _, _ => none
def toD (M : Mem) : Nat → W → Option PyData
  | 0, _ => none
  | _ + 1, .non => some .none
  | _ + 1, .bl b => some (.bool b)
  | _ + 1, .int i => some (.int i)
  | _ + 1, .str x => some (.str x)
  | k + 1, .tup ws => (mapO (toD M k) ws).map .tuple
  | k + 1, .ref n => match M[n]? with
    | some (.lst ws) => (mapO (toD M k) ws).map .list
    | some (.ro ws) => (mapO (toD M k) ws).map .list
    | _ => none
/-- x == y of data -/
def eqW (M : Mem) (x y : W) : Option Bool := match toD M 64 x, toD M 64 y with
  | some d, some e => some (PyData.eqv d e)
  | _, _ => none

/-! ### operations -/
def gAdd (M : Mem) (x y : W) : Option (W × Mem) := match x, y with
  | .int i, .int j => some (.int (i + j), M)
  | .str a, .str b => if a.length + b.length ≤ 16777216 then some (.str (a ++ b), M) else none
  | .tup a, .tup b => if a.length + b.length ≤ 16777216 then some (.tup (a ++ b), M) else none
  | .ref a, .ref b => match M[a]?, M[b]? with
    | some (.lst xs), some (.lst ys) => if xs.length + ys.length ≤ 16777216 then some (.ref M.length, M ++ [.lst (xs ++ ys)]) else none
    | _, _ => none
  | _, _ => none
def gSub (M : Mem) (x y : W) : Option (W × Mem) := match x, y with
  | .int i, .int j => some (.int (i - j), M)
  | _, _ => none
def small64 (i : Int) : Bool := Nat.ble i.natAbs 18446744073709551615
theorem small64_of {i : Int} (h : i.natAbs ≤ 18446744073709551615) : small64 i = true := Nat.ble_eq_true_of_le h
/-- products of ints, one of them small; a tuple k times -/
def gMul (M : Mem) (x y : W) : Option (W × Mem) := match x, y with
  | .int i, .int j => if small64 i = true ∨ small64 j = true then some (.int (i * j), M) else none
  | _, _ => none
def gRep (M : Mem) (x y : W) : Option (W × Mem) := match x, y with
  | .tup a, .int k => if a.length ≤ 1000 ∧ k ≤ 1000 then some (.tup (List.replicate k.toNat a).flatten, M) else none
  | _, _ => none
def gMod (M : Mem) (x y : W) : Option (W × Mem) := match x, y with
  | .int i, .int j => if 0 < j then some (.int (i % j), M) else none
  | _, _ => none
def gDiv (M : Mem) (x y : W) : Option (W × Mem) := match x, y with
  | .int i, .int j => if 0 < j ∧ small64 j = true then some (.int (i / j), M) else none
  | _, _ => none
def gPow (M : Mem) (x y : W) : Option (W × Mem) := match x, y with
  | .int i, .int j => if 0 ≤ j ∧ j ≤ 1000 ∧ small62 i = true then some (.int (i ^ j.toNat), M) else none
  | _, _ => none
def gNeg (M : Mem) (x : W) : Option (W × Mem) := match x with
  | .int i => some (.int (-i), M)
  | _ => none
def gLt (M : Mem) (x y : W) : Option (W × Mem) := match x, y with
  | .int i, .int j => some (.bl (decide (i < j)), M)
  | _, _ => none
def gLe (M : Mem) (x y : W) : Option (W × Mem) := match x, y with
  | .int i, .int j => some (.bl (decide (i ≤ j)), M)
  | _, _ => none
def gGt (M : Mem) (x y : W) : Option (W × Mem) := match x, y with
  | .int i, .int j => some (.bl (decide (j < i)), M)
  | _, _ => none
def gGe (M : Mem) (x y : W) : Option (W × Mem) := match x, y with
  | .int i, .int j => some (.bl (decide (j ≤ i)), M)
  | _, _ => none
def gEq (M : Mem) (x y : W) : Option (W × Mem) := (eqW M x y).map fun b => (.bl b, M)
def gNe (M : Mem) (x y : W) : Option (W × Mem) := (eqW M x y).map fun b => (.bl (!b), M)
def isN : W → Bool
  | .non => true
  | _ => false
def gIsN (M : Mem) (x : W) : Option (W × Mem) := some (.bl (isN x), M)
def gNotN (M : Mem) (x : W) : Option (W × Mem) := some (.bl (!isN x), M)
/-- the place that an index means -/
def ixW (n : Nat) (i : Int) : Option Nat := if 0 ≤ i then (if i < n then some i.toNat else none) else if -(n : Int) ≤ i then some (i + n).toNat else none
def gIx (M : Mem) (x y : W) : Option (W × Mem) := match x, y with
  | .tup a, .int i => ((ixW a.length i).bind fun j => a[j]?).map fun w => (w, M)
  | .ref n, .int i => match M[n]? with
    | some (.lst a) => ((ixW a.length i).bind fun j => a[j]?).map fun w => (w, M)
    | some (.ro a) => ((ixW a.length i).bind fun j => a[j]?).map fun w => (w, M)
    | _ => none
  | _, _ => none
/-- a slice's bound -/
def sIx (n d : Nat) : Option Int → Nat
  | none => d
  | some v => if v < 0 then (v + (n : Int)).toNat else min v.toNat n
def cutW {α : Type} (xs : List α) (lo hi : Option Int) : List α := (xs.drop (sIx xs.length 0 lo)).take (sIx xs.length xs.length hi - sIx xs.length 0 lo)
def partW : Option W → Option (Option Int)
  | none => some none
  | some (.int i) => some (some i)
  | _ => none
def gSl (M : Mem) (x : W) (lo hi : Option Int) : Option (W × Mem) := match x with
  | .tup a => some (.tup (cutW a lo hi), M)
  | .ref n => match M[n]? with
    | some (.lst a) => some (.ref M.length, M ++ [.lst (cutW a lo hi)])
    | _ => none
  | _ => none
def ePart (e : Option CE) : Sl → Mem → Option (Option Int × Mem) := fun σ M => match e with
  | none => some (none, M)
  | some c => (c σ M).bind fun p => match p.1 with
    | .int i => some (some i, p.2)
    | _ => none
def eSl (e : CE) (lo hi : Option CE) : CE := fun σ M => (e σ M).bind fun p => (ePart lo σ p.2).bind fun q => (ePart hi σ q.2).bind fun r => gSl r.2 p.1 q.1 r.1

/-! ### calls of built-ins -/
def pLen : Fn := fun ws M => match ws with
  | [.tup a] => some (.int a.length, M)
  | [.ref n] => match M[n]? with
    | some (.lst a) => some (.int a.length, M)
    | some (.ro a) => some (.int a.length, M)
    | _ => none
  | _ => none
def pMin : Fn := fun ws M => match ws with
  | [.int i, .int j] => some (.int (if j < i then j else i), M)
  | _ => none
def pMax : Fn := fun ws M => match ws with
  | [.int i, .int j] => some (.int (if j > i then j else i), M)
  | _ => none
def pAbs : Fn := fun ws M => match ws with
  | [.int i] => some (.int (if i < 0 then -i else i), M)
  | _ => none
def pList : Fn := fun ws M => match ws with
  | [.tup a] => some (.ref M.length, M ++ [.lst a])
  | [.ref n] => match M[n]? with
    | some (.lst a) => some (.ref M.length, M ++ [.lst a])
    | some (.ro a) => some (.ref M.length, M ++ [.lst a])
    | _ => none
  | _ => none
def pTuple : Fn := fun ws M => match ws with
  | [.tup a] => some (.tup a, M)
  | [.ref n] => match M[n]? with
    | some (.lst a) => some (.tup a, M)
    | some (.ro a) => some (.tup a, M)
    | _ => none
  | _ => none
/-- a value's built-in class -/
def tyW (M : Mem) (w : W) : Option String := match w with
  | .non => some "NoneType"
  | .bl _ => some "bool"
  | .int _ => some "int"
  | .str _ => some "str"
  | .tup _ => some "tuple"
  | .ref n => match M[n]? with
    | some (.lst _) => some "list"
    | some (.ro _) => some "list"
    | _ => none
def isTy (C T : String) : Bool := T == C || (T == "bool" && C == "int")
def gIsi (C : String) (M : Mem) (x : W) : Option (W × Mem) := (tyW M x).map fun T => (.bl (isTy C T), M)
def gIsi2 (C D : String) (M : Mem) (x : W) : Option (W × Mem) := (tyW M x).map fun T => (.bl (isTy C T || isTy D T), M)
/-! ### methods of lists -/
def mAppend : Fn := fun ws M => match ws with
  | [.ref n, w] => match M[n]? with
    | some (.lst a) => if a.length < 16777216 then some (.non, M.set n (.lst (a ++ [w]))) else none
    | _ => none
  | _ => none
def mPop : Fn := fun ws M => match ws with
  | [.ref n] => match M[n]? with
    | some (.lst a) => a[a.length - 1]?.map fun w => (w, M.set n (.lst a.dropLast))
    | _ => none
  | _ => none
def mPopAt : Fn := fun ws M => match ws with
  | [.ref n, .int i] => match M[n]? with
    | some (.lst a) => if small62 i = true then (ixW a.length i).bind fun j => a[j]?.map fun w => (w, M.set n (.lst (a.eraseIdx j))) else none
    | _ => none
  | _ => none
def isLst (M : Mem) (w : W) : Bool := match w with
  | .ref n => match M[n]? with
    | some (.lst _) => true
    | _ => false
  | _ => false
/-- o.m(..), o a list -/
def eML (f : Fn) (o : CE) (as : List CE) : CE := fun σ M => (o σ M).bind fun p => if isLst p.2 p.1 = true then (eArgs as σ p.2).bind fun q => f (p.1 :: q.1) q.2 else none
/-- xs[i] = w -/
def putL (M : Mem) (o k w : W) : Option Mem := match o, k with
  | .ref n, .int i => match M[n]? with
    | some (.lst a) => (ixW a.length i).map fun j => M.set n (.lst (a.set j w))
    | _ => none
  | _, _ => none

/-! ### lists of ints -/
def asInts : List W → Option (List Int)
  | [] => some []
  | .int i :: ws => (asInts ws).map (i :: ·)
  | _ :: _ => none
theorem asInts_map (ns : List Int) : asInts (ns.map W.int) = some ns := by
  induction ns with
  | nil => rfl
  | cons n ns ih => rw [List.map_cons, asInts, ih]; rfl
theorem asInts_some : ∀ {ws : List W} {ns : List Int}, asInts ws = some ns → ws = ns.map W.int
  | [], _, h => by cases h; rfl
  | .int i :: ws, ns, h => by
    rw [asInts] at h
    obtain ⟨ms, h1, rfl⟩ := Option.map_eq_some_iff.mp h
    rw [asInts_some h1]; rfl
  | .non :: _, _, h => by cases h
  | .bl _ :: _, _, h => by cases h
  | .str _ :: _, _, h => by cases h
  | .tup _ :: _, _, h => by cases h
  | .ref _ :: _, _, h => by cases h

theorem rangeW_get {lo : Int} {n i : Nat} {w : W} (h : (rangeW lo n)[i]? = some w) : i < n ∧ w = .int (lo + (i : Nat)) := by
  unfold rangeW at h
  rw [List.getElem?_map] at h
  by_cases hi : i < n
  · rw [List.getElem?_range hi] at h
    cases h
    exact ⟨hi, rfl⟩
  · rw [List.getElem?_eq_none (by simpa using hi)] at h
    cases h
theorem rangeW_length {lo : Int} {n : Nat} : (rangeW lo n).length = n := by simp [rangeW]

/-! ### ids that stand -/
mutual
def W.closed (k : Nat) : W → Bool
  | .ref n => decide (n < k)
  | .tup ws => W.closeds k ws
  | .non | .bl _ | .int _ | .str _ => true
def W.closeds (k : Nat) : List W → Bool
  | [] => true
  | w :: ws => W.closed k w && W.closeds k ws
end
def MO.closed (k : Nat) : MO → Bool
  | .lst ws | .ro ws => W.closeds k ws
  | .dT _ kvs | .dK kvs => kvs.all fun p => p.1.closed k && p.2.closed k
def Closed (M : Mem) : Prop := ∀ mo ∈ M, mo.closed M.length = true
/-- a def's body keeps the promise F: n slots; what it laid besides is forgotten -/
def KeepsP (n : Nat) (body : CS) (F : Fn) : Prop := ∀ ws M w M', Closed M → (∀ x ∈ ws, x.closed M.length = true) → F ws M = some (w, M') →
  ∃ g, (body (ws.map some ++ List.replicate (n - ws.length) none) M = some (.rt w (M' ++ g)) ∨
      w = .non ∧ ∃ σ', body (ws.map some ++ List.replicate (n - ws.length) none) M = some (.nx σ' (M' ++ g))) ∧
    M.length ≤ M'.length ∧ Closed M' ∧ w.closed M'.length = true
/-! ### other ids for the same things -/
mutual
def W.ren (r : Nat → Nat) : W → W
  | .ref n => .ref (r n)
  | .tup ws => .tup (W.rens r ws)
  | .non => .non
  | .bl b => .bl b
  | .int i => .int i
  | .str x => .str x
def W.rens (r : Nat → Nat) : List W → List W
  | [] => []
  | w :: ws => W.ren r w :: W.rens r ws
end
def MO.ren (r : Nat → Nat) : MO → MO
  | .lst ws => .lst (W.rens r ws)
  | .ro ws => .ro (W.rens r ws)
  | .dT m kvs => .dT m (kvs.map fun p => (p.1.ren r, p.2.ren r))
  | .dK kvs => .dK (kvs.map fun p => (p.1.ren r, p.2.ren r))
/-- .. up to the new things' ids -/
def Keeps (n : Nat) (body : CS) (F : Fn) : Prop := ∀ ws M w M', Closed M → (∀ x ∈ ws, x.closed M.length = true) → F ws M = some (w, M') →
  ∃ (r : Nat → Nat) (M2 : Mem), (body (ws.map some ++ List.replicate (n - ws.length) none) M = some (.rt (w.ren r) M2) ∨
      w = .non ∧ ∃ σ', body (ws.map some ++ List.replicate (n - ws.length) none) M = some (.nx σ' M2)) ∧
    (∀ i < M.length, r i = i) ∧ (∀ (i : Nat) (mo : MO), M'[i]? = some mo → M2[r i]? = some (mo.ren r)) ∧ (∀ i j, i < M'.length → j < M'.length → r i = r j → i = j) ∧
    M.length ≤ M'.length ∧ Closed M' ∧ w.closed M'.length = true
mutual
theorem W.ren_id {r : Nat → Nat} (h : ∀ i, r i = i) : ∀ w : W, w.ren r = w
  | .ref n => by rw [W.ren, h]
  | .tup ws => by rw [W.ren, W.rens_id h ws]
  | .non => rfl
  | .bl _ => rfl
  | .int _ => rfl
  | .str _ => rfl
theorem W.rens_id {r : Nat → Nat} (h : ∀ i, r i = i) : ∀ ws : List W, W.rens r ws = ws
  | [] => rfl
  | w :: ws => by rw [W.rens, W.ren_id h w, W.rens_id h ws]
end
theorem MO.ren_id (mo : MO) : mo.ren id = mo := by
  have h : ∀ i : Nat, (id i : Nat) = i := fun _ => rfl
  cases mo with
  | lst ws => rw [MO.ren, W.rens_id h]
  | ro ws => rw [MO.ren, W.rens_id h]
  | dT m kvs => rw [MO.ren]; simp [W.ren_id h]
  | dK kvs => rw [MO.ren]; simp [W.ren_id h]
theorem KeepsP.keeps {n : Nat} {body : CS} {F : Fn} (h : KeepsP n body F) : Keeps n body F := by
  intro ws M w M' hc hw e
  obtain ⟨g, h1, h2, h3, h4⟩ := h ws M w M' hc hw e
  refine ⟨id, M' ++ g, by rw [W.ren_id (r := id) fun _ => rfl]; exact h1, fun _ _ => rfl, fun i mo hi => ?_, fun _ _ _ _ e => e, h2, h3, h4⟩
  rw [MO.ren_id]
  show (M' ++ g)[i]? = _
  rw [List.getElem?_append_left (List.getElem?_eq_some_iff.mp hi).1]; exact hi
mutual
theorem W.ren_eq {r : Nat → Nat} {k : Nat} (h : ∀ i < k, r i = i) : ∀ w : W, w.closed k = true → w.ren r = w
  | .ref n, c => by rw [W.closed] at c; rw [W.ren, h n (of_decide_eq_true c)]
  | .tup ws, c => by rw [W.closed] at c; rw [W.ren, W.rens_eq h ws c]
  | .non, _ => rfl
  | .bl _, _ => rfl
  | .int _, _ => rfl
  | .str _, _ => rfl
theorem W.rens_eq {r : Nat → Nat} {k : Nat} (h : ∀ i < k, r i = i) : ∀ ws : List W, W.closeds k ws = true → W.rens r ws = ws
  | [], _ => rfl
  | w :: ws, c => by
    rw [W.closeds, Bool.and_eq_true] at c
    rw [W.rens, W.ren_eq h w c.1, W.rens_eq h ws c.2]
end
theorem MO.ren_eq {r : Nat → Nat} {k : Nat} (h : ∀ i < k, r i = i) {mo : MO} (c : mo.closed k = true) : mo.ren r = mo := by
  cases mo with
  | lst ws => rw [MO.ren, W.rens_eq h ws c]
  | ro ws => rw [MO.ren, W.rens_eq h ws c]
  | dT m kvs =>
    rw [MO.ren]
    congr 1
    rw [MO.closed, List.all_eq_true] at c
    refine (List.map_congr_left fun p hp => ?_).trans (List.map_id _)
    have := c p hp
    rw [Bool.and_eq_true] at this
    rw [W.ren_eq h _ this.1, W.ren_eq h _ this.2]; rfl
  | dK kvs =>
    rw [MO.ren]
    congr 1
    rw [MO.closed, List.all_eq_true] at c
    refine (List.map_congr_left fun p hp => ?_).trans (List.map_id _)
    have := c p hp
    rw [Bool.and_eq_true] at this
    rw [W.ren_eq h _ this.1, W.ren_eq h _ this.2]; rfl
end BF

set_option Elab.async false
set_option linter.all false
set_option autoImplicit false
set_option maxRecDepth 100000
/-! The plain reading is kept by the program: one rule a construct, lifted from the hand layer's. -/
namespace BF
open PySem PySem.Spec
open PyProof.Rows L2

/-- the known objects, and the world -/
structure KW where
  fr : PySem.W.Frag
  wd : World
  tc : Addr
/-- the class whose instances are followed -/
def tabOf (mg : Str → Option Value) : Addr := match mg "Tab" with
  | some (.ref C) => C
  | _ => 0
instance : Coe KW PySem.W.Frag := ⟨KW.fr⟩
abbrev _root_.L2.Cx.KW (X : L2.Cx) : KW := ⟨X.K, X.w, tabOf X.mg⟩
/-! ### reading values off the abstract heap -/
mutual
inductive Rd (K : KW) (H : Hp) (loc : List Addr) : V → W → Prop
  | non : Rd K H loc .non .non
  | bl (b : Bool) : Rd K H loc (.bl b) (.bl b)
  | int (i : Int) : Rd K H loc (.int i) (.int i)
  | str (x : Str) : PyData.strOk x = true → x.length ≤ 16777216 → Rd K H loc (.str x) (.str x)
  | tup {a : Addr} {xs : List V} {ws : List W} : SqT K H a xs → Rds K H loc xs ws → Rd K H loc (.ref a) (.tup ws)
  | ref {a : Addr} {n : Nat} : loc[n]? = some a → Rd K H loc (.ref a) (.ref n)
inductive Rds (K : KW) (H : Hp) (loc : List Addr) : List V → List W → Prop
  | nil : Rds K H loc [] []
  | cons {v : V} {vs : List V} {w : W} {ws : List W} : Rd K H loc v w → Rds K H loc vs ws → Rds K H loc (v :: vs) (w :: ws)
end

/-- what stays: tuples, and what is locked -/
structure Ext (K : KW) (H H' : Hp) : Prop where
  tup : ∀ a xs, SqT K H a xs → SqT K H' a xs
  frz : ∀ a o u, H a = some (.frz o u) → H' a = some (.frz o u)
theorem Ext.refl {K : KW} {H : Hp} : Ext K H H := ⟨fun _ _ h => h, fun _ _ _ h => h⟩
theorem Ext.trans {K : KW} {H H1 H2 : Hp} (a : Ext K H H1) (b : Ext K H1 H2) : Ext K H H2 := ⟨fun _ _ h => b.tup _ _ (a.tup _ _ h), fun _ _ _ h => b.frz _ _ _ (a.frz _ _ _ h)⟩
theorem Ext.new {K : KW} {H : Hp} {p : Addr} {o : HO} (hp : H p = none) : Ext K H (upd H p o) := ⟨fun a xs h => by
  rcases h with (h | ⟨u, h⟩) | h
  · exact .inl (.inl (by rw [upd_ne (ne_of_none h hp)]; exact h))
  · exact .inl (.inr ⟨u, by rw [upd_ne (ne_of_none h hp)]; exact h⟩)
  · exact .inr h, fun a o u h => by rw [upd_ne (ne_of_none h hp)]; exact h⟩
/-- what is changed is no tuple, and not locked -/
theorem Ext.upd {K : KW} {H : Hp} {p : Addr} {o u : HO} (hp : H p = some u) (m : Mut (some u)) : Ext K H (upd H p o) := ⟨fun a xs h => by
  rcases h with (h | ⟨v, h⟩) | h
  · refine .inl (.inl ?_)
    rw [upd_ne fun e => ?_]
    · exact h
    · subst e; rw [hp] at h; cases h; exact m
  · refine .inl (.inr ⟨v, ?_⟩)
    rw [upd_ne fun e => ?_]
    · exact h
    · subst e; rw [hp] at h; cases h; exact m
  · exact .inr h, fun a o u h => by
  rw [upd_ne fun e => ?_]
  · exact h
  · subst e; rw [hp] at h; cases h; exact m⟩

section
variable {K : KW} {H H' : Hp} {loc loc' : List Addr}
theorem pre_get {α : Type} {l l' : List α} (h : l <+: l') {n : Nat} {a : α} (e : l[n]? = some a) : l'[n]? = some a := by
  obtain ⟨r, rfl⟩ := h
  rw [List.getElem?_append_left (List.getElem?_eq_some_iff.mp e).1]; exact e
mutual
theorem Rd.mono (e : Ext K H H') (l : loc <+: loc') : ∀ {v : V} {w : W}, Rd K H loc v w → Rd K H' loc' v w
  | _, _, .non => .non
  | _, _, .bl b => .bl b
  | _, _, .int i => .int i
  | _, _, .str x h h2 => .str x h h2
  | _, _, .tup h r => .tup (e.tup _ _ h) (Rds.mono e l r)
  | _, _, .ref h => .ref (pre_get l h)
theorem Rds.mono (e : Ext K H H') (l : loc <+: loc') : ∀ {vs : List V} {ws : List W}, Rds K H loc vs ws → Rds K H' loc' vs ws
  | _, _, .nil => .nil
  | _, _, .cons r rs => .cons (Rd.mono e l r) (Rds.mono e l rs)
end
theorem Rds.length : ∀ {vs : List V} {ws : List W}, Rds K H loc vs ws → vs.length = ws.length
  | _, _, .nil => rfl
  | _, _, .cons _ r => by rw [List.length_cons, List.length_cons, r.length]
theorem Rds.get : ∀ {vs : List V} {ws : List W} {i : Nat} {w : W}, Rds K H loc vs ws → ws[i]? = some w → ∃ v, vs[i]? = some v ∧ Rd K H loc v w
  | _, _, _, _, .nil, e => by simp at e
  | _, _, 0, _, .cons r _, e => ⟨_, rfl, by simp at e; subst e; exact r⟩
  | _, _, i + 1, _, .cons _ r, e => by
    obtain ⟨v, h1, h2⟩ := r.get (i := i) (by simpa using e)
    exact ⟨v, by simpa using h1, h2⟩
theorem Rds.get' : ∀ {vs : List V} {ws : List W} {i : Nat} {v : V}, Rds K H loc vs ws → vs[i]? = some v → ∃ w, ws[i]? = some w ∧ Rd K H loc v w
  | _, _, _, _, .nil, e => by simp at e
  | _, _, 0, _, .cons r _, e => ⟨_, rfl, by simp at e; subst e; exact r⟩
  | _, _, i + 1, _, .cons _ r, e => by
    obtain ⟨v, h1, h2⟩ := r.get' (i := i) (by simpa using e)
    exact ⟨v, by simpa using h1, h2⟩
theorem Rds.append : ∀ {vs us : List V} {ws zs : List W}, Rds K H loc vs ws → Rds K H loc us zs → Rds K H loc (vs ++ us) (ws ++ zs)
  | _, _, _, _, .nil, s => s
  | _, _, _, _, .cons r rs, s => .cons r (rs.append s)
theorem Rds.take : ∀ {vs : List V} {ws : List W} (n : Nat), Rds K H loc vs ws → Rds K H loc (vs.take n) (ws.take n)
  | _, _, 0, _ => .nil
  | _, _, _ + 1, .nil => .nil
  | _, _, n + 1, .cons r rs => .cons r (rs.take n)
theorem Rds.drop : ∀ {vs : List V} {ws : List W} (n : Nat), Rds K H loc vs ws → Rds K H loc (vs.drop n) (ws.drop n)
  | _, _, 0, r => r
  | _, _, _ + 1, .nil => .nil
  | _, _, n + 1, .cons _ rs => rs.drop n
theorem Rds.set {v : V} {w : W} (r : Rd K H loc v w) : ∀ {vs : List V} {ws : List W} (i : Nat), Rds K H loc vs ws → Rds K H loc (vs.set i v) (ws.set i w)
  | _, _, _, .nil => .nil
  | _, _, 0, .cons _ rs => .cons r rs
  | _, _, i + 1, .cons q rs => .cons q (Rds.set r i rs)
theorem Rds.erase : ∀ {vs : List V} {ws : List W} (i : Nat), Rds K H loc vs ws → Rds K H loc (vs.eraseIdx i) (ws.eraseIdx i)
  | _, _, _, .nil => .nil
  | _, _, 0, .cons _ rs => rs
  | _, _, i + 1, .cons q rs => .cons q (Rds.erase i rs)
theorem Rds.dropLast {vs : List V} {ws : List W} (h : Rds K H loc vs ws) : Rds K H loc vs.dropLast ws.dropLast := by
  rw [List.dropLast_eq_take, List.dropLast_eq_take, h.length]; exact h.take _
theorem Rds.rep {vs : List V} {ws : List W} (h : Rds K H loc vs ws) : ∀ k : Nat, Rds K H loc (List.replicate k vs).flatten (List.replicate k ws).flatten
  | 0 => .nil
  | k + 1 => by rw [List.replicate_succ, List.replicate_succ, List.flatten_cons, List.flatten_cons]; exact h.append (Rds.rep h k)
theorem Rds.rev : ∀ {vs : List V} {ws : List W}, Rds K H loc vs ws → Rds K H loc vs.reverse ws.reverse
  | _, _, .nil => .nil
  | _, _, .cons r rs => by rw [List.reverse_cons, List.reverse_cons]; exact rs.rev.append (.cons r .nil)

/-! ### the memory -/
/-- a list that nobody writes -/
def RO (K : KW) (H : Hp) (a : Addr) (xs : List V) : Prop := (∃ o, H a = some (.frz o (.lst xs))) ∨
  ∃ (o : Obj) (its : Array Value) (n : Nat), K.fr.lookup a = some o ∧ o.cls = .type "list" ∧ o.dict = none ∧ o.data = .seq its n ∧ its.size ≤ sizeLine ∧ Vals xs its.toList
theorem RO.sq {a : Addr} {xs : List V} (h : RO K H a xs) : SqL K H a xs := by
  rcases h with ⟨o, h⟩ | h
  · exact .inl (.inr ⟨o, h⟩)
  · exact .inr h
/-- a key that is a number or a text -/
def keyW : Key → W
  | .inl i => .int i
  | .inr x => .str x
def KeyOk : Key → Prop
  | .inl _ => True
  | .inr x => PyData.strOk x = true ∧ x.length ≤ 16777216
mutual
/-- a value as a key of a dict keyed by nested tuples -/
def keyN : W → Option NestedKey
  | .non => some .none
  | .bl b => some (.num (if b = true then 1 else 0))
  | .int i => some (.num i)
  | .str x => some (.text x)
  | .tup ws => (keyNs ws).map .tup
  | .ref _ => none
def keyNs : List W → Option (List NestedKey)
  | [] => some []
  | w :: ws => match keyN w, keyNs ws with
    | some k, some ks => some (k :: ks)
    | _, _ => none
end
/-- the dict at a, keyed by nested tuples: keys, where their tuples stand, values -/
abbrev NE := List (NestedKey × Addr × V)
def entryN (w : World) (x : NestedKey × Addr × Value) : DictEntry := ⟨x.1.hash w, .ref x.2.1, x.2.2⟩
abbrev NP : NE → List (NestedKey × Addr × Value) → Prop := Paired fun p q => p.1 = q.1 ∧ p.2.1 = q.2.1 ∧ RelV p.2.2 q.2.2
def nestO (w : World) (a : Addr) (es : NE) : HO := .ext fun h => es.length ≤ sizeLine ∧ (a == sysModules) = false ∧ ∃ xs : List (NestedKey × Addr × Value), NP es xs ∧
  ∃ o en ep, h.get? a = some o ∧ o.ExactDict ∧ o.data = .dict en ep ∧ en.toList = xs.map (entryN w) ∧ (xs.map (·.1)).Nodup
structure NestOk (K : KW) (H : Hp) (loc : List Addr) (es : NE) (ws : List (W × W)) : Prop where
  keys : es.map (fun e => some e.1) = ws.map (fun p => keyN p.1)
  dep : ∀ e ∈ es, e.1.depth ≤ 8
  ks : Rds K H loc (es.map fun e => V.ref e.2.1) (ws.map (·.1))
  vs : Rds K H loc (es.map fun e => e.2.2) (ws.map (·.2))
theorem NestOk.mono {es : NE} {ws : List (W × W)} (e : Ext K H H') (l : loc <+: loc') (h : NestOk K H loc es ws) : NestOk K H' loc' es ws := ⟨h.keys, h.dep, h.ks.mono e l, h.vs.mono e l⟩
structure FlatOk (K : KW) (H : Hp) (loc : List Addr) (kvs : List (Key × V)) (ws : List (W × W)) : Prop where
  keys : kvs.map (fun p => keyW p.1) = ws.map (·.1)
  ok : ∀ p ∈ kvs, KeyOk p.1
  vs : Rds K H loc (kvs.map (·.2)) (ws.map (·.2))
theorem FlatOk.mono {kvs : List (Key × V)} {ws : List (W × W)} (e : Ext K H H') (l : loc <+: loc') (h : FlatOk K H loc kvs ws) : FlatOk K H' loc' kvs ws := ⟨h.keys, h.ok, h.vs.mono e l⟩
def MOk (K : KW) (H : Hp) (loc : List Addr) (a : Addr) : MO → Prop
  | .lst ws => ∃ xs, H a = some (.lst xs) ∧ Rds K H loc xs ws
  | .ro ws => ∃ xs, RO K H a xs ∧ Rds K H loc xs ws
  | .dK ws => ∃ kvs : List (Key × V), H a = some (.dK kvs) ∧ kvs.map (fun p => keyW p.1) = ws.map (·.1) ∧ (∀ p ∈ kvs, KeyOk p.1) ∧ Rds K H loc (kvs.map (·.2)) (ws.map (·.2))
  | .dT .nest ws => ∃ es, H a = some (nestO K.wd a es) ∧ NestOk K H loc es ws
  | .dT .lockF ws => ∃ o kvs, H a = some (.frz o (.dK kvs)) ∧ FlatOk K H loc kvs ws
  | .dT .lockN ws => ∃ o es, H a = some (.frz o (nestO K.wd a es)) ∧ NestOk K H loc es ws
  | .dT .tab ws => ∃ dx fs, H a = some (.ins K.tc dx fs) ∧ FlatOk K H loc (fs.map fun p => (Sum.inr p.1, p.2)) ws
/-- written while it stands so -/
def isMut : MO → Bool
  | .ro _ => false
  | .dT .lockF _ => false
  | .dT .lockN _ => false
  | _ => true
/-- one id alone for it -/
def isOwn : MO → Bool
  | .ro _ => false
  | _ => true
theorem own_of {mo : MO} (h : isMut mo = true) : isOwn mo = true := by
  cases mo with
  | ro _ => cases h
  | _ => rfl
structure Store (K : KW) (H : Hp) (loc : List Addr) (M : Mem) : Prop where
  len : loc.length = M.length
  ok : ∀ (i : Nat) (a : Addr) (mo : MO), loc[i]? = some a → M[i]? = some mo → MOk K H loc a mo
  apart : ∀ (i j : Nat) (a : Addr) (m n : MO), loc[i]? = some a → loc[j]? = some a → M[i]? = some m → M[j]? = some n → isOwn m = true → isOwn n = true → i = j
theorem Store.at {M : Mem} (s : Store K H loc M) {i : Nat} {mo : MO} (h : M[i]? = some mo) : ∃ a, loc[i]? = some a ∧ MOk K H loc a mo := by
  have hi : i < loc.length := by rw [s.len]; exact (List.getElem?_eq_some_iff.mp h).1
  exact ⟨loc[i], List.getElem?_eq_getElem hi, s.ok i _ mo (List.getElem?_eq_getElem hi) h⟩
theorem RO.same {a : Addr} {xs : List V} (h : RO K H a xs) (hH : ∀ o, H a = some (.frz o (.lst xs)) → H' a = some (.frz o (.lst xs))) : RO K H' a xs := by
  rcases h with ⟨o, h⟩ | h
  · exact .inl ⟨o, hH o h⟩
  · exact .inr h
theorem MOk.mono {a : Addr} {mo : MO} (e : Ext K H H') (l : loc <+: loc') (hH : ∀ o, H a = some o → H' a = some o) (h : MOk K H loc a mo) : MOk K H' loc' a mo := by
  cases mo with
  | lst ws => obtain ⟨xs, h1, h2⟩ := h; exact ⟨xs, hH _ h1, h2.mono e l⟩
  | ro ws => obtain ⟨xs, h1, h2⟩ := h; exact ⟨xs, h1.same fun o q => hH _ q, h2.mono e l⟩
  | dK ws => obtain ⟨kvs, h1, h2, h3, h4⟩ := h; exact ⟨kvs, hH _ h1, h2, h3, h4.mono e l⟩
  | dT m ws =>
    cases m with
    | nest => obtain ⟨es, h1, h2⟩ := h; exact ⟨es, hH _ h1, h2.mono e l⟩
    | lockF => obtain ⟨o, es, h1, h2⟩ := h; exact ⟨o, es, hH _ h1, h2.mono e l⟩
    | lockN => obtain ⟨o, es, h1, h2⟩ := h; exact ⟨o, es, hH _ h1, h2.mono e l⟩
    | tab => obtain ⟨o, es, h1, h2⟩ := h; exact ⟨o, es, hH _ h1, h2.mono e l⟩
/-- a mutable thing is tracked as such -/
theorem MOk.there {a : Addr} {mo : MO} (m : isMut mo = true) (h : MOk K H loc a mo) : ∃ o, H a = some o ∧ Mut (some o) := by
  cases mo with
  | lst ws => obtain ⟨xs, h1, h2⟩ := h; exact ⟨_, h1, trivial⟩
  | ro ws => cases m
  | dK ws => obtain ⟨kvs, h1, _⟩ := h; exact ⟨_, h1, trivial⟩
  | dT q ws =>
    cases q with
    | nest => obtain ⟨es, h1, h2⟩ := h; exact ⟨_, h1, trivial⟩
    | lockF => cases m
    | lockN => cases m
    | tab => obtain ⟨o, es, h1, h2⟩ := h; exact ⟨_, h1, trivial⟩
theorem MOk.thereO {a : Addr} {mo : MO} (m : isOwn mo = true) (h : MOk K H loc a mo) : ∃ o, H a = some o := by
  cases mo with
  | lst ws => obtain ⟨xs, h1, h2⟩ := h; exact ⟨_, h1⟩
  | ro ws => cases m
  | dK ws => obtain ⟨kvs, h1, _⟩ := h; exact ⟨_, h1⟩
  | dT q ws =>
    cases q with
    | nest => obtain ⟨es, h1, h2⟩ := h; exact ⟨_, h1⟩
    | lockF => obtain ⟨o, es, h1, h2⟩ := h; exact ⟨_, h1⟩
    | lockN => obtain ⟨o, es, h1, h2⟩ := h; exact ⟨_, h1⟩
    | tab => obtain ⟨o, es, h1, h2⟩ := h; exact ⟨_, h1⟩
theorem ro_of {mo : MO} (h : isOwn mo = false) : isMut mo = false := by
  cases mo with
  | ro _ => rfl
  | _ => cases h
/-- what nobody writes stands while mutable things change -/
theorem MOk.calm {a : Addr} {mo : MO} {u v : HO} (z : isMut mo = false) (hu : H a = some u) (mu : Mut (some u)) (h : MOk K H loc a mo) : MOk K (upd H a v) loc a mo := by
  cases mo with
  | lst _ => cases z
  | ro ws =>
    obtain ⟨xs, r1, r2⟩ := h
    rcases r1 with ⟨o, r1⟩ | r1
    · rw [hu] at r1; cases r1; exact mu.elim
    · exact ⟨xs, .inr r1, r2.mono (.upd hu mu) (List.prefix_refl _)⟩
  | dK _ => cases z
  | dT q ws =>
    cases q with
    | nest => cases z
    | tab => cases z
    | lockF => obtain ⟨o, es, r1, _⟩ := h; rw [hu] at r1; cases r1; exact mu.elim
    | lockN => obtain ⟨o, es, r1, _⟩ := h; rw [hu] at r1; cases r1; exact mu.elim
theorem Store.ext {M : Mem} (s : Store K H loc M) (e : Ext K H H') (hH : ∀ a o, H a = some o → H' a = some o) : Store K H' loc M :=
  ⟨s.len, fun i a mo h1 h2 => (s.ok i a mo h1 h2).mono e (List.prefix_refl _) (hH a), s.apart⟩
/-- a tuple is laid -/
theorem Store.newT {M : Mem} {p : Addr} {o : HO} (s : Store K H loc M) (hp : H p = none) : Store K (upd H p o) loc M :=
  s.ext (.new hp) fun a u h => by rw [upd_ne (ne_of_none h hp)]; exact h
/-- a list is laid -/
theorem Store.new {M : Mem} {p : Addr} {o : HO} {mo : MO} (s : Store K H loc M) (hp : H p = none) (hm : MOk K (upd H p o) (loc ++ [p]) p mo) : Store K (upd H p o) (loc ++ [p]) (M ++ [mo]) := by
  have hlt : ∀ {i : Nat} {a : Addr} {m : MO}, (loc ++ [p])[i]? = some a → (M ++ [mo])[i]? = some m → (loc[i]? = some a ∧ M[i]? = some m) ∨ (i = M.length ∧ a = p ∧ m = mo) := fun {i a m} h1 h2 => by
    by_cases hi : i < M.length
    · rw [List.getElem?_append_left (by rw [s.len]; exact hi)] at h1
      rw [List.getElem?_append_left hi] at h2
      exact .inl ⟨h1, h2⟩
    · rw [List.getElem?_append_right (by rw [s.len]; omega)] at h1
      rw [List.getElem?_append_right (by omega)] at h2
      have e := (List.getElem?_eq_some_iff.mp h2).1
      simp only [List.length_cons, List.length_nil] at e
      have e0 : i = M.length := by omega
      subst e0
      rw [s.len] at h1
      simp at h1 h2
      exact .inr ⟨rfl, h1.symm, h2.symm⟩
  refine ⟨by simp [s.len], fun i a m h1 h2 => ?_, fun i j a m n h1 h2 h3 h4 m1 m2 => ?_⟩
  · rcases hlt h1 h2 with ⟨h1, h2⟩ | ⟨_, rfl, rfl⟩
    · exact (s.ok i a m h1 h2).mono (.new hp) (List.prefix_append _ _) fun o h => by rw [upd_ne (ne_of_none h hp)]; exact h
    · exact hm
  · rcases hlt h1 h3 with ⟨g1, g3⟩ | ⟨e1, e2, _⟩
    · rcases hlt h2 h4 with ⟨g2, g4⟩ | ⟨_, e2, _⟩
      · exact s.apart i j a m n g1 g2 g3 g4 m1 m2
      · obtain ⟨o, q⟩ := (s.ok i a m g1 g3).thereO m1
        rw [e2, hp] at q; cases q
    · rcases hlt h2 h4 with ⟨g2, g4⟩ | ⟨e3, _, _⟩
      · obtain ⟨o, q⟩ := (s.ok j a n g2 g4).thereO m2
        rw [e2, hp] at q; cases q
      · rw [e1, e3]
/-- a mutable thing is changed -/
theorem Store.put0 {M : Mem} {i : Nat} {a : Addr} {m mo : MO} {o : HO} (s : Store K H loc M) (h1 : loc[i]? = some a) (h2 : M[i]? = some m) (m1 : isMut m = true) (hm : MOk K (upd H a o) loc a mo) : Store K (upd H a o) loc (M.set i mo) := by
  obtain ⟨u, hu, mu⟩ := (s.ok i a m h1 h2).there m1
  have hi : i < M.length := (List.getElem?_eq_some_iff.mp h2).1
  refine ⟨by simp [s.len], fun j b n q1 q2 => ?_, fun j k b m' n' q1 q2 q3 q4 z1 z2 => ?_⟩
  · by_cases e : i = j
    · subst e
      rw [List.getElem?_set_self hi] at q2
      cases q2
      rw [h1] at q1; cases q1
      exact hm
    · rw [List.getElem?_set_ne e] at q2
      have hb := s.ok j b n q1 q2
      have en : b ≠ a ∨ (isOwn n = false ∧ b = a) := by
        by_cases eb : b = a
        · subst eb
          refine .inr ⟨?_, rfl⟩
          cases z : isOwn n with
          | false => rfl
          | true => exact absurd (s.apart i j b m n h1 q1 h2 q2 (own_of m1) z) e
        · exact .inl eb
      rcases en with en | ⟨z, rfl⟩
      · exact hb.mono (.upd hu mu) (List.prefix_refl _) fun o h => by rw [upd_ne en]; exact h
      · exact hb.calm (ro_of z) hu mu
  · have wt : ∀ {x : Nat} {b : Addr} {y : MO}, (M.set i mo)[x]? = some y → isOwn y = true → ∃ y', M[x]? = some y' ∧ isOwn y' = true := fun {x b y} q z => by
      by_cases e : i = x
      · subst e; exact ⟨m, h2, own_of m1⟩
      · rw [List.getElem?_set_ne e] at q; exact ⟨y, q, z⟩
    obtain ⟨y1, w1, w2⟩ := wt (b := b) q3 z1
    obtain ⟨y2, w3, w4⟩ := wt (b := b) q4 z2
    exact s.apart j k b y1 y2 q1 q2 w1 w3 w2 w4

theorem Store.put {M : Mem} {i : Nat} {a : Addr} {m mo : MO} {o : HO} (s : Store K H loc M) (h1 : loc[i]? = some a) (h2 : M[i]? = some m) (m1 : isMut m = true) (m2 : isMut mo = true) (hm : MOk K (upd H a o) loc a mo) : Store K (upd H a o) loc (M.set i mo) := s.put0 h1 h2 m1 hm

structure Rel (K : KW) (loc : List Addr) (σ : Sl) (M : Mem) (σV : L2.St) (H : Hp) : Prop where
  st : Store K H loc M
  len : σ.length = σV.length
  sl : ∀ (i : Nat) (w : W), σ[i]? = some (some w) → ∃ v, σV[i]? = some (some v) ∧ Rd K H loc v w
theorem Rel.move {σ : Sl} {M M' : Mem} {σV : L2.St} (r : Rel K loc σ M σV H) (s : Store K H' loc' M') (e : Ext K H H') (l : loc <+: loc') : Rel K loc' σ M' σV H' :=
  ⟨s, r.len, fun i w h => by
    obtain ⟨v, h1, h2⟩ := r.sl i w h
    exact ⟨v, h1, h2.mono e l⟩⟩
theorem Rel.set {σ : Sl} {M : Mem} {σV : L2.St} (r : Rel K loc σ M σV H) {v : V} {w : W} (h : Rd K H loc v w) (i : Nat) : Rel K loc (σ.set i (some w)) M (σV.set i (some v)) H :=
  ⟨r.st, by rw [List.length_set, List.length_set]; exact r.len, fun j u e => by
    by_cases hij : i = j
    · subst hij
      have hi : i < σ.length := by have := (List.getElem?_eq_some_iff.mp e).1; simpa using this
      rw [List.getElem?_set_self hi] at e
      cases e
      exact ⟨v, by rw [List.getElem?_set_self (by rw [← r.len]; exact hi)], h⟩
    · rw [List.getElem?_set_ne hij] at e
      rw [List.getElem?_set_ne hij]
      exact r.sl j u e⟩
theorem Rel.unset {σ : Sl} {M : Mem} {σV : L2.St} (r : Rel K loc σ M σV H) (i : Nat) : Rel K loc (σ.set i none) M (σV.set i none) H :=
  ⟨r.st, by rw [List.length_set, List.length_set]; exact r.len, fun j u e => by
    by_cases hij : i = j
    · subst hij
      by_cases hi : i < σ.length
      · rw [List.getElem?_set_self hi] at e; cases e
      · rw [List.getElem?_eq_none (by simpa using hi)] at e; cases e
    · rw [List.getElem?_set_ne hij] at e
      rw [List.getElem?_set_ne hij]
      exact r.sl j u e⟩
theorem Rel.wipe {σ : Sl} {M : Mem} {σV : L2.St} (r : Rel K loc σ M σV H) : ∀ vs : List Nat, Rel K loc (wipe σ vs) M (L2.wipe σV vs) H
  | [] => r
  | v :: vs => (Rel.wipe r vs).unset v
end

/-! ### the readings -/
/-- what is wanted behind an expression -/
def Aft (K : KW) (H : Hp) (loc : List Addr) (w : W) (M' : Mem) (Q : VK) : Prop :=
  ∀ v H' loc', Store K H' loc' M' → Rd K H' loc' v w → Ext K H H' → loc <+: loc' → Q v H'
def TC (K : KW) (c : CE) : TE := fun σV H Q => ∃ loc σ M w M', Rel K loc σ M σV H ∧ c σ M = some (w, M') ∧ Aft K H loc w M' Q
def TA' (K : KW) (c : CA) : TA := fun σV H Q => ∃ loc σ M ws M', Rel K loc σ M σV H ∧ c σ M = some (ws, M') ∧
  ∀ vs H' loc', Store K H' loc' M' → Rds K H' loc' vs ws → Ext K H H' → loc <+: loc' → Q vs H'
def TT' (K : KW) (c : CT) : TT := fun σV H Q => ∃ loc σ M b M', Rel K loc σ M σV H ∧ c σ M = some (b, M') ∧
  ∀ H' loc', Store K H' loc' M' → Ext K H H' → loc <+: loc' → Q b H'
def TG' (K : KW) (c : CG) : TG := fun v σV H Q => ∃ loc σ M w σ', Rel K loc σ M σV H ∧ Rd K H loc v w ∧ c w σ = some σ' ∧ ∀ σV', Rel K loc σ' M σV' H → Q σV' H
def TGs' (K : KW) (c : List CG) : TGs := fun vs σV H Q => ∃ loc σ M ws σ', Rel K loc σ M σV H ∧ Rds K H loc vs ws ∧ gAll c ws σ = some σ' ∧ ∀ σV', Rel K loc σ' M σV' H → Q σV' H
def AftS (K : KW) (H : Hp) (loc : List Addr) (D : Ends) : Out → Prop
  | .nx σ' M' => ∀ σV' H' loc', Rel K loc' σ' M' σV' H' → Ext K H H' → loc <+: loc' → D.nx σV' H'
  | .bk σ' M' => ∀ σV' H' loc', Rel K loc' σ' M' σV' H' → Ext K H H' → loc <+: loc' → D.bk σV' H'
  | .ct σ' M' => ∀ σV' H' loc', Rel K loc' σ' M' σV' H' → Ext K H H' → loc <+: loc' → D.ct σV' H'
  | .rt w M' => Aft K H loc w M' D.rt
def TS' (K : KW) (c : CS) : TS := fun D σV H => ∃ loc σ M o, Rel K loc σ M σV H ∧ c σ M = some o ∧ AftS K H loc D o

abbrev EV (X : Cx) (e : Expr) (c : CE) : Prop := PE X e (TC X.KW c)
abbrev EA (X : Cx) (es : List Expr) (c : List CE) : Prop := PA X es (TA' X.KW (eArgs c))
abbrev ET (X : Cx) (e : Expr) (c : CT) : Prop := PT X e (TT' X.KW c)
abbrev EW (X : Cx) (e : Expr) (c : CT) : Prop := PW X e (TT' X.KW c)
abbrev EG (X : Cx) (e : Expr) (c : CG) : Prop := PG X e (TG' X.KW c)
abbrev EGs (X : Cx) (es : List Expr) (c : List CG) : Prop := PGs X es (TGs' X.KW c)
abbrev ES (X : Cx) (s : Stmt) (c : CS) : Prop := PS X s (TS' X.KW c)
abbrev ESs (X : Cx) (s : List Stmt) (c : CS) : Prop := PSs X s (TS' X.KW c)

theorem _root_.L2.PE.mono {X : Cx} {e : Expr} {t t' : TE} (h : PE X e t) (f : ∀ σ H Q, t' σ H Q → t σ H Q) : PE X e t' := ⟨fun p s σ H Q I q => h.run p s σ H Q I (f σ H Q q)⟩
theorem _root_.L2.PA.mono {X : Cx} {e : List Expr} {t t' : TA} (h : PA X e t) (f : ∀ σ H Q, t' σ H Q → t σ H Q) : PA X e t' := ⟨fun o p s σ H Q I q => h.run o p s σ H Q I (f σ H Q q)⟩
theorem _root_.L2.PT.mono {X : Cx} {e : Expr} {t t' : TT} (h : PT X e t) (f : ∀ σ H Q, t' σ H Q → t σ H Q) : PT X e t' := ⟨fun p s σ H Q I q => h.run p s σ H Q I (f σ H Q q)⟩
theorem _root_.L2.PW.mono {X : Cx} {e : Expr} {t t' : TT} (h : PW X e t) (f : ∀ σ H Q, t' σ H Q → t σ H Q) : PW X e t' := ⟨fun o p s σ H Q I q => h.run o p s σ H Q I (f σ H Q q)⟩
theorem _root_.L2.PG.mono {X : Cx} {e : Expr} {t t' : TG} (h : PG X e t) (f : ∀ v σ H Q, t' v σ H Q → t v σ H Q) : PG X e t' := ⟨fun p s σ H v u Q I r q => h.run p s σ H v u Q I r (f v σ H Q q)⟩
theorem _root_.L2.PGs.mono {X : Cx} {e : List Expr} {t t' : TGs} (h : PGs X e t) (f : ∀ v σ H Q, t' v σ H Q → t v σ H Q) : PGs X e t' := ⟨fun p s σ H v u Q I r q => h.run p s σ H v u Q I r (f v σ H Q q)⟩
theorem _root_.L2.PS.mono {X : Cx} {e : Stmt} {t t' : TS} (h : PS X e t) (f : ∀ D σ H, t' D σ H → t D σ H) : PS X e t' := ⟨fun p s σ H D I q => h.run p s σ H D I (f D σ H q)⟩
theorem _root_.L2.PSs.mono {X : Cx} {e : List Stmt} {t t' : TS} (h : PSs X e t) (f : ∀ D σ H, t' D σ H → t D σ H) : PSs X e t' := ⟨fun p s σ H D I q => h.run p s σ H D I (f D σ H q)⟩
end BF

set_option Elab.async false
set_option linter.all false
set_option autoImplicit false
set_option maxRecDepth 100000
/-! The rules: expressions, tests, targets, statements. -/
namespace BF
open PySem PySem.Spec
open PyProof.Rows L2

section
variable {X : Cx} {a b c e : Expr} {ca cb cc : CE} {pos : Pos}

/-! ### names, constants -/
theorem bind_some {α β : Type} {x : Option α} {f : α → Option β} {b : β} (h : x.bind f = some b) : ∃ a, x = some a ∧ f a = some b := Option.bind_eq_some_iff.mp h
theorem r_var (i : Nat) {x : Str} (hN : X.N[i]? = some x := by rfl)
    (hv : Vis X.env.scope x := by first | exact Or.inl rfl | exact Or.inr (Or.inl rfl) | exact Or.inr (Or.inr rfl))
    (hd : (x == ("__debug__" : Str)) = false := by decide) (hcd : (x == ("__classdict__" : Str)) = false := by decide) : EV X (.Name x pos) (eV i) :=
  (pe_var hN hv hd hcd).mono fun σV H Q ⟨loc, σ, M, w, M', rel, e, aft⟩ => by
    have h : σ.getD i none = some w ∧ M' = M := by
      unfold eV at e
      split at e
      · rename_i u hu; cases e; exact ⟨hu, rfl⟩
      · cases e
    obtain ⟨h, rfl⟩ := h
    have h' : σ[i]? = some (some w) := by
      rw [List.getD_eq_getElem?_getD] at h
      cases q : σ[i]? with
      | none => rw [q] at h; cases h
      | some z => rw [q] at h; exact congrArg some h
    obtain ⟨v, h1, h2⟩ := rel.sl i w h'
    exact ⟨v, h1, aft v H loc rel.st h2 .refl (List.prefix_refl _)⟩
theorem lit_aux {v : V} {w : W} (hr : ∀ H loc, Rd X.KW H loc v w) (h : PE X e (tC v)) : EV X e (eL w) :=
  h.mono fun σV H Q ⟨loc, σ, M, u, M', rel, e, aft⟩ => by
    cases e
    exact aft v H loc rel.st (hr H loc) .refl (List.prefix_refl _)
theorem r_int {i : Int} {j} : EV X (.Constant (.int i) j pos) (eL (.int i)) := lit_aux (fun _ _ => .int i) pe_int
theorem r_bl {i : Bool} {j} : EV X (.Constant (.bool i) j pos) (eL (.bl i)) := lit_aux (fun _ _ => .bl i) pe_bl
theorem r_non {j} : EV X (.Constant .none j pos) (eL .non) := lit_aux (fun _ _ => .non) pe_non
theorem r_str {x : Str} {j} (h : PyData.strOk x = true := by decide +kernel) (h2 : x.length ≤ 16777216 := by decide +kernel) : EV X (.Constant (.str x) j pos) (eL (.str x)) := lit_aux (fun _ _ => .str x h h2) pe_str

/-! ### two operands -/
def Lift1 (K : KW) (r : V → Hp → VK → Prop) (g : Mem → W → Option (W × Mem)) : Prop :=
  ∀ (H : Hp) (loc : List Addr) (M : Mem) (x : W) (v : V) (w : W) (M' : Mem) (Q : VK), Store K H loc M → Rd K H loc v x → g M x = some (w, M') → Aft K H loc w M' Q → r v H Q
def Lift2 (K : KW) (r : R2) (g : Mem → W → W → Option (W × Mem)) : Prop :=
  ∀ (H : Hp) (loc : List Addr) (M : Mem) (x y : W) (v u : V) (w : W) (M' : Mem) (Q : VK), Store K H loc M → Rd K H loc v x → Rd K H loc u y → g M x y = some (w, M') → Aft K H loc w M' Q → r v u H Q
theorem Aft.after {K : KW} {H H1 : Hp} {loc loc1 : List Addr} {w : W} {M' : Mem} {Q : VK} (h : Aft K H loc w M' Q) (e : Ext K H H1) (l : loc <+: loc1) : Aft K H1 loc1 w M' Q :=
  fun v H' loc' s r e' l' => h v H' loc' s r (e.trans e') (l.trans l')
theorem AftS.after {K : KW} {H H1 : Hp} {loc loc1 : List Addr} {o : Out} {D : Ends} (h : AftS K H loc D o) (e : Ext K H H1) (l : loc <+: loc1) : AftS K H1 loc1 D o := by
  cases o with
  | nx σ' M' => exact fun σV' H' loc' r e' l' => h σV' H' loc' r (e.trans e') (l.trans l')
  | bk σ' M' => exact fun σV' H' loc' r e' l' => h σV' H' loc' r (e.trans e') (l.trans l')
  | ct σ' M' => exact fun σV' H' loc' r e' l' => h σV' H' loc' r (e.trans e') (l.trans l')
  | rt w M' => exact Aft.after (K := K) h e l
/-- run a: then what follows -/
theorem run1 {K : KW} {σV : L2.St} {H : Hp} {loc : List Addr} {σ : Sl} {M : Mem} {p : W × Mem} {Q : VK} (rel : Rel K loc σ M σV H) (ha : ca σ M = some p)
    (h : ∀ v H1 loc1, Rel K loc1 σ p.2 σV H1 → Rd K H1 loc1 v p.1 → Ext K H H1 → loc <+: loc1 → Q v H1) : TC K ca σV H Q :=
  ⟨loc, σ, M, p.1, p.2, rel, ha, fun v H1 loc1 s r e l => h v H1 loc1 (rel.move s e l) r e l⟩
theorem op2 {r : R2} {g : Mem → W → W → Option (W × Mem)} (hl : Lift2 X.KW r g) (σV : L2.St) (H : Hp) (Q : VK) (h : TC X.KW (e2 g ca cb) σV H Q) : tOp r (TC X.KW ca) (TC X.KW cb) σV H Q := by
  obtain ⟨loc, σ, M, w, M', rel, e, aft⟩ := h
  obtain ⟨p, hp, e⟩ := bind_some e
  obtain ⟨q, hq, e⟩ := bind_some e
  refine run1 rel hp fun v H1 loc1 rel1 rd1 ex1 l1 => run1 rel1 hq fun u H2 loc2 rel2 rd2 ex2 l2 => ?_
  exact hl H2 loc2 q.2 p.1 q.1 v u w M' Q rel2.st (rd1.mono ex2 l2) rd2 e (aft.after (ex1.trans ex2) (l1.trans l2))
theorem r_op {op : Operator} {r : R2} {g : Mem → W → W → Option (W × Mem)} (ho : OpR X (binaryOp op) r) (hl : Lift2 X.KW r g) (ha : EV X a ca) (hb : EV X b cb) : EV X (.BinOp a op b pos) (e2 g ca cb) :=
  (pe_op ho ha hb).mono (op2 hl)
theorem r_un {op : UnaryOp} {r : V → Hp → VK → Prop} {g : Mem → W → Option (W × Mem)} (ho : UnR X (unaryOp op) r) (hl : Lift1 X.KW r g) (ha : EV X a ca) : EV X (.UnaryOp op a pos) (e1 g ca) :=
  (pe_un ho ha).mono fun σV H Q ⟨loc, σ, M, w, M', rel, e, aft⟩ => by
    obtain ⟨p, hp, e⟩ := bind_some e
    exact run1 rel hp fun v H1 loc1 rel1 rd1 ex1 l1 => hl H1 loc1 p.2 p.1 v w M' Q rel1.st rd1 e (aft.after ex1 l1)
theorem r_cmp {op : CmpOp} {r : R2} {g : Mem → W → W → Option (W × Mem)} (ho : OpR X (compareOp op) r) (hl : Lift2 X.KW r g) (ha : EV X a ca) (hb : EV X b cb) (hm : behindInMarks op b = false) : EV X (.Compare a [op] [b] pos) (e2 g ca cb) :=
  (pe_cmpR ho ha hb hm).mono (op2 hl)
theorem tb_aux {t : TE} {cv : CE} (hl : ∀ σV H Q, TC X.KW cv σV H Q → t σV H Q) (σV : L2.St) (H : Hp) (Q : Bool → Hp → Prop) (h : TT' X.KW (tB cv) σV H Q) :
    t σV H (fun x H' => ∃ k, x = V.bl k ∧ Q k H') := by
  obtain ⟨loc, σ, M, k, M', rel, e, aft⟩ := h
  obtain ⟨p, hp, e⟩ := bind_some e
  refine hl _ _ _ (run1 rel hp fun v H1 loc1 rel1 rd1 ex1 l1 => ?_)
  split at e
  · rename_i d hd
    cases e
    rw [hd] at rd1
    cases rd1
    exact ⟨_, rfl, aft H1 loc1 rel1.st ex1 l1⟩
  · cases e
theorem t_cmp {op : CmpOp} {r : R2} {g : Mem → W → W → Option (W × Mem)} (ho : OpR X (compareOp op) r) (hl : Lift2 X.KW r g) (ha : EV X a ca) (hb : EV X b cb) (hm : behindInMarks op b = false) : ET X (.Compare a [op] [b] pos) (tB (e2 g ca cb)) :=
  (pt_cmpR ho ha hb hm).mono (tb_aux (op2 hl))
/-- a test that is a plain value (a call, a name) -/
theorem t_val (ha : EV X a ca) (he : ∀ whole, isTrue a X.env whole = (do let v ← whole; standAt a.pos; holding [v] (truthy v)) := by intro _; rfl) : ET X a (tB ca) :=
  (pt_val ha he).mono (tb_aux fun _ _ _ h => h)
theorem isN_of {K : KW} {H : Hp} {loc : List Addr} {v : V} {w : W} (r : Rd K H loc v w) : decide (v = V.non) = isN w := by
  cases r <;> simp [isN]
theorem isN_aux (σV : L2.St) (H : Hp) (Q : VK) (h : TC X.KW (e1 gIsN ca) σV H Q) : tIsN (TC X.KW ca) σV H Q := by
  obtain ⟨loc, σ, M, w, M', rel, e, aft⟩ := h
  obtain ⟨p, hp, e⟩ := bind_some e
  refine run1 rel hp fun v H1 loc1 rel1 rd1 ex1 l1 => ?_
  cases e
  rw [isN_of rd1]
  exact aft _ H1 loc1 rel1.st (.bl _) ex1 l1
theorem notN_aux (σV : L2.St) (H : Hp) (Q : VK) (h : TC X.KW (e1 gNotN ca) σV H Q) : tNotN (TC X.KW ca) σV H Q := by
  obtain ⟨loc, σ, M, w, M', rel, e, aft⟩ := h
  obtain ⟨p, hp, e⟩ := bind_some e
  refine run1 rel hp fun v H1 loc1 rel1 rd1 ex1 l1 => ?_
  cases e
  rw [isN_of rd1]
  exact aft _ H1 loc1 rel1.st (.bl _) ex1 l1
theorem r_isN {j pos'} (ha : EV X a ca) : EV X (.Compare a [.Is] [.Constant .none j pos'] pos) (e1 gIsN ca) := (pe_cmp (pc_isN ha)).mono isN_aux
theorem r_notN {j pos'} (ha : EV X a ca) : EV X (.Compare a [.IsNot] [.Constant .none j pos'] pos) (e1 gNotN ca) := (pe_cmp (pc_notN ha)).mono notN_aux
theorem t_isN {j pos'} (ha : EV X a ca) : ET X (.Compare a [.Is] [.Constant .none j pos'] pos) (tB (e1 gIsN ca)) := (pt_cmp (pc_isN ha)).mono (tb_aux isN_aux)
theorem t_notN {j pos'} (ha : EV X a ca) : ET X (.Compare a [.IsNot] [.Constant .none j pos'] pos) (tB (e1 gNotN ca)) := (pt_cmp (pc_notN ha)).mono (tb_aux notN_aux)
theorem chain_aux {r r' : R2} {g g' : Mem → W → W → Option (W × Mem)} (hl : Lift2 X.KW r g) (hl' : Lift2 X.KW r' g') (σV : L2.St) (H : Hp) (Q : VK) (h : TC X.KW (eChain g g' ca cb cc) σV H Q) :
    tChain r r' (TC X.KW ca) (TC X.KW cb) (TC X.KW cc) σV H Q := by
  obtain ⟨loc, σ, M, w, M', rel, e, aft⟩ := h
  obtain ⟨p, hp, e⟩ := bind_some e
  obtain ⟨q, hq, e⟩ := bind_some e
  obtain ⟨z, hz, e⟩ := bind_some e
  refine run1 rel hp fun v H1 loc1 rel1 rd1 ex1 l1 => run1 rel1 hq fun u H2 loc2 rel2 rd2 ex2 l2 => ?_
  refine hl H2 loc2 q.2 p.1 q.1 v u z.1 z.2 _ rel2.st (rd1.mono ex2 l2) rd2 hz fun x H3 loc3 s3 rd3 ex3 l3 => ?_
  have rel3 := rel2.move s3 ex3 l3
  split at e
  · rename_i hz1
    rw [hz1] at rd3
    cases rd3
    refine ⟨_, rfl, ?_⟩
    rw [if_pos rfl]
    obtain ⟨t, ht, e⟩ := bind_some e
    refine run1 rel3 ht fun y H4 loc4 rel4 rd4 ex4 l4 => ?_
    exact hl' H4 loc4 t.2 q.1 t.1 u y w M' Q rel4.st (rd2.mono (ex3.trans ex4) (l3.trans l4)) rd4 e (aft.after (((ex1.trans ex2).trans ex3).trans ex4) (((l1.trans l2).trans l3).trans l4))
  · rename_i hz1
    rw [hz1] at rd3
    cases rd3
    refine ⟨_, rfl, ?_⟩
    rw [if_neg Bool.false_ne_true]
    cases e
    exact aft _ H3 loc3 s3 (.bl _) ((ex1.trans ex2).trans ex3) ((l1.trans l2).trans l3)
  · cases e
theorem r_chain {op op' : CmpOp} {r r' : R2} {g g' : Mem → W → W → Option (W × Mem)} (ho : OpR X (compareOp op) r) (hl : Lift2 X.KW r g) (ho' : OpR X (compareOp op') r') (hl' : Lift2 X.KW r' g') (ha : EV X a ca) (hb : EV X b cb) (hc : EV X c cc)
    (hm : lastMarks [op, op'] [b, c] = false := by with_unfolding_all rfl) : EV X (.Compare a [op, op'] [b, c] pos) (eChain g g' ca cb cc) := (pe_chain ho ho' ha hb hc hm).mono (chain_aux hl hl')
theorem t_chain {op op' : CmpOp} {r r' : R2} {g g' : Mem → W → W → Option (W × Mem)} (ho : OpR X (compareOp op) r) (hl : Lift2 X.KW r g) (ho' : OpR X (compareOp op') r') (hl' : Lift2 X.KW r' g') (ha : EV X a ca) (hb : EV X b cb) (hc : EV X c cc)
    (hm : lastMarks [op, op'] [b, c] = false := by with_unfolding_all rfl) : ET X (.Compare a [op, op'] [b, c] pos) (tB (eChain g g' ca cb cc)) := (pt_chain ho ho' ha hb hc hm).mono (tb_aux (chain_aux hl hl'))

/-! ### and, or, not, if -/
variable {tA tB' : CT} {rest : List Expr}
/-- run a test -/
theorem runT {K : KW} {σV : L2.St} {H : Hp} {loc : List Addr} {σ : Sl} {M : Mem} {p : Bool × Mem} {Q : Bool → Hp → Prop} (rel : Rel K loc σ M σV H) (ha : tA σ M = some p)
    (h : ∀ H1 loc1, Rel K loc1 σ p.2 σV H1 → Ext K H H1 → loc <+: loc1 → Q p.1 H1) : TT' K tA σV H Q :=
  ⟨loc, σ, M, p.1, p.2, rel, ha, fun H1 loc1 s e l => h H1 loc1 (rel.move s e l) e l⟩
theorem w_one {op} (ha : ET X a tA) : EW X (.BoolOp op [a] pos) tA := by
  cases op with
  | And => exact pw_and1 ha
  | Or => exact pw_or1 ha
theorem w_and (ha : ET X a tA) (hb : EW X (.BoolOp .And (b :: rest) pos) tB') : EW X (.BoolOp .And (a :: b :: rest) pos) (tAnd tA tB') :=
  (pw_and ha hb).mono fun σV H Q ⟨loc, σ, M, k, M', rel, e, aft⟩ => by
    obtain ⟨p, hp, e⟩ := bind_some e
    refine runT rel hp fun H1 loc1 rel1 ex1 l1 => ?_
    split at e
    · rename_i hc
      rw [if_pos hc]
      exact runT (p := (k, M')) rel1 e fun H2 loc2 rel2 ex2 l2 => aft H2 loc2 rel2.st (ex1.trans ex2) (l1.trans l2)
    · rename_i hc
      rw [if_neg hc]
      cases e
      exact aft H1 loc1 rel1.st ex1 l1
theorem w_or (ha : ET X a tA) (hb : EW X (.BoolOp .Or (b :: rest) pos) tB') : EW X (.BoolOp .Or (a :: b :: rest) pos) (tOr tA tB') :=
  (pw_or ha hb).mono fun σV H Q ⟨loc, σ, M, k, M', rel, e, aft⟩ => by
    obtain ⟨p, hp, e⟩ := bind_some e
    refine runT rel hp fun H1 loc1 rel1 ex1 l1 => ?_
    split at e
    · rename_i hc
      rw [if_pos hc]
      cases e
      exact aft H1 loc1 rel1.st ex1 l1
    · rename_i hc
      rw [if_neg hc]
      exact runT (p := (k, M')) rel1 e fun H2 loc2 rel2 ex2 l2 => aft H2 loc2 rel2.st (ex1.trans ex2) (l1.trans l2)
theorem t_w (h : EW X a tA) : ET X a tA := h.pt
theorem t_not (ha : ET X a tA) : ET X (.UnaryOp .Not a pos) (tNot tA) :=
  (pt_not ha).mono fun σV H Q ⟨loc, σ, M, k, M', rel, e, aft⟩ => by
    obtain ⟨p, hp, e⟩ := bind_some e
    cases e
    exact runT rel hp fun H1 loc1 rel1 ex1 l1 => aft H1 loc1 rel1.st ex1 l1
theorem r_one {op} (ha : EV X a ca) : EV X (.BoolOp op [a] pos) ca := pe_one ha
theorem r_and (ha : EV X a ca) (hb : EV X (.BoolOp .And (b :: rest) pos) cb) : EV X (.BoolOp .And (a :: b :: rest) pos) (eAnd ca cb) :=
  (pe_and ha hb).mono fun σV H Q ⟨loc, σ, M, w, M', rel, e, aft⟩ => by
    obtain ⟨p, hp, e⟩ := bind_some e
    refine run1 rel hp fun v H1 loc1 rel1 rd1 ex1 l1 => ?_
    split at e
    · rename_i hc
      rw [hc] at rd1
      cases rd1
      refine ⟨_, rfl, ?_⟩
      rw [if_pos rfl]
      exact run1 (p := (w, M')) rel1 e fun u H2 loc2 rel2 rd2 ex2 l2 => aft u H2 loc2 rel2.st rd2 (ex1.trans ex2) (l1.trans l2)
    · rename_i hc
      rw [hc] at rd1
      cases rd1
      refine ⟨_, rfl, ?_⟩
      rw [if_neg Bool.false_ne_true]
      cases e
      exact aft _ H1 loc1 rel1.st (.bl _) ex1 l1
    · cases e
theorem r_or (ha : EV X a ca) (hb : EV X (.BoolOp .Or (b :: rest) pos) cb) : EV X (.BoolOp .Or (a :: b :: rest) pos) (eOr ca cb) :=
  (pe_or ha hb).mono fun σV H Q ⟨loc, σ, M, w, M', rel, e, aft⟩ => by
    obtain ⟨p, hp, e⟩ := bind_some e
    refine run1 rel hp fun v H1 loc1 rel1 rd1 ex1 l1 => ?_
    split at e
    · rename_i hc
      rw [hc] at rd1
      cases rd1
      refine ⟨_, rfl, ?_⟩
      rw [if_pos rfl]
      cases e
      exact aft _ H1 loc1 rel1.st (.bl _) ex1 l1
    · rename_i hc
      rw [hc] at rd1
      cases rd1
      refine ⟨_, rfl, ?_⟩
      rw [if_neg Bool.false_ne_true]
      exact run1 (p := (w, M')) rel1 e fun u H2 loc2 rel2 rd2 ex2 l2 => aft u H2 loc2 rel2.st rd2 (ex1.trans ex2) (l1.trans l2)
    · cases e
theorem r_not (ha : EV X a ca) : EV X (.UnaryOp .Not a pos) (eNot ca) :=
  (pe_not ha).mono fun σV H Q ⟨loc, σ, M, w, M', rel, e, aft⟩ => by
    obtain ⟨p, hp, e⟩ := bind_some e
    refine run1 rel hp fun v H1 loc1 rel1 rd1 ex1 l1 => ?_
    split at e
    · rename_i hc
      rw [hc] at rd1
      cases rd1
      cases e
      exact ⟨_, rfl, aft _ H1 loc1 rel1.st (.bl _) ex1 l1⟩
    · cases e
theorem r_if (hc : ET X c tA) (ha : EV X a ca) (hb : EV X b cb) : EV X (.IfExp c a b pos) (eIf tA ca cb) :=
  (pe_ifExp hc ha hb).mono fun σV H Q ⟨loc, σ, M, w, M', rel, e, aft⟩ => by
    obtain ⟨p, hp, e⟩ := bind_some e
    refine runT rel hp fun H1 loc1 rel1 ex1 l1 => ?_
    split at e
    · rename_i hc
      rw [if_pos hc]
      exact run1 (p := (w, M')) rel1 e fun u H2 loc2 rel2 rd2 ex2 l2 => aft u H2 loc2 rel2.st rd2 (ex1.trans ex2) (l1.trans l2)
    · rename_i hc
      rw [if_neg hc]
      exact run1 (p := (w, M')) rel1 e fun u H2 loc2 rel2 rd2 ex2 l2 => aft u H2 loc2 rel2.st rd2 (ex1.trans ex2) (l1.trans l2)

/-! ### arguments, displays -/
variable {es : List Expr} {cs : List CE}
theorem runA {K : KW} {σV : L2.St} {H : Hp} {loc : List Addr} {σ : Sl} {M : Mem} {p : List W × Mem} {Q : List V → Hp → Prop} (rel : Rel K loc σ M σV H) (ha : eArgs cs σ M = some p)
    (h : ∀ vs H1 loc1, Rel K loc1 σ p.2 σV H1 → Rds K H1 loc1 vs p.1 → Ext K H H1 → loc <+: loc1 → Q vs H1) : TA' K (eArgs cs) σV H Q :=
  ⟨loc, σ, M, p.1, p.2, rel, ha, fun v H1 loc1 s r e l => h v H1 loc1 (rel.move s e l) r e l⟩
theorem a_nil : EA X [] [] := pa_nil.mono fun σV H Q ⟨loc, σ, M, ws, M', rel, e, aft⟩ => by
  cases e
  exact aft [] H loc rel.st .nil .refl (List.prefix_refl _)
theorem a_cons (ha : EV X a ca) (hb : EA X es cs) (hs : starEach (a :: es) X.env = (false, eval a X.env) :: starEach es X.env := by rfl) : EA X (a :: es) (ca :: cs) :=
  (pa_cons ha hb hs).mono fun σV H Q ⟨loc, σ, M, ws, M', rel, e, aft⟩ => by
    obtain ⟨p, hp, e⟩ := bind_some e
    obtain ⟨q, hq, e⟩ := bind_some e
    cases e
    exact run1 rel hp fun v H1 loc1 rel1 rd1 ex1 l1 => runA rel1 hq fun vs H2 loc2 rel2 rd2 ex2 l2 => aft _ H2 loc2 rel2.st (.cons (rd1.mono ex2 l2) rd2) (ex1.trans ex2) (l1.trans l2)
theorem lineOk {n : Nat} (h : n ≤ 16777216) : n ≤ sizeLine := h
theorem r_tup {x1} (h : EA X es cs) : EV X (.Tuple es x1 pos) (eTup cs) := (pe_tup h).mono fun σV H Q ⟨loc, σ, M, w, M', rel, e, aft⟩ => by
  obtain ⟨p, hp, e⟩ := bind_some e
  split at e
  · rename_i hz
    cases e
    refine runA rel hp fun vs H1 loc1 rel1 rd1 ex1 l1 => ⟨lineOk (by rw [rd1.length]; exact hz), fun q hq => ?_⟩
    exact aft _ _ loc1 (rel1.st.newT hq) (.tup (SqT.of upd_same) (rd1.mono (.new hq) (List.prefix_refl _))) (ex1.trans (.new hq)) l1
  · cases e
theorem last_get {α : Type} {l : List α} {a : α} {n : Nat} (h : n = l.length) : (l ++ [a])[n]? = some a := by subst h; simp
theorem new_lst {K : KW} {H : Hp} {loc : List Addr} {M : Mem} {xs : List V} {ws : List W} {q : Addr} (s : Store K H loc M) (r : Rds K H loc xs ws) (hq : H q = none) : Store K (upd H q (.lst xs)) (loc ++ [q]) (M ++ [.lst ws]) :=
  s.new hq ⟨xs, upd_same, r.mono (.new hq) (List.prefix_append _ _)⟩
theorem aft_lst {K : KW} {H : Hp} {loc : List Addr} {M : Mem} {xs : List V} {ws : List W} {q : Addr} {Q : VK} (s : Store K H loc M) (r : Rds K H loc xs ws) (hq : H q = none)
    (aft : Aft K H loc (.ref M.length) (M ++ [.lst ws]) Q) : Q (.ref q) (upd H q (.lst xs)) :=
  aft _ _ (loc ++ [q]) (new_lst s r hq) (.ref (last_get s.len.symm)) (.new hq) (List.prefix_append _ _)
theorem aft_tup {K : KW} {H : Hp} {loc : List Addr} {M : Mem} {xs : List V} {ws : List W} {q : Addr} {Q : VK} (s : Store K H loc M) (r : Rds K H loc xs ws) (hq : H q = none)
    (aft : Aft K H loc (.tup ws) M Q) : Q (.ref q) (upd H q (.tup xs)) :=
  aft _ _ loc (s.newT hq) (.tup (SqT.of upd_same) (r.mono (.new hq) (List.prefix_refl _))) (.new hq) (List.prefix_refl _)
theorem r_lst (h : EA X es cs) : EV X (.List es pos) (eLst cs) := (pe_lst h).mono fun σV H Q ⟨loc, σ, M, w, M', rel, e, aft⟩ => by
  obtain ⟨p, hp, e⟩ := bind_some e
  split at e
  · rename_i hz
    cases e
    refine runA rel hp fun vs H1 loc1 rel1 rd1 ex1 l1 => ⟨lineOk (by rw [rd1.length]; exact hz), fun q hq => ?_⟩
    exact aft_lst rel1.st rd1 hq (aft.after ex1 l1)
  · cases e

/-! ### calls -/
def LiftN (K : KW) (r : List V → Hp → VK → Prop) (f : Fn) : Prop :=
  ∀ (H : Hp) (loc : List Addr) (M : Mem) (ws : List W) (vs : List V) (w : W) (M' : Mem) (Q : VK), Store K H loc M → Rds K H loc vs ws → f ws M = some (w, M') → Aft K H loc w M' Q → r vs H Q
theorem cb_aux {r : List V → Hp → VK → Prop} {f : Fn} (hl : LiftN X.KW r f) (σV : L2.St) (H : Hp) (Q : VK) (h : TC X.KW (eN f cs) σV H Q) : tCB r (TA' X.KW (eArgs cs)) σV H Q := by
  obtain ⟨loc, σ, M, w, M', rel, e, aft⟩ := h
  obtain ⟨p, hp, e⟩ := bind_some e
  exact runA rel hp fun vs H1 loc1 rel1 rd1 ex1 l1 => hl H1 loc1 p.2 p.1 vs w M' Q rel1.st rd1 e (aft.after ex1 l1)
variable {x : Str} {p : Pos} {id T : String}
theorem r_callB {r : List V → Hp → VK → Prop} {f : Fn} (hc : CallR X (.builtin id) r) (hl : LiftN X.KW r f) (hg : Gl X x) (hm : X.mg x = none) (hv : bootBuiltins x = some (.builtin id)) (ha : EA X (e :: es) cs) (hn : x ≠ "__name__" := by decide) (hdb : (x == ("__debug__" : Str)) = false := by decide)
    (he : starEach (e :: es) X.env = (false, eval e X.env) :: starEach es X.env := by rfl) (hpl : (backTo pos (starEach es X.env)).any (·.1) = false := by rfl) : EV X (.Call (.Name x p) (e :: es) [] pos) (eN f cs) :=
  (pe_callB hc hg hm hv ha hn hdb he hpl).mono (cb_aux hl)
theorem r_callTy {r : List V → Hp → VK → Prop} {f : Fn} (hc : CallR X (.type T) r) (hl : LiftN X.KW r f) (hg : Gl X x) (hm : X.mg x = none) (hv : bootBuiltins x = some (.type T)) (ha : EA X (e :: es) cs) (hn : x ≠ "__name__" := by decide) (hdb : (x == ("__debug__" : Str)) = false := by decide)
    (he : starEach (e :: es) X.env = (false, eval e X.env) :: starEach es X.env := by rfl) (hpl : (backTo pos (starEach es X.env)).any (·.1) = false := by rfl) : EV X (.Call (.Name x p) (e :: es) [] pos) (eN f cs) :=
  (pe_callTy hc hg hm hv ha hn hdb he hpl).mono (cb_aux hl)
/-- the promise of a def of one's own: what F says -/
def spF (K : KW) (n : Nat) (F : Fn) : Sp := fun vs H Q _ => vs.length = n ∧ ∃ loc M ws w M', Store K H loc M ∧ Rds K H loc vs ws ∧ F ws M = some (w, M') ∧ Aft K H loc w M' Q
theorem eArgs_length : ∀ {cs : List CE} {σ : Sl} {M : Mem} {p : List W × Mem}, eArgs cs σ M = some p → p.1.length = cs.length
  | [], _, _, _, h => by cases h; rfl
  | c :: cs, σ, M, p, h => by
    obtain ⟨q, hq, h⟩ := bind_some h
    obtain ⟨t, ht, h⟩ := bind_some h
    cases h
    rw [List.length_cons, List.length_cons, eArgs_length ht]
theorem r_call {F : Fn} {k : Nat} {f : Addr} {fd : FuncData} {ps : List Str} (G : FnOk X.prog X.w X.KW X.mg X.base CX0 k f fd ps (spF X.KW ps.length F)) (hr : Room k X.A) (hg : Gl X x) (hm : X.mg x = some (.ref f)) (hk : PySem.W.keepIn X.KW (.ref f) = true) (hb : Binds X.KW fd ps [])
    (ha : EA X (e :: es) cs) (hn : cs.length = ps.length := by rfl) (hdb : (x == ("__debug__" : Str)) = false := by decide) (he : starEach (e :: es) X.env = (false, eval e X.env) :: starEach es X.env := by rfl) (hpl : (backTo pos (starEach es X.env)).any (·.1) = false := by rfl) :
    EV X (.Call (.Name x p) (e :: es) [] pos) (eN F cs) :=
  (pe_call G hr hg hm hk hb .nil pass0 ha hdb he hpl).mono fun σV H Q ⟨loc, σ, M, w, M', rel, e, aft⟩ => by
    obtain ⟨q, hq, e⟩ := bind_some e
    refine runA rel hq fun vs H1 loc1 rel1 rd1 ex1 l1 => ?_
    rw [List.append_nil]
    exact ⟨by rw [rd1.length, eArgs_length hq, hn], loc1, q.2, q.1, w, M', rel1.st, rd1, e, aft.after ex1 l1⟩
/-! ### methods of lists -/
variable {o : Expr} {co : CE} {name : Str} {apos cpos : Pos}
theorem isLst_ty {K : KW} {H : Hp} {loc : List Addr} {M : Mem} {v : V} {w : W} (s : Store K H loc M) (r : Rd K H loc v w) (h : isLst M w = true) : tyV K "list" v H := by
  cases r with
  | @ref a n hn =>
    simp only [isLst] at h
    split at h
    · rename_i zs e2
      obtain ⟨xs, h1, _⟩ := s.ok n a _ hn e2
      exact .inl ⟨rfl, xs, SqL.of h1⟩
    · cases h
  | _ => cases h
theorem r_meth {r : V → List V → Hp → VK → Prop} {f : Fn} (slot : Slot "list" name id) (hty : typeOf (.builtin id) = pure (.type "method_descriptor")) (hm : MtR X id r)
    (hl : LiftN X.KW (fun vs H Q => ∃ v us, vs = v :: us ∧ r v us H Q) f) (ho : EV X o co) (ha : EA X (e :: es) cs)
    (hbase : attributeBase o name X.env (eval o X.env) = eval o X.env := by rfl)
    (hfew : ((backTo cpos (starEach (e :: es) X.env)).all (fun x => !x.1) && (backToKw cpos (keywordEach [] X.env)).all (fun x => x.1.isSome)
      && decide ((e :: es).length + ([] : List Keyword).length + (if ([] : List Keyword).isEmpty then 0 else 1) < 30)) = true := by rfl)
    (hline : (apos.endLine == cpos.line) = true := by rfl) (hs : starEach (e :: es) X.env = (false, eval e X.env) :: starEach es X.env := by rfl) (hplain : (backTo cpos (starEach es X.env)).any (·.1) = false := by rfl) :
    EV X (.Call (.Attribute o name apos) (e :: es) [] cpos) (eML f co cs) :=
  (pe_bm PySem.F.plainAttrs_list slot hty hm ho ha hbase hfew hline hs hplain).mono fun σV H Q ⟨loc, σ, M, w, M', rel, e, aft⟩ => by
    obtain ⟨q, hq, e⟩ := bind_some e
    split at e
    · rename_i hi
      obtain ⟨t, ht, e⟩ := bind_some e
      refine run1 rel hq fun v H1 loc1 rel1 rd1 ex1 l1 => ⟨isLst_ty rel1.st rd1 hi, ?_⟩
      refine runA rel1 ht fun vs H2 loc2 rel2 rd2 ex2 l2 => ?_
      obtain ⟨v', us, e', h⟩ := hl H2 loc2 t.2 (q.1 :: t.1) (v :: vs) w M' Q rel2.st (.cons (rd1.mono ex2 l2) rd2) e (aft.after (ex1.trans ex2) (l1.trans l2))
      cases e'
      exact h
    · cases e
theorem r_meth0 {r : V → List V → Hp → VK → Prop} {f : Fn} (slot : Slot "list" name id) (hty : typeOf (.builtin id) = pure (.type "method_descriptor")) (hm : MtR X id r)
    (hl : LiftN X.KW (fun vs H Q => ∃ v us, vs = v :: us ∧ r v us H Q) f) (ho : EV X o co)
    (hbase : attributeBase o name X.env (eval o X.env) = eval o X.env := by rfl) (hline : (apos.endLine == cpos.line) = true := by rfl) :
    EV X (.Call (.Attribute o name apos) [] [] cpos) (eML f co []) :=
  (pe_bm0 PySem.F.plainAttrs_list slot hty hm ho hbase hline).mono fun σV H Q ⟨loc, σ, M, w, M', rel, e, aft⟩ => by
    obtain ⟨q, hq, e⟩ := bind_some e
    split at e
    · rename_i hi
      refine run1 rel hq fun v H1 loc1 rel1 rd1 ex1 l1 => ⟨isLst_ty rel1.st rd1 hi, ?_⟩
      obtain ⟨v', us, e', h⟩ := hl H1 loc1 q.2 [q.1] [v] w M' Q rel1.st (.cons rd1 .nil) e (aft.after ex1 l1)
      cases e'
      exact h
    · cases e

/-! ### items, slices -/
theorem r_ix {r : R2} {g : Mem → W → W → Option (W × Mem)} (hr : IxR X r) (hl : Lift2 X.KW r g) (ha : EV X a ca) (hb : EV X b cb) (hs : PlainIx b := by exact fun _ _ => rfl) : EV X (.Subscript a b pos) (e2 g ca cb) := (pe_ix hr ha hb hs).mono (op2 hl)
def TO' (K : KW) (c : Option CE) : TO := fun σV H Q => ∃ loc σ M o M', Rel K loc σ M σV H ∧ ePart c σ M = some (o, M') ∧ ∀ H' loc', Store K H' loc' M' → Ext K H H' → loc <+: loc' → Q o H'
abbrev EO (X : Cx) (e : Option Expr) (c : Option CE) : Prop := PO X e (TO' X.KW c)
theorem o_none : EO X none none := ⟨fun pins s σ H Q I h => po_none.run pins s σ H Q I (by
  obtain ⟨loc, σ', M, o, M', rel, e, aft⟩ := h
  cases e
  exact aft H loc rel.st .refl (List.prefix_refl _))⟩
theorem o_some (ha : EV X a ca) : EO X (some a) (some ca) := ⟨fun pins s σ H Q I h => (po_some ha).run pins s σ H Q I (by
  obtain ⟨loc, σ', M, o, M', rel, e, aft⟩ := h
  obtain ⟨p, hp, e⟩ := bind_some e
  refine run1 rel hp fun v H1 loc1 rel1 rd1 ex1 l1 => ?_
  split at e
  · rename_i i hi
    cases e
    rw [hi] at rd1
    cases rd1
    exact ⟨_, rfl, aft H1 loc1 rel1.st ex1 l1⟩
  · cases e)⟩
def LiftS (K : KW) (r : V → Option Int → Option Int → Hp → VK → Prop) (g : Mem → W → Option Int → Option Int → Option (W × Mem)) : Prop :=
  ∀ (H : Hp) (loc : List Addr) (M : Mem) (x : W) (v : V) (lo hi : Option Int) (w : W) (M' : Mem) (Q : VK), Store K H loc M → Rd K H loc v x → g M x lo hi = some (w, M') → Aft K H loc w M' Q → r v lo hi H Q
theorem r_sl {r : V → Option Int → Option Int → Hp → VK → Prop} {lo hi : Option Expr} {cl ch : Option CE} {p2 : Pos} (hr : SlR X r) (hl : LiftS X.KW r gSl) (ha : EV X a ca) (h1 : EO X lo cl) (h2 : EO X hi ch) : EV X (.Subscript a (.Slice lo hi none p2) pos) (eSl ca cl ch) :=
  (pe_slice hr ha h1 h2).mono fun σV H Q ⟨loc, σ, M, w, M', rel, e, aft⟩ => by
    obtain ⟨p, hp, e⟩ := bind_some e
    obtain ⟨q, hq, e⟩ := bind_some e
    obtain ⟨t, ht, e⟩ := bind_some e
    refine run1 rel hp fun v H1 loc1 rel1 rd1 ex1 l1 => ?_
    refine ⟨loc1, σ, p.2, q.1, q.2, rel1, hq, fun H2 loc2 s2 ex2 l2 => ?_⟩
    have rel2 := rel1.move s2 ex2 l2
    refine ⟨loc2, σ, q.2, t.1, t.2, rel2, ht, fun H3 loc3 s3 ex3 l3 => ?_⟩
    exact hl H3 loc3 t.2 p.1 v q.1 t.1 w M' Q s3 (rd1.mono (ex2.trans ex3) (l2.trans l3)) e (aft.after ((ex1.trans ex2).trans ex3) ((l1.trans l2).trans l3))
end
end BF

set_option Elab.async false
set_option linter.all false
set_option autoImplicit false
set_option maxRecDepth 100000
/-! The rules: targets, statements, loops, comprehensions, defs. -/
namespace BF
open PySem PySem.Spec
open PyProof.Rows L2

section
variable {X : Cx} {a b c e tg iter : Expr} {ca cb cc : CE} {pos : Pos} {g : CG} {gs : List CG} {es : List Expr} {cs : List CE}

/-! ### targets -/
theorem g_name (i : Nat) {x : Str} (hN : X.N.Nodup) (hi : X.N[i]? = some x := by rfl) (hx : Loc X.env.scope x := by first | exact Or.inl rfl | exact Or.inr rfl)
    (hf : X.fn x = true ∨ X.env.scope.names.lookup x = some .local := by first | exact .inl rfl | exact .inr rfl) : EG X (.Name x pos) (gV i) :=
  (pg_name hN hi hx hf).mono fun v σV H Q ⟨loc, σ, M, w, σ', rel, rd, e, q⟩ => by
    cases e
    exact q _ (rel.set rd i)
theorem gs_nil : EGs X [] [] := pgs_nil.mono fun vs σV H Q ⟨loc, σ, M, ws, σ', rel, rd, e, q⟩ => by
  cases rd with
  | nil => cases e; exact ⟨rfl, q σV rel⟩
  | cons _ _ => cases e
theorem gs_cons (h1 : EG X a g) (h2 : EGs X es gs) (hs : (assignEach (a :: es) X.env).map (·.2) = assign a X.env :: (assignEach es X.env).map (·.2) := by rfl) : EGs X (a :: es) (g :: gs) :=
  (pgs_cons h1 h2 hs).mono fun vs σV H Q ⟨loc, σ, M, ws, σ', rel, rd, e, q⟩ => by
    cases rd with
    | nil => cases e
    | @cons v vs w ws r rs =>
      obtain ⟨σ1, e1, e2⟩ := bind_some e
      exact ⟨v, vs, rfl, loc, σ, M, w, σ1, rel, r, e1, fun σV1 rel1 => ⟨loc, σ1, M, ws, σ', rel1, rs, e2, q⟩⟩
theorem gAll_length : ∀ {gs : List CG} {ws : List W} {σ σ' : Sl}, gAll gs ws σ = some σ' → ws.length = gs.length
  | [], [], _, _, _ => rfl
  | [], _ :: _, _, _, h => by cases h
  | _ :: _, [], _, _, h => by cases h
  | g :: gs, w :: ws, σ, σ', h => by
    obtain ⟨σ1, _, h⟩ := bind_some h
    rw [List.length_cons, List.length_cons, gAll_length h]
theorem g_tup {k : Nat} (hc : X.calm = true) (h : EGs X es gs) (hn : (assignEach es X.env).length = gs.length := by rfl) (hst : (assignEach es X.env).findIdx? (·.1) = none := by rfl) : EG X (.Tuple es k pos) (gT gs) :=
  (pg_tup hc h hn hst).mono fun v σV H Q ⟨loc, σ, M, w, σ', rel, rd, e, q⟩ => by
    cases rd with
    | @tup a xs ws sq rs => exact ⟨a, xs, rfl, sq, by rw [rs.length]; exact gAll_length e, loc, σ, M, ws, σ', rel, rs, e, q⟩
    | _ => cases e
/-- a comprehension's target: only the slots vs are touched -/
def TGw (K : KW) (vs : List Nat) (c : CG) : TG := fun v σV H Q => ∃ loc σ M w σ', Rel K loc σ M σV H ∧ Rd K H loc v w ∧ c w σ = some σ' ∧ ∀ σV', Rel K loc σ' M σV' H → L2.wipe σV' vs = L2.wipe σV vs → Q σV' H
def TGsw (K : KW) (vs : List Nat) (c : List CG) : TGs := fun us σV H Q => ∃ loc σ M ws σ', Rel K loc σ M σV H ∧ Rds K H loc us ws ∧ gAll c ws σ = some σ' ∧ ∀ σV', Rel K loc σ' M σV' H → L2.wipe σV' vs = L2.wipe σV vs → Q σV' H
abbrev EGw (X : Cx) (vs : List Nat) (e : Expr) (c : CG) : Prop := PG X e (TGw X.KW vs c)
abbrev EGsw (X : Cx) (vs : List Nat) (es : List Expr) (c : List CG) : Prop := PGs X es (TGsw X.KW vs c)
theorem wipe_set {σ : L2.St} {i : Nat} {x : Option V} : ∀ {vs : List Nat}, i ∈ vs → L2.wipe (σ.set i x) vs = L2.wipe σ vs
  | [], h => by cases h
  | v :: vs, h => by
    show (L2.wipe (σ.set i x) vs).set v none = (L2.wipe σ vs).set v none
    by_cases hv : i ∈ vs
    · rw [wipe_set hv]
    · have e : i = v := by
        rcases List.mem_cons.mp h with h | h
        · exact h
        · exact absurd h hv
      subst e
      have : ∀ (us : List Nat), i ∉ us → L2.wipe (σ.set i x) us = (L2.wipe σ us).set i x := by
        intro us
        induction us with
        | nil => intro _; rfl
        | cons u us ih =>
          intro hu
          show (L2.wipe (σ.set i x) us).set u none = ((L2.wipe σ us).set u none).set i x
          rw [ih (fun z => hu (List.mem_cons_of_mem _ z)), List.set_comm _ _ (fun z => hu (by rw [z]; exact List.mem_cons_self))]
      rw [this vs hv, List.set_set]
theorem wipe_wipe (σ : L2.St) : ∀ vs : List Nat, L2.wipe (L2.wipe σ vs) vs = L2.wipe σ vs := by
  have : ∀ (us vs : List Nat), (∀ v ∈ vs, v ∈ us) → L2.wipe (L2.wipe σ vs) us = L2.wipe σ us := by
    intro us vs
    induction vs with
    | nil => intro _; rfl
    | cons v vs ih =>
      intro h
      show L2.wipe ((L2.wipe σ vs).set v none) us = _
      rw [wipe_set (h v List.mem_cons_self), ih fun u hu => h u (List.mem_cons_of_mem _ hu)]
  exact fun vs => this vs vs fun _ h => h
theorem gw_name {vs : List Nat} (i : Nat) {x : Str} (hN : X.N.Nodup) (hv : i ∈ vs := by decide) (hi : X.N[i]? = some x := by rfl) (hx : Loc X.env.scope x := by first | exact Or.inl rfl | exact Or.inr rfl)
    (hf : X.fn x = true ∨ X.env.scope.names.lookup x = some .local := by first | exact .inl rfl | exact .inr rfl) : EGw X vs (.Name x pos) (gV i) :=
  (pg_name hN hi hx hf).mono fun v σV H Q ⟨loc, σ, M, w, σ', rel, rd, e, q⟩ => by
    cases e
    exact q _ (rel.set rd i) (wipe_set hv)
theorem gsw_nil {vs : List Nat} : EGsw X vs [] [] := pgs_nil.mono fun us σV H Q ⟨loc, σ, M, ws, σ', rel, rd, e, q⟩ => by
  cases rd with
  | nil => cases e; exact ⟨rfl, q σV rel rfl⟩
  | cons _ _ => cases e
theorem gsw_cons {vs : List Nat} (h1 : EGw X vs a g) (h2 : EGsw X vs es gs) (hs : (assignEach (a :: es) X.env).map (·.2) = assign a X.env :: (assignEach es X.env).map (·.2) := by rfl) : EGsw X vs (a :: es) (g :: gs) :=
  (pgs_cons h1 h2 hs).mono fun us σV H Q ⟨loc, σ, M, ws, σ', rel, rd, e, q⟩ => by
    cases rd with
    | nil => cases e
    | @cons v us w ws r rs =>
      obtain ⟨σ1, e1, e2⟩ := bind_some e
      exact ⟨v, us, rfl, loc, σ, M, w, σ1, rel, r, e1, fun σV1 rel1 z1 => ⟨loc, σ1, M, ws, σ', rel1, rs, e2, fun σV2 rel2 z2 => q σV2 rel2 (z2.trans z1)⟩⟩
theorem gw_tup {vs : List Nat} {k : Nat} (hc : X.calm = true) (h : EGsw X vs es gs) (hn : (assignEach es X.env).length = gs.length := by rfl) (hst : (assignEach es X.env).findIdx? (·.1) = none := by rfl) : EGw X vs (.Tuple es k pos) (gT gs) :=
  (pg_tup hc h hn hst).mono fun v σV H Q ⟨loc, σ, M, w, σ', rel, rd, e, q⟩ => by
    cases rd with
    | @tup a xs ws sq rs => exact ⟨a, xs, rfl, sq, by rw [rs.length]; exact gAll_length e, loc, σ, M, ws, σ', rel, rs, e, q⟩
    | _ => cases e

/-! ### statements -/
variable {st : Stmt} {rest : List Stmt} {s s' : CS}
theorem runS {K : KW} {σV : L2.St} {H : Hp} {loc : List Addr} {σ : Sl} {M : Mem} {o : Out} {D : Ends} (rel : Rel K loc σ M σV H) (ha : s σ M = some o) (h : AftS K H loc D o) : TS' K s D σV H := ⟨loc, σ, M, o, rel, ha, h⟩
theorem ss_nil : ESs X [] sNil := pss_nil.mono fun D σV H ⟨loc, σ, M, o, rel, e, aft⟩ => by
  cases e
  exact aft σV H loc rel .refl (List.prefix_refl _)
theorem ss_one (h : ES X st s) : ESs X [st] s := pss_one h
theorem ss_cons (h1 : ES X st s) (h2 : ESs X rest s') : ESs X (st :: rest) (sSeq s s') :=
  (pss_cons h1 h2).mono fun D σV H ⟨loc, σ, M, o, rel, e, aft⟩ => by
    obtain ⟨o1, h, e⟩ := bind_some e
    refine ⟨loc, σ, M, o1, rel, h, ?_⟩
    cases o1 with
    | nx σ1 M1 => exact fun σV1 H1 loc1 rel1 ex1 l1 => ⟨loc1, σ1, M1, o, rel1, e, aft.after ex1 l1⟩
    | rt w M1 => cases e; exact aft
    | bk σ1 M1 => cases e; exact aft
    | ct σ1 M1 => cases e; exact aft
theorem s_set (i : Nat) {x : Str} {pos' : Pos} (hN : X.N.Nodup) (he : EV X e ca) (hi : X.N[i]? = some x := by rfl) (hx : Loc X.env.scope x := by first | exact Or.inl rfl | exact Or.inr rfl)
    (hs : swapsWith e (some (.Name x pos')) pos.line X.env = pure false := by rfl) (hf : X.fn x = true ∨ X.env.scope.names.lookup x = some .local := by first | exact .inl rfl | exact .inr rfl) : ES X (.Assign [.Name x pos'] e pos) (sSet (gV i) ca) :=
  (ps_set hN hi hx he hs hf).mono fun D σV H ⟨loc, σ, M, o, rel, e, aft⟩ => by
    obtain ⟨p, hp, e⟩ := bind_some e
    cases e
    exact run1 rel hp fun v H1 loc1 rel1 rd1 ex1 l1 => aft _ H1 loc1 (rel1.set rd1 i) ex1 l1
theorem asg_aux {D : Ends} {σV : L2.St} {H : Hp} (h : TS' X.KW (sSet g ca) D σV H) : tAsg (TC X.KW ca) (TG' X.KW g) D σV H := by
  obtain ⟨loc, σ, M, o, rel, e, aft⟩ := h
  obtain ⟨p, hp, e⟩ := bind_some e
  obtain ⟨σ1, h1, e⟩ := bind_some e
  cases e
  exact run1 rel hp fun v H1 loc1 rel1 rd1 ex1 l1 => ⟨loc1, σ, p.2, p.1, σ1, rel1, rd1, h1, fun σV' rel' => aft σV' H1 loc1 rel' ex1 l1⟩
/-- any target -/
theorem s_asg (he : EV X e ca) (hg : EG X tg g) (hs : swapsWithSole [tg] e pos.line X.env = pure false := by rfl) (hw : swappedStores [tg] e X.env = pure none := by rfl)
    (h1 : (assignEach [tg] X.env).map (·.2) = [assign tg X.env] := by rfl) : ES X (.Assign [tg] e pos) (sSet g ca) :=
  (ps_asg he hg hs hw h1).mono fun D σV H h => asg_aux h
theorem s_par2 (i j : Nat) {x y : Str} {px py pt : Pos} {kt k2 pt2} (hc : X.calm = true) (hN : X.N.Nodup) (ha : EA X [a, b] [ca, cb]) (hi : X.N[i]? = some x := by rfl) (hj : X.N[j]? = some y := by rfl) (hij : i ≠ j := by decide)
    (hx : X.env.scope.names.lookup x = some .local := by rfl) (hy : X.env.scope.names.lookup y = some .local := by rfl)
    (hw : swappedStores [.Tuple [.Name x px, .Name y py] kt pt] (.Tuple [a, b] k2 pt2) X.env = pure (some [x, y]) := by rfl)
    (hs : swapsWithSole [.Tuple [.Name x px, .Name y py] kt pt] (.Tuple [a, b] k2 pt2) pos.line X.env = pure false := by rfl) :
    ES X (.Assign [.Tuple [.Name x px, .Name y py] kt pt] (.Tuple [a, b] k2 pt2) pos) (sPar [i, j] [ca, cb]) :=
  (ps_par hc hN hi hj hij hx hy ha hw hs).mono fun D σV H ⟨loc, σ, M, o, rel, e, aft⟩ => by
    obtain ⟨p, hp, e⟩ := bind_some e
    refine runA rel hp fun vs H1 loc1 rel1 rd1 ex1 l1 => ?_
    have hl : p.1.length = 2 := eArgs_length hp
    obtain ⟨p1, p2⟩ := p
    match p1, hl, rd1 with
    | [w1, w2], _, .cons (v := v1) r1 (.cons (v := v2) r2 .nil) =>
      cases e
      exact ⟨_, _, rfl, aft _ H1 loc1 ((rel1.set r1 i).set r2 j) ex1 l1⟩
theorem s_aug (i : Nat) {x : Str} {op : Operator} {r : R2} {f : Mem → W → W → Option (W × Mem)} {pos' : Pos} (hN : X.N.Nodup) (ho : OpR X (inplaceOp op) r) (hl : Lift2 X.KW r f) (he : EV X e ca) (hi : X.N[i]? = some x := by rfl) (hx : Loc X.env.scope x := by first | exact Or.inl rfl | exact Or.inr rfl)
    (hf : X.fn x = true ∨ X.env.scope.names.lookup x = some .local := by first | exact .inl rfl | exact .inr rfl) : ES X (.AugAssign (.Name x pos') op e pos) (sAug i f ca) :=
  (ps_aug hN hi hx he (show PIp X op r from ho) hf).mono fun D σV H ⟨loc, σ, M, o, rel, e, aft⟩ => by
    unfold sAug at e
    split at e
    · rename_i w hw
      obtain ⟨p, hp, e⟩ := bind_some e
      obtain ⟨q, hq, e⟩ := bind_some e
      cases e
      have hw' : σ[i]? = some (some w) := by
        rw [List.getD_eq_getElem?_getD] at hw
        cases z : σ[i]? with
        | none => rw [z] at hw; cases hw
        | some u => rw [z] at hw; exact congrArg some hw
      obtain ⟨v, h1, h2⟩ := rel.sl i w hw'
      refine ⟨v, h1, run1 rel hp fun u H1 loc1 rel1 rd1 ex1 l1 => ?_⟩
      refine hl H1 loc1 p.2 w p.1 v u q.1 q.2 _ rel1.st (h2.mono ex1 l1) rd1 hq fun z H2 loc2 s2 rd2 ex2 l2 => ?_
      exact aft _ H2 loc2 ((rel1.move s2 ex2 l2).set rd2 i) (ex1.trans ex2) (l1.trans l2)
    · cases e
def LiftP (K : KW) (r : TSet) (f : Mem → W → W → W → Option Mem) : Prop :=
  ∀ (H : Hp) (loc : List Addr) (M : Mem) (x y z : W) (o i v : V) (M' : Mem) (Q : Hp → Prop), Store K H loc M → Rd K H loc o x → Rd K H loc i y → Rd K H loc v z → f M x y z = some M' →
    (∀ H' loc', Store K H' loc' M' → Ext K H H' → loc <+: loc' → Q H') → r o i v H Q
theorem s_put {r : TSet} {f : Mem → W → W → W → Option Mem} {pos1 : Pos} (ho : PSet X r) (hl : LiftP X.KW r f) (he : EV X e ca) (h1 : EV X a cb) (h2 : EV X b cc)
    (hs : swapsWithSole [.Subscript a b pos1] e pos.line X.env = pure false := by rfl) (hw : swappedStores [.Subscript a b pos1] e X.env = pure none := by rfl)
    (h3 : (assignEach [.Subscript a b pos1] X.env).map (·.2) = [assign (.Subscript a b pos1) X.env] := by rfl)
    (ha : ∀ v, assign (.Subscript a b pos1) X.env v = (do
      let ov ← holding [v] (eval a X.env)
      let iv ← holding [v, ov] (eval b X.env)
      standAt pos1
      holding [v, ov, iv] (setItem ov iv v)
      release [v, ov, iv] []) := by intro _; rfl) : ES X (.Assign [.Subscript a b pos1] e pos) (sPut f cb cc ca) :=
  (ps_asg he (pg_sub h1 h2 ho ha) hs hw h3).mono fun D σV H ⟨loc, σ, M, o, rel, e, aft⟩ => by
    obtain ⟨p, hp, e⟩ := bind_some e
    obtain ⟨q, hq, e⟩ := bind_some e
    obtain ⟨t, ht, e⟩ := bind_some e
    obtain ⟨M', hM, e⟩ := bind_some e
    cases e
    refine run1 rel hp fun v H1 loc1 rel1 rd1 ex1 l1 => run1 rel1 hq fun u H2 loc2 rel2 rd2 ex2 l2 => run1 rel2 ht fun z H3 loc3 rel3 rd3 ex3 l3 => ?_
    refine hl H3 loc3 t.2 q.1 t.1 p.1 u z v M' _ rel3.st (rd2.mono ex3 l3) rd3 (rd1.mono (ex2.trans ex3) (l2.trans l3)) hM fun H4 loc4 s4 ex4 l4 => ?_
    exact aft σV H4 loc4 (rel3.move s4 ex4 l4) (((ex1.trans ex2).trans ex3).trans ex4) (((l1.trans l2).trans l3).trans l4)
theorem s_expr (he : EV X e ca) (hs : swapsWith e none pos.line X.env = pure false := by rfl) : ES X (.Expr e pos) (sExpr ca) :=
  (ps_expr he hs).mono fun D σV H ⟨loc, σ, M, o, rel, e, aft⟩ => by
    obtain ⟨p, hp, e⟩ := bind_some e
    cases e
    exact run1 rel hp fun v H1 loc1 rel1 rd1 ex1 l1 => aft _ H1 loc1 rel1 ex1 l1
theorem s_ret (he : EV X e ca) : ES X (.Return (some e) pos) (sRet ca) :=
  (ps_ret he).mono fun D σV H ⟨loc, σ, M, o, rel, e, aft⟩ => by
    obtain ⟨p, hp, e⟩ := bind_some e
    cases e
    exact ⟨loc, σ, M, p.1, p.2, rel, hp, aft⟩
theorem s_break : ES X (.Break pos) sBreak := ps_break.mono fun D σV H ⟨loc, σ, M, o, rel, e, aft⟩ => by
  cases e
  exact aft σV H loc rel .refl (List.prefix_refl _)
theorem s_if {tA : CT} {sa sb : List Stmt} (hc : ET X c tA) (ha : ESs X sa s) (hb : ESs X sb s') : ES X (.If c sa sb pos) (sIf tA s s') :=
  (ps_if hc ha hb).mono fun D σV H ⟨loc, σ, M, o, rel, e, aft⟩ => by
    obtain ⟨p, hp, e⟩ := bind_some e
    refine runT rel hp fun H1 loc1 rel1 ex1 l1 => ?_
    split at e
    · rename_i h; rw [if_pos h]; exact ⟨loc1, σ, p.2, o, rel1, e, aft.after ex1 l1⟩
    · rename_i h; rw [if_neg h]; exact ⟨loc1, σ, p.2, o, rel1, e, aft.after ex1 l1⟩

/-! ### loops -/
/-- the iterator J yields ws while the memory stays as gd says -/
def WalkW (K : KW) (H0 : Hp) (loc0 : List Addr) (J : It) (ws : List W) (gd : Mem → Bool) : Prop :=
  ∀ (i : Nat) (H : Hp) (loc : List Addr) (M : Mem), Store K H loc M → Ext K H0 H → loc0 <+: loc → gd M = true →
    (∀ w, ws[i]? = some w → J.go i H ∧ ∀ x H2, J.yld i H x H2 → Rd K H2 loc x w ∧ Store K H2 loc M ∧ Ext K H H2) ∧ (ws.length ≤ i → J.stop i H)
def TI' (K : KW) (c : CI) : TI := fun σV H R => ∃ loc σ M ws gd M', Rel K loc σ M σV H ∧ c σ M = some (ws, gd, M') ∧
  ∀ J H' loc', Store K H' loc' M' → Ext K H H' → loc <+: loc' → WalkW K H' loc' J ws gd → R J H'
abbrev EI (X : Cx) (tg iter : Expr) (c : CI) : Prop := PI X tg iter (TI' X.KW c)
theorem _root_.L2.PI.mono {t t' : TI} (h : PI X tg iter t) (f : ∀ σ H R, t' σ H R → t σ H R) : PI X tg iter t' := ⟨fun p s σ H R I q => h.run p s σ H R I (f σ H R q)⟩
theorem s_for {it : CI} {body : List Stmt} (hi : EI X tg iter it) (hg : EG X tg g) (hb : ESs X body s) (hp : PassesOwn (model X.prog X.w) X.A X.env X.xe := by exact PassesOwn.never) (hc : X.calm = true := by rfl)
    (hs : ∀ x, foldedSetIterable iter X.env x = pure x := by intro _; rfl) : ES X (.For tg iter body [] pos) (sFor it g s) :=
  (ps_for hp hc hi hg hb hs).mono fun D σV H ⟨loc, σ, M, o, rel, e, aft⟩ => by
    obtain ⟨p, hp, e⟩ := bind_some e
    obtain ⟨ws, gd, M1⟩ := p
    refine ⟨loc, σ, M, ws, gd, M1, rel, hp, fun J H1 loc1 s1 ex1 l1 wk => ?_⟩
    have aft1 := aft.after ex1 l1
    refine ⟨fun i m σV' Hc => i ≤ ws.length ∧ m = ws.length - i ∧ ∃ locc σc Mc, Rel X.KW locc σc Mc σV' Hc ∧ Ext X.KW H1 Hc ∧ loc1 <+: locc ∧ forL gd g s (ws.drop i) σc Mc = some o,
      ⟨ws.length, Nat.zero_le _, rfl, loc1, σ, M1, rel.move s1 ex1 l1, .refl, List.prefix_refl _, e⟩, fun i m σV' Hc hW => ?_⟩
    obtain ⟨hi, rfl, locc, σc, Mc, relc, exc, lc, ec⟩ := hW
    by_cases hlt : i < ws.length
    · rw [List.drop_eq_getElem_cons hlt] at ec
      rw [forL] at ec
      split at ec
      · rename_i hgd
        obtain ⟨σ1, hg1, ec⟩ := bind_some ec
        obtain ⟨ob, hob, ec⟩ := bind_some ec
        obtain ⟨w1, _⟩ := wk i Hc locc Mc relc.st exc lc hgd
        obtain ⟨go, yl⟩ := w1 ws[i] (List.getElem?_eq_getElem hlt)
        refine .inr ⟨go, fun σV'' H'' => ∃ loc'' σ'' M'', Rel X.KW loc'' σ'' M'' σV'' H'' ∧ Ext X.KW H1 H'' ∧ loc1 <+: loc'' ∧ forL gd g s (ws.drop (i + 1)) σ'' M'' = some o, fun σV'' H'' hN => ?_, fun x H2 y => ?_⟩
        · exact ⟨ws.length - (i + 1), by omega, hlt, rfl, hN⟩
        · obtain ⟨rd, st2, ex2⟩ := yl x H2 y
          refine ⟨locc, σc, Mc, ws[i], σ1, relc.move st2 ex2 (List.prefix_refl _), rd, hg1, fun σV2 rel2 => ?_⟩
          refine ⟨locc, σ1, Mc, ob, rel2, hob, ?_⟩
          have exA := exc.trans ex2
          cases ob with
          | nx σ3 M3 => exact fun σV3 H3 loc3 rel3 ex3 l3 => ⟨loc3, σ3, M3, rel3, exA.trans ex3, lc.trans l3, ec⟩
          | ct σ3 M3 => exact fun σV3 H3 loc3 rel3 ex3 l3 => ⟨loc3, σ3, M3, rel3, exA.trans ex3, lc.trans l3, ec⟩
          | bk σ3 M3 =>
            cases ec
            exact fun σV3 H3 loc3 rel3 ex3 l3 => aft1 σV3 H3 loc3 rel3 (exA.trans ex3) (lc.trans l3)
          | rt w M3 =>
            cases ec
            exact Aft.after (K := X.KW) aft1 exA lc
      · cases ec
    · have e0 : i = ws.length := by omega
      subst e0
      rw [List.drop_length, forL] at ec
      split at ec
      · rename_i hgd
        cases ec
        obtain ⟨_, w2⟩ := wk ws.length Hc locc Mc relc.st exc lc hgd
        exact .inl ⟨w2 (Nat.le_refl _), aft1 σV' Hc locc relc exc lc⟩
      · cases ec
theorem s_while (n : Nat) {tA : CT} {body : List Stmt} (hc : ET X c tA) (hb : ESs X body s) (hp : PassesOwn (model X.prog X.w) X.A X.env X.xe := by exact PassesOwn.never) : ES X (.While c body [] pos) (sWhile n tA s) :=
  (ps_while hp hc hb).mono fun D σV H ⟨loc, σ, M, o, rel, e, aft⟩ => by
    refine ⟨fun m σV' Hc => ∃ locc σc Mc, Rel X.KW locc σc Mc σV' Hc ∧ Ext X.KW H Hc ∧ loc <+: locc ∧ whileL tA s m σc Mc = some o,
      ⟨n, loc, σ, M, rel, .refl, List.prefix_refl _, e⟩, fun m σV' Hc hW => ?_⟩
    obtain ⟨locc, σc, Mc, relc, exc, lc, ec⟩ := hW
    cases m with
    | zero => cases ec
    | succ m =>
      rw [whileL] at ec
      obtain ⟨p, hp, ec⟩ := bind_some ec
      refine runT relc hp fun H1 loc1 rel1 ex1 l1 => ?_
      split at ec
      · rename_i hb
        rw [if_pos hb]
        obtain ⟨ob, hob, ec⟩ := bind_some ec
        have exA := exc.trans ex1
        have lA := lc.trans l1
        refine ⟨fun σV'' H'' => ∃ loc'' σ'' M'', Rel X.KW loc'' σ'' M'' σV'' H'' ∧ Ext X.KW H H'' ∧ loc <+: loc'' ∧ whileL tA s m σ'' M'' = some o, fun σV'' H'' hN => ⟨m, Nat.lt_succ_self _, hN⟩, ?_⟩
        refine ⟨loc1, σc, p.2, ob, rel1, hob, ?_⟩
        cases ob with
        | nx σ3 M3 => exact fun σV3 H3 loc3 rel3 ex3 l3 => ⟨loc3, σ3, M3, rel3, exA.trans ex3, lA.trans l3, ec⟩
        | ct σ3 M3 => exact fun σV3 H3 loc3 rel3 ex3 l3 => ⟨loc3, σ3, M3, rel3, exA.trans ex3, lA.trans l3, ec⟩
        | bk σ3 M3 =>
          cases ec
          exact fun σV3 H3 loc3 rel3 ex3 l3 => aft σV3 H3 loc3 rel3 (exA.trans ex3) (lA.trans l3)
        | rt w M3 =>
          cases ec
          exact Aft.after (K := X.KW) aft exA lA
      · rename_i hb
        rw [if_neg hb]
        cases ec
        exact aft σV' H1 loc1 rel1 (exc.trans ex1) (lc.trans l1)

/-! ### what is walked -/
theorem walk_of_tup {K : KW} {H : Hp} {loc : List Addr} {a : Addr} {xs : List V} {ws : List W} (sq : SqT K H a xs) (r : Rds K H loc xs ws) : WalkW K H loc (Itt K a) ws gdT :=
  fun i H1 loc1 M s ex l _ => ⟨fun w hw => by
    obtain ⟨v, h1, h2⟩ := r.get hw
    exact ⟨⟨xs, v, ex.tup _ _ sq, h1⟩, fun x H2 y => by
      obtain ⟨rfl, y⟩ := y
      have e := y xs (ex.tup _ _ sq)
      rw [h1] at e; cases e
      exact ⟨h2.mono ex l, s, .refl⟩⟩, fun hl => ⟨xs, ex.tup _ _ sq, by rw [r.length]; exact hl⟩⟩
theorem i_tup (h : EV X iter ca) : EI X tg iter (iTup ca) := (pi_tup h).mono fun σV H R ⟨loc, σ, M, ws, gd, M', rel, e, aft⟩ => by
  obtain ⟨p, hp, e⟩ := bind_some e
  refine run1 rel hp fun v H1 loc1 rel1 rd1 ex1 l1 => ?_
  split at e
  · rename_i zs hz
    cases e
    rw [hz] at rd1
    cases rd1 with
    | @tup a xs _ sq rs => exact ⟨a, rfl, ⟨xs, sq⟩, aft _ H1 loc1 rel1.st ex1 l1 (walk_of_tup sq rs)⟩
  · cases e
theorem walk_of_lst {K : KW} {H : Hp} {loc : List Addr} {a : Addr} {n : Nat} {ws : List W} (hn : loc[n]? = some a) : WalkW K H loc (Itl K a) ws (fun M' => decide (M'[n]? = some (.lst ws))) :=
  fun i H1 loc1 M s ex l hg => by
    have hg := of_decide_eq_true hg
    obtain ⟨xs, h1, r⟩ := s.ok n a _ (pre_get l hn) hg
    refine ⟨fun w hw => ?_, fun hl => ⟨xs, SqL.of h1, by rw [r.length]; exact hl⟩⟩
    obtain ⟨v, h2, h3⟩ := r.get hw
    refine ⟨⟨xs, v, SqL.of h1, h2⟩, fun x H2 y => ?_⟩
    obtain ⟨rfl, y⟩ := y
    have e := y xs (SqL.of h1)
    rw [h2] at e; cases e
    exact ⟨h3, s, .refl⟩
theorem walk_of_ro {K : KW} {H : Hp} {loc : List Addr} {a : Addr} {n : Nat} {ws : List W} (hn : loc[n]? = some a) : WalkW K H loc (Itl K a) ws (fun M' => decide (M'[n]? = some (.ro ws))) :=
  fun i H1 loc1 M s ex l hg => by
    have hg := of_decide_eq_true hg
    obtain ⟨xs, h1, r⟩ := s.ok n a _ (pre_get l hn) hg
    refine ⟨fun w hw => ?_, fun hl => ⟨xs, h1.sq, by rw [r.length]; exact hl⟩⟩
    obtain ⟨v, h2, h3⟩ := r.get hw
    refine ⟨⟨xs, v, h1.sq, h2⟩, fun x H2 y => ?_⟩
    obtain ⟨rfl, y⟩ := y
    have e := y xs h1.sq
    rw [h2] at e; cases e
    exact ⟨h3, s, .refl⟩
theorem i_lst (h : EV X iter ca) : EI X tg iter (iLst ca) := (pi_list h).mono fun σV H R ⟨loc, σ, M, ws, gd, M', rel, e, aft⟩ => by
  obtain ⟨p, hp, e⟩ := bind_some e
  refine run1 rel hp fun v H1 loc1 rel1 rd1 ex1 l1 => ?_
  split at e
  · rename_i n hn
    rw [hn] at rd1
    cases rd1 with
    | @ref a _ ha =>
      split at e
      · rename_i zs hz
        cases e
        obtain ⟨xs, h1, _⟩ := rel1.st.ok n a _ ha hz
        exact ⟨a, rfl, ⟨xs, SqL.of h1⟩, aft _ H1 loc1 rel1.st ex1 l1 (walk_of_lst ha)⟩
      · rename_i zs hz
        cases e
        obtain ⟨xs, h1, _⟩ := rel1.st.ok n a _ ha hz
        exact ⟨a, rfl, ⟨xs, h1.sq⟩, aft _ H1 loc1 rel1.st ex1 l1 (walk_of_ro ha)⟩
      · cases e
  · cases e
theorem walk_of_range {K : KW} {H : Hp} {loc : List Addr} {lo : Int} {n : Nat} : WalkW K H loc (Itr lo n) (rangeW lo n) gdT :=
  fun i H1 loc1 M s ex l _ => ⟨fun w hw => by
    obtain ⟨hi, rfl⟩ := rangeW_get hw
    exact ⟨hi, fun x H2 y => by
      obtain ⟨rfl, rfl⟩ := y
      exact ⟨.int _, s, .refl⟩⟩, fun hl => by rw [rangeW_length] at hl; exact hl⟩
theorem small62_iff {i : Int} (h : small62 i = true) : -(2 ^ 62) ≤ i ∧ i < 2 ^ 62 := by
  have := Nat.le_of_ble_eq_true h
  omega
theorem i_range1 {p pos : Pos} (hg : Gl X "range") (hm : X.mg "range" = none) (h : EA X [a] [ca]) (hs : starEach [a] X.env = [(false, eval a X.env)] := by rfl) : EI X tg (.Call (.Name "range" p) [a] [] pos) (iRange1 ca) :=
  (pi_range1 hg hm h hs).mono fun σV H R ⟨loc, σ, M, ws, gd, M', rel, e, aft⟩ => by
    obtain ⟨p, hp, e⟩ := bind_some e
    refine runA (p := ([p.1], p.2)) rel (by simp only [eArgs, hp, Option.bind_some]) fun vs H1 loc1 rel1 rd1 ex1 l1 => ?_
    split at e
    · rename_i j hj
      split at e
      · rename_i h62
        cases e
        obtain ⟨h1, h2⟩ := small62_iff h62
        rw [hj] at rd1
        match vs, rd1 with
        | [_], .cons (.int _) .nil => exact ⟨j, rfl, h1, h2, aft _ H1 loc1 rel1.st ex1 l1 walk_of_range⟩
      · cases e
    · cases e
theorem i_range2 {p pos : Pos} (hg : Gl X "range") (hm : X.mg "range" = none) (h : EA X [a, b] [ca, cb]) (hs : starEach [a, b] X.env = [(false, eval a X.env), (false, eval b X.env)] := by rfl) (hs2 : starEach [b] X.env = [(false, eval b X.env)] := by rfl) : EI X tg (.Call (.Name "range" p) [a, b] [] pos) (iRange2 ca cb) :=
  (pi_range2 hg hm h hs hs2).mono fun σV H R ⟨loc, σ, M, ws, gd, M', rel, e, aft⟩ => by
    obtain ⟨p, hp, e⟩ := bind_some e
    obtain ⟨q, hq, e⟩ := bind_some e
    refine runA (p := ([p.1, q.1], q.2)) rel (by simp only [eArgs, hp, hq, Option.bind_some]) fun vs H1 loc1 rel1 rd1 ex1 l1 => ?_
    split at e
    · rename_i i j hi hj
      split at e
      · rename_i h62
        cases e
        obtain ⟨h1, h2⟩ := small62_iff h62.1
        obtain ⟨h3, h4⟩ := small62_iff h62.2
        rw [hi, hj] at rd1
        match vs, rd1 with
        | [_, _], .cons (.int _) (.cons (.int _) .nil) => exact ⟨i, j, rfl, ⟨h1, h2, h3, h4⟩, aft _ H1 loc1 rel1.st ex1 l1 walk_of_range⟩
      · cases e
    · cases e
theorem zipW_get {xs ys : List W} {i : Nat} {w : W} (h : (zipW xs ys)[i]? = some w) : ∃ x y, xs[i]? = some x ∧ ys[i]? = some y ∧ w = .tup [x, y] := by
  unfold zipW at h
  rw [List.getElem?_map] at h
  cases q : (xs.zip ys)[i]? with
  | none => rw [q] at h; cases h
  | some p =>
    rw [q] at h
    cases h
    rw [List.getElem?_zip_eq_some] at q
    exact ⟨p.1, p.2, q.1, q.2, rfl⟩
theorem walk_of_zipT {K : KW} {H : Hp} {loc : List Addr} {a b : Addr} {xs ys : List V} {ws zs : List W} (sq : SqT K H a xs) (sq' : SqT K H b ys) (r : Rds K H loc xs ws) (r' : Rds K H loc ys zs) : WalkW K H loc (RZ.ItzT K a b) (zipW ws zs) gdT :=
  fun i H1 loc1 M s ex l _ => ⟨fun w hw => by
    obtain ⟨x, y, h1, h2, rfl⟩ := zipW_get hw
    obtain ⟨v, g1, g2⟩ := r.get h1
    obtain ⟨u, g3, g4⟩ := r'.get h2
    refine ⟨⟨xs, ys, v, u, ex.tup _ _ sq, ex.tup _ _ sq', g1, g3⟩, fun x H2 y => ?_⟩
    obtain ⟨T, x', y', rfl, hT, rfl, f1, f2⟩ := y
    have e1 := f1 xs (ex.tup _ _ sq)
    have e2 := f2 ys (ex.tup _ _ sq')
    rw [g1] at e1; cases e1
    rw [g3] at e2; cases e2
    have ex2 : Ext K H1 (upd H1 T (.tup [v, u])) := .new hT
    exact ⟨.tup (SqT.of upd_same) (.cons (g2.mono (ex.trans ex2) l) (.cons (g4.mono (ex.trans ex2) l) .nil)), s.newT hT, ex2⟩,
   fun hl => ⟨xs, ys, ex.tup _ _ sq, ex.tup _ _ sq', by
    rw [r.length, r'.length]
    have : (zipW ws zs).length = min ws.length zs.length := by simp [zipW]
    omega⟩⟩
theorem i_zipT {p pos tpos : Pos} {elts : List Expr} {kk : Nat} (hg : Gl X "zip") (hm : X.mg "zip" = none) (h : EA X [a, b] [ca, cb])
    (hs : starEach [a, b] X.env = (false, eval a X.env) :: starEach [b] X.env := by rfl) (hpl : (backTo pos (starEach [b] X.env)).any (·.1) = false := by rfl) :
    EI X (.Tuple elts kk tpos) (.Call (.Name "zip" p) [a, b] [] pos) (iZipT ca cb) :=
  (RZ.pi_zipA hg hm h hs hpl).mono fun σV H R ⟨loc, σ, M, ws, gd, M', rel, e, aft⟩ => by
    obtain ⟨p, hp, e⟩ := bind_some e
    obtain ⟨q, hq, e⟩ := bind_some e
    refine runA (p := ([p.1, q.1], q.2)) rel (by simp only [eArgs, hp, hq, Option.bind_some]) fun vs H1 loc1 rel1 rd1 ex1 l1 => ?_
    split at e
    · rename_i xs ys hx hy
      cases e
      rw [hx, hy] at rd1
      match vs, rd1 with
      | [_, _], .cons (.tup (a := a1) (xs := us1) sq1 r1) (.cons (.tup (a := a2) (xs := us2) sq2 r2) .nil) =>
        exact ⟨a1, a2, us1, us2, rfl, .inr ⟨sq1, sq2, aft _ H1 loc1 rel1.st ex1 l1 (walk_of_zipT sq1 sq2 r1 r2)⟩⟩
    · cases e

/-! ### comprehensions -/
abbrev TTs (X : Cx) (ifs : List Expr) (t : CT) : Prop := PTs X ifs (TT' X.KW t)
theorem ts_nil : TTs X [] tTrue := ⟨fun pins s σ H Q I h => pts_nil.run pins s σ H Q I (by
  obtain ⟨loc, σ', M, k, M', rel, e, aft⟩ := h
  cases e
  exact aft H loc rel.st .refl (List.prefix_refl _))⟩
theorem ts_one {tA : CT} (h : ET X c tA) : TTs X [c] tA := pts_one h
theorem lc_aux {K : KW} {it : CI} {t : CT} {vs : List Nat} {σV : L2.St} {H : Hp} {Q : VK} (h : TC K (eLc it g t ca vs) σV H Q) : tLc (TI' K it) (TGw K vs g) (TT' K t) (TC K ca) vs σV H Q := by
  obtain ⟨loc, σ, M, w, M', rel, e, aft⟩ := h
  obtain ⟨p, hp, e⟩ := bind_some e
  obtain ⟨ws, gd, M1⟩ := p
  obtain ⟨M2, hM2, e⟩ := bind_some e
  cases e
  refine ⟨loc, σ, M, ws, gd, M1, rel, hp, fun J H1 loc1 s1 ex1 l1 wk D hD => ?_⟩
  have aft1 := aft.after ex1 l1
  have rel1 := rel.move s1 ex1 l1
  have st0 : Store K (upd H1 D (.lst [])) (loc1 ++ [D]) (M1 ++ [.lst []]) := new_lst s1 .nil hD
  have exD : Ext K H1 (upd H1 D (.lst [])) := .new hD
  refine ⟨fun i m Hc => i ≤ ws.length ∧ m = ws.length - i ∧ ∃ locc Mc, Rel K locc σ Mc σV Hc ∧ Ext K H1 Hc ∧ (loc1 ++ [D]) <+: locc ∧ lcL gd g t ca vs σ M1.length (ws.drop i) Mc = some M',
    ⟨ws.length, Nat.zero_le _, rfl, loc1 ++ [D], M1 ++ [.lst []], rel1.move st0 exD (List.prefix_append _ _), exD, List.prefix_refl _, by rw [List.drop_zero]; exact hM2⟩, fun i m Hc hW => ?_⟩
  obtain ⟨hi, rfl, locc, Mc, relc, exc, lc, ec⟩ := hW
  have lc1 : loc1 <+: locc := (List.prefix_append _ _).trans lc
  have hDn : (loc1 ++ [D])[M1.length]? = some D := last_get s1.len.symm
  by_cases hlt : i < ws.length
  · rw [List.drop_eq_getElem_cons hlt] at ec
    rw [lcL] at ec
    split at ec
    · rename_i hgd
      obtain ⟨σ1, hg1, ec⟩ := bind_some ec
      obtain ⟨q, hq, ec⟩ := bind_some ec
      obtain ⟨w1, _⟩ := wk i Hc locc Mc relc.st exc lc1 hgd
      obtain ⟨go, yl⟩ := w1 ws[i] (List.getElem?_eq_getElem hlt)
      refine .inr ⟨go, fun H'' => ∃ loc'' M'', Rel K loc'' σ M'' σV H'' ∧ Ext K H1 H'' ∧ (loc1 ++ [D]) <+: loc'' ∧ lcL gd g t ca vs σ M1.length (ws.drop (i + 1)) M'' = some M', fun H'' hN => ⟨ws.length - (i + 1), by omega, hlt, rfl, hN⟩, fun x H2 y => ?_⟩
      obtain ⟨rd, st2, ex2⟩ := yl x H2 y
      have rel2 := relc.move st2 ex2 (List.prefix_refl _)
      refine ⟨locc, wipe σ vs, Mc, ws[i], σ1, rel2.wipe vs, rd, hg1, fun σV2 relw zw => ⟨zw.trans (wipe_wipe σV vs), ?_⟩⟩
      refine runT relw hq fun H3 loc3 rel3 ex3 l3 => ?_
      have exA := (exc.trans ex2).trans ex3
      have lA := lc.trans l3
      split at ec
      · rename_i hb
        rw [if_pos hb]
        obtain ⟨z, hz, ec⟩ := bind_some ec
        refine run1 rel3 hz fun v H4 loc4 rel4 rd4 ex4 l4 => ?_
        split at ec
        · rename_i acc hacc
          split at ec
          · rename_i hlen
            have hD4 := pre_get (lA.trans l4) hDn
            obtain ⟨xs, g1, g2⟩ := rel4.st.ok M1.length D _ hD4 hacc
            refine ⟨xs, g1, by rw [g2.length]; exact hlen, ?_⟩
            have ex5 : Ext K H4 (upd H4 D (.lst (xs ++ [v]))) := .upd g1 trivial
            have st5 : Store K (upd H4 D (.lst (xs ++ [v]))) loc4 (z.2.set M1.length (.lst (acc ++ [z.1]))) :=
              rel4.st.put hD4 hacc rfl rfl ⟨_, upd_same, (g2.append (.cons rd4 .nil)).mono ex5 (List.prefix_refl _)⟩
            exact ⟨loc4, _, relc.move st5 (((ex2.trans ex3).trans ex4).trans ex5) (l3.trans l4), ((exA.trans ex4).trans ex5), lA.trans l4, ec⟩
          · cases ec
        · cases ec
      · rename_i hb
        rw [if_neg hb]
        exact ⟨loc3, q.2, relc.move rel3.st (ex2.trans ex3) l3, exA, lA, ec⟩
    · cases ec
  · have e0 : i = ws.length := by omega
    subst e0
    rw [List.drop_length, lcL] at ec
    split at ec
    · rename_i hgd
      obtain ⟨_, w2⟩ := wk ws.length Hc locc Mc relc.st exc lc1 hgd
      cases ec
      exact .inl ⟨w2 (Nat.le_refl _), aft1 _ Hc locc relc.st (.ref (pre_get lc hDn)) exc lc1⟩
    · cases ec
abbrev _root_.L2.Cx.bl (X : Cx) (scope : Scope) (s : Shared) (H : Hp) (C : Addr) (cl : List (Str × Addr)) (fp : List Addr) : Cx := X.blk s H scope (compEnvC scope cl C X.env) fp
theorem r_lc {ifs : List Expr} {scope : Scope} {own : List (Str × Nat)} {it : CI} {t : CT} (hN : X.N.Nodup) (hi : EI X tg iter it) (ok : blkC X.N X.env.scope scope own = true)
    (hg : ∀ s H C cl fp, EGw (Cx.bl X scope s H C cl fp) (own.map (·.2)) tg g) (ht : ∀ s H C cl fp, TTs (Cx.bl X scope s H C cl fp) ifs t)
    (he : ∀ s H C cl fp, EV (Cx.bl X scope s H C cl fp) e ca) (hc : X.calm = true := by rfl) (hs : ∀ x, foldedSetIterable iter X.env x = pure x := by intro _; rfl) :
    EV X (.ListComp e [⟨tg, iter, ifs, 0⟩] scope pos) (eLc it g t ca (own.map (·.2))) :=
  (pe_lc hc hN hi (blkOk_by ok) hg ht he hs).mono fun σV H Q h => lc_aux h
theorem s_setLc (i : Nat) {y : Str} {py spos : Pos} {ifs : List Expr} {scope : Scope} {own : List (Str × Nat)} {it : CI} {t : CT} (hN : X.N.Nodup) (hi : EI X tg iter it) (ok : blkC X.N X.env.scope scope own = true)
    (hg : ∀ s H C cl fp, EGw (Cx.bl X scope s H C cl fp) (own.map (·.2)) tg g) (ht : ∀ s H C cl fp, TTs (Cx.bl X scope s H C cl fp) ifs t)
    (he : ∀ s H C cl fp, EV (Cx.bl X scope s H C cl fp) e ca) (hy : X.N[i]? = some y := by rfl) (hyl : X.env.scope.names.lookup y = some .local := by rfl)
    (ha : (scope.names.any fun (n, k) => n == y && (k == .local || k == .cell)) = false := by decide +kernel) (hk : X.env.scope.kind = .function := by rfl) (hl : (py.line == pos.line) = true := by rfl)
    (hc : X.calm = true := by rfl) (hs : ∀ x, foldedSetIterable iter X.env x = pure x := by intro _; rfl) :
    ES X (.Assign [.Name y py] (.ListComp e [⟨tg, iter, ifs, 0⟩] scope pos) spos) (sSet (gV i) (eLc it g t ca (own.map (·.2)))) :=
  (ps_setLc hc hN hy hyl (sw_true hk hyl hl ha) hi (blkOk_by ok) hg ht he hs).mono fun D σV H ⟨loc, σ, M, o, rel, e, aft⟩ => by
    obtain ⟨p, hp, e⟩ := bind_some e
    cases e
    exact lc_aux (run1 rel hp fun v H1 loc1 rel1 rd1 ex1 l1 => aft _ H1 loc1 (rel1.set rd1 i) ex1 l1)
end
end BF

set_option Elab.async false
set_option linter.all false
set_option autoImplicit false
set_option maxRecDepth 100000
/-! The operations lifted, and the rule for a def. -/
namespace BF
open PySem PySem.Spec
open PyProof.Rows L2

section
variable {K : KW}

theorem Lift2.or {r r' : R2} {g : Mem → W → W → Option (W × Mem)} (h : ∀ H loc M x y v u w M' Q, Store K H loc M → Rd K H loc v x → Rd K H loc u y → g M x y = some (w, M') → Aft K H loc w M' Q → r v u H Q ∨ r' v u H Q) :
    Lift2 K (fun x y H Q => r x y H Q ∨ r' x y H Q) g := h
/-- two ints in, a value out -/
theorem lift_int {C : Int → Int → Prop} {f : Int → Int → V} {f' : Int → Int → W} {g : Mem → W → W → Option (W × Mem)}
    (hg : ∀ M x y p, g M x y = some p → ∃ i j, x = .int i ∧ y = .int j ∧ C i j ∧ p = (f' i j, M)) (hf : ∀ H loc i j, Rd K H loc (f i j) (f' i j)) : Lift2 K (rI C f) g := by
  intro H loc M x y v u w M' Q s rx ry e aft
  obtain ⟨i, j, rfl, rfl, hC, e2⟩ := hg M x y _ e
  cases e2
  cases rx; cases ry
  exact ⟨i, j, rfl, rfl, hC, aft _ H loc s (hf H loc i j) .refl (List.prefix_refl _)⟩
theorem lift_int0 {f : Int → Int → V} {f' : Int → Int → W} {g : Mem → W → W → Option (W × Mem)}
    (hg : ∀ M x y p, g M x y = some p → ∃ i j, x = .int i ∧ y = .int j ∧ p = (f' i j, M)) (hf : ∀ H loc i j, Rd K H loc (f i j) (f' i j)) : Lift2 K (rI0 f) g := by
  intro H loc M x y v u w M' Q s rx ry e aft
  obtain ⟨i, j, rfl, rfl, e2⟩ := hg M x y _ e
  cases e2
  cases rx; cases ry
  exact ⟨i, j, rfl, rfl, aft _ H loc s (hf H loc i j) .refl (List.prefix_refl _)⟩
theorem l_sub : Lift2 K (rI0 fun i j => .int (i - j)) gSub := lift_int0 (f' := fun i j => .int (i - j)) (fun M x y p h => by
  unfold gSub at h; split at h
  · cases h; exact ⟨_, _, rfl, rfl, rfl⟩
  · cases h) fun _ _ _ _ => .int _
theorem l_lt : Lift2 K (rI0 fun i j => .bl (decide (i < j))) gLt := lift_int0 (f' := fun i j => .bl (decide (i < j))) (fun M x y p h => by
  unfold gLt at h; split at h
  · cases h; exact ⟨_, _, rfl, rfl, rfl⟩
  · cases h) fun _ _ _ _ => .bl _
theorem l_le : Lift2 K (rI0 fun i j => .bl (decide (i ≤ j))) gLe := lift_int0 (f' := fun i j => .bl (decide (i ≤ j))) (fun M x y p h => by
  unfold gLe at h; split at h
  · cases h; exact ⟨_, _, rfl, rfl, rfl⟩
  · cases h) fun _ _ _ _ => .bl _
theorem l_gt : Lift2 K (rI0 fun i j => .bl (decide (j < i))) gGt := lift_int0 (f' := fun i j => .bl (decide (j < i))) (fun M x y p h => by
  unfold gGt at h; split at h
  · cases h; exact ⟨_, _, rfl, rfl, rfl⟩
  · cases h) fun _ _ _ _ => .bl _
theorem l_ge : Lift2 K (rI0 fun i j => .bl (decide (j ≤ i))) gGe := lift_int0 (f' := fun i j => .bl (decide (j ≤ i))) (fun M x y p h => by
  unfold gGe at h; split at h
  · cases h; exact ⟨_, _, rfl, rfl, rfl⟩
  · cases h) fun _ _ _ _ => .bl _
theorem small64_iff {i : Int} (h : small64 i = true) : -(2 ^ 64) < i ∧ i < 2 ^ 64 := by
  have := Nat.le_of_ble_eq_true h
  omega
theorem l_mul : Lift2 K (rI CMul fun i j => .int (i * j)) gMul := lift_int (f' := fun i j => .int (i * j)) (fun M x y p h => by
  unfold gMul at h; split at h
  · split at h
    · rename_i hs
      cases h
      exact ⟨_, _, rfl, rfl, hs.elim (fun q => .inl (small64_iff q)) (fun q => .inr (small64_iff q)), rfl⟩
    · cases h
  · cases h) fun _ _ _ _ => .int _
theorem l_mod : Lift2 K (rI (fun _ j => 0 < j) fun i j => .int (i % j)) gMod := lift_int (f' := fun i j => .int (i % j)) (fun M x y p h => by
  unfold gMod at h; split at h
  · split at h
    · rename_i hs
      cases h
      exact ⟨_, _, rfl, rfl, hs, rfl⟩
    · cases h
  · cases h) fun _ _ _ _ => .int _
theorem l_div : Lift2 K (rI CDivW fun i j => .int (i / j)) gDiv := lift_int (f' := fun i j => .int (i / j)) (fun M x y p h => by
  unfold gDiv at h; split at h
  · split at h
    · rename_i hs
      cases h
      refine ⟨_, _, rfl, rfl, wide_div (b := 64) hs.1 (by have := small64_iff hs.2; omega) (by decide) (by decide), rfl⟩
    · cases h
  · cases h) fun _ _ _ _ => .int _
theorem l_pow : Lift2 K (rI CPow fun i j => .int (i ^ j.toNat)) gPow := lift_int (f' := fun i j => .int (i ^ j.toNat)) (fun M x y p h => by
  unfold gPow at h; split at h
  · split at h
    · rename_i hs
      cases h
      obtain ⟨h1, h2, h3⟩ := hs
      have h4 := small62_iff h3
      exact ⟨_, _, rfl, rfl, ⟨h1, by omega, by omega⟩, rfl⟩
    · cases h
  · cases h) fun _ _ _ _ => .int _
theorem l_neg : Lift1 K (rU fun i => .int (-i)) gNeg := by
  intro H loc M x v w M' Q s rx e aft
  unfold gNeg at e
  split at e
  · cases e
    cases rx
    exact ⟨_, rfl, aft _ H loc s (.int _) .refl (List.prefix_refl _)⟩
  · cases e
theorem strOk_append {a b : Str} (ha : PyData.strOk a = true) (hb : PyData.strOk b = true) : PyData.strOk (a ++ b) = true := by
  have e : (a ++ b).cps = a.cps ++ b.cps := rfl
  unfold PyData.strOk at *
  rw [e, Array.all_append, ha, hb]
  rfl
theorem length_append_str (a b : Str) : (a ++ b).length = a.length + b.length := by
  show (a.cps ++ b.cps).size = a.cps.size + b.cps.size
  rw [Array.size_append]
abbrev rAddW (K : KW) : R2 := fun x y H Q => rI0 (fun i j => .int (i + j)) x y H Q ∨ ((∃ i j, x = .str i ∧ y = .str j ∧ i.length + j.length ≤ sizeLine ∧ Q (.str (i ++ j)) H) ∨ (rCatA K x y H Q ∨ rCat x y H Q))
theorem o_add {X : Cx} : OpR X (binaryOp .Add) (rAddW X.KW) := op_add.or (op_add_str.or (op_catA.or op_cat))
theorem l_add : Lift2 K (rAddW K) gAdd := by
  intro H loc M x y v u w M' Q s rx ry e aft
  unfold gAdd at e
  split at e
  · cases e
    cases rx; cases ry
    exact .inl ⟨_, _, rfl, rfl, aft _ H loc s (.int _) .refl (List.prefix_refl _)⟩
  · split at e
    · rename_i hl
      cases e
      cases rx with
      | str a ha ha2 =>
        cases ry with
        | str b hb hb2 => exact .inr (.inl ⟨_, _, rfl, rfl, hl, aft _ H loc s (.str _ (strOk_append ha hb) (by rw [length_append_str]; exact hl)) .refl (List.prefix_refl _)⟩)
    · cases e
  · split at e
    · rename_i hl
      cases e
      cases rx with
      | @tup p xs ws sq rs =>
        cases ry with
        | @tup q ys zs sq' rs' =>
          refine .inr (.inr (.inl ⟨_, _, _, _, rfl, rfl, sq, sq', by rw [rs.length, rs'.length]; exact hl, fun z => ?_, fun z z' => ?_, fun z z' r hr => ?_⟩))
          · subst z
            cases rs
            exact aft _ H loc s (.tup sq' rs') .refl (List.prefix_refl _)
          · subst z'
            cases rs'
            rw [List.append_nil] at aft
            exact aft _ H loc s (.tup sq rs) .refl (List.prefix_refl _)
          · exact aft_tup s (rs.append rs') hr aft
    · cases e
  · split at e
    · rename_i hx hy
      split at e
      · rename_i hl
        cases e
        cases rx with
        | ref ha =>
          cases ry with
          | ref hb =>
            obtain ⟨us, h1, h2⟩ := s.ok _ _ _ ha hx
            obtain ⟨zs, h3, h4⟩ := s.ok _ _ _ hb hy
            exact .inr (.inr (.inr ⟨_, _, _, _, rfl, rfl, h1, h3, by rw [h2.length, h4.length]; exact hl, fun r hr => aft_lst s (h2.append h4) hr aft⟩))
      · cases e
    · cases e
  · cases e

/-! ### == -/
theorem mapO_get {α β : Type} {f : α → Option β} : ∀ {as : List α} {bs : List β}, mapO f as = some bs → Paired (fun a b => f a = some b) as bs
  | [], bs, h => by cases h; exact .nil
  | a :: as, bs, h => by
    rw [mapO] at h
    split at h
    · rename_i b bs' h1 h2
      cases h
      exact .cons h1 (mapO_get h2)
    · cases h
theorem toD_ok {H : Hp} {loc : List Addr} {M : Mem} (s : Store K H loc M) : ∀ (k : Nat) (v : V) (w : W) (d : PyData), Rd K H loc v w → toD M k w = some d → Dp K H v d ∧ d.canLay0 = true ∧ d.depth ≤ k
  | 0, _, _, _, _, h => by cases h
  | k + 1, v, w, d, r, h => by
    have all : ∀ (ws : List W) (vs : List V) (ds : List PyData), Rds K H loc vs ws → Paired (fun a b => toD M k a = some b) ws ds → DpAll K H vs ds ∧ PyData.canLayAll0 ds = true ∧ PyData.depthAll ds ≤ k := by
      intro ws
      induction ws with
      | nil =>
        intro vs ds r1 r2
        cases r1; cases r2
        exact ⟨.nil, rfl, Nat.zero_le _⟩
      | cons w ws ih =>
        intro vs ds r1 r2
        cases r1 with
        | cons a b =>
          cases r2 with
          | cons c d =>
            obtain ⟨g1, g2, g3⟩ := toD_ok s k _ _ _ a c
            obtain ⟨g4, g5, g6⟩ := ih _ _ b d
            refine ⟨.cons g1 g4, by rw [PyData.canLayAll0, g2, g5]; rfl, ?_⟩
            rw [PyData.depthAll]
            exact Nat.max_le.mpr ⟨g3, g6⟩
    cases r with
    | non => cases h; exact ⟨.non, by simp [PyData.canLay0], by simp [PyData.depth]⟩
    | bl b => cases h; exact ⟨.bl b, by simp [PyData.canLay0], by simp [PyData.depth]⟩
    | int i => cases h; exact ⟨.int i, by simp [PyData.canLay0], by simp [PyData.depth]⟩
    | str x hx => cases h; exact ⟨.str x, by simp [PyData.canLay0, hx], by simp [PyData.depth]⟩
    | @tup a xs ws sq rs =>
      rw [toD] at h
      obtain ⟨ds, h1, rfl⟩ := Option.map_eq_some_iff.mp h
      obtain ⟨g1, g2, g3⟩ := all ws xs ds rs (mapO_get h1)
      exact ⟨.tup sq g1, by rw [PyData.canLay0]; exact g2, by rw [PyData.depth]; omega⟩
    | @ref a n hn =>
      rw [toD] at h
      split at h
      · rename_i ws hw
        obtain ⟨ds, h1, rfl⟩ := Option.map_eq_some_iff.mp h
        obtain ⟨xs, q1, q2⟩ := s.ok _ _ _ hn hw
        obtain ⟨g1, g2, g3⟩ := all ws xs ds q2 (mapO_get h1)
        exact ⟨.lst (SqL.of q1) g1, by rw [PyData.canLay0]; exact g2, by rw [PyData.depth]; omega⟩
      · rename_i ws hw
        obtain ⟨ds, h1, rfl⟩ := Option.map_eq_some_iff.mp h
        obtain ⟨xs, q1, q2⟩ := s.ok _ _ _ hn hw
        obtain ⟨g1, g2, g3⟩ := all ws xs ds q2 (mapO_get h1)
        exact ⟨.lst q1.sq g1, by rw [PyData.canLay0]; exact g2, by rw [PyData.depth]; omega⟩
      · cases h
theorem eqW_ok {H : Hp} {loc : List Addr} {M : Mem} {v u : V} {x y : W} {b : Bool} (s : Store K H loc M) (rx : Rd K H loc v x) (ry : Rd K H loc u y) (h : eqW M x y = some b) :
    ∃ d e, Dp K H v d ∧ Dp K H u e ∧ SeqAt.shaped d = true ∧ SeqAt.shaped e = true ∧ PyData.eqv d e = b := by
  unfold eqW at h
  split at h
  · rename_i d e hd he
    cases h
    obtain ⟨g1, g2, g3⟩ := toD_ok s 64 v x d rx hd
    obtain ⟨g4, g5, g6⟩ := toD_ok s 64 u y e ry he
    exact ⟨d, e, g1, g4, by rw [SeqAt.shaped, g2, decide_eq_true g3]; rfl, by rw [SeqAt.shaped, g5, decide_eq_true g6]; rfl, rfl⟩
  · cases h
theorem l_eq : Lift2 K (rEqD K) gEq := by
  intro H loc M x y v u w M' Q s rx ry e aft
  obtain ⟨b, hb, e⟩ := Option.map_eq_some_iff.mp e
  cases e
  obtain ⟨d, d2, h1, h2, h3, h4, rfl⟩ := eqW_ok s rx ry hb
  exact ⟨d, d2, h1, h2, h3, h4, aft _ H loc s (.bl _) .refl (List.prefix_refl _)⟩
theorem l_ne : Lift2 K (rNeD K) gNe := by
  intro H loc M x y v u w M' Q s rx ry e aft
  obtain ⟨b, hb, e⟩ := Option.map_eq_some_iff.mp e
  cases e
  obtain ⟨d, d2, h1, h2, h3, h4, rfl⟩ := eqW_ok s rx ry hb
  exact ⟨d, d2, h1, h2, h3, h4, aft _ H loc s (.bl _) .refl (List.prefix_refl _)⟩

/-! ### items and slices -/
theorem ixW_eq (n : Nat) (i : Int) : ixW n i = ixN n i := rfl
theorem at_some {vs : List V} {ws : List W} {H : Hp} {loc : List Addr} {i : Int} {w : W} (r : Rds K H loc vs ws) (h : ((ixW ws.length i).bind fun j => ws[j]?) = some w) : ∃ v, atI vs i = some v ∧ Rd K H loc v w := by
  obtain ⟨j, h1, h2⟩ := bind_some h
  obtain ⟨v, g1, g2⟩ := r.get h2
  exact ⟨v, by unfold atI; rw [r.length, ← ixW_eq, h1]; exact g1, g2⟩
theorem l_ix : Lift2 K (rIx K) gIx := by
  intro H loc M x y v u w M' Q s rx ry e aft
  unfold gIx at e
  split at e
  · obtain ⟨z, hz, e⟩ := Option.map_eq_some_iff.mp e
    cases e
    cases ry
    cases rx with
    | @tup a xs ws sq rs =>
      obtain ⟨z', h1, h2⟩ := at_some rs hz
      exact .inr (.inl ⟨a, xs, _, z', rfl, rfl, sq, h1, aft _ H loc s h2 .refl (List.prefix_refl _)⟩)
  · cases ry
    cases rx with
    | @ref a n hn =>
      split at e
      · rename_i ws hw
        obtain ⟨z, hz, e⟩ := Option.map_eq_some_iff.mp e
        cases e
        obtain ⟨xs, q1, q2⟩ := s.ok _ _ _ hn hw
        obtain ⟨z', h1, h2⟩ := at_some q2 hz
        exact .inl ⟨a, xs, _, z', rfl, rfl, SqL.of q1, h1, aft _ H loc s h2 .refl (List.prefix_refl _)⟩
      · rename_i ws hw
        obtain ⟨z, hz, e⟩ := Option.map_eq_some_iff.mp e
        cases e
        obtain ⟨xs, q1, q2⟩ := s.ok _ _ _ hn hw
        obtain ⟨z', h1, h2⟩ := at_some q2 hz
        exact .inl ⟨a, xs, _, z', rfl, rfl, q1.sq, h1, aft _ H loc s h2 .refl (List.prefix_refl _)⟩
      · cases e
  · cases e
theorem sIx_eq (n d : Nat) (o : Option Int) : sIx n d o = HT.sIx n d o := by
  cases o <;> rfl
theorem Rds.cut {H : Hp} {loc : List Addr} {vs : List V} {ws : List W} (r : Rds K H loc vs ws) (lo hi : Option Int) : Rds K H loc (cutV vs lo hi) (cutW ws lo hi) := by
  unfold cutV cutW
  rw [← r.length, sIx_eq, sIx_eq]
  exact (r.drop _).take _
theorem cut_whole {α : Type} {xs : List α} {lo hi : Option Int} (h : sIx xs.length 0 lo = 0 ∧ sIx xs.length xs.length hi = xs.length) : cutW xs lo hi = xs := by
  unfold cutW
  rw [h.1, h.2, List.drop_zero, Nat.sub_zero, List.take_length]
abbrev rSlW (K : KW) : V → Option Int → Option Int → Hp → VK → Prop := fun x lo hi H Q => rSlA K x lo hi H Q ∨ rSlL K x lo hi H Q
theorem o_sl {X : Cx} : SlR X (rSlW X.KW) := sl_tupA.or sl_list
theorem l_sl : LiftS K (rSlW K) gSl := by
  intro H loc M x v lo hi w M' Q s rx e aft
  unfold gSl at e
  split at e
  · cases e
    cases rx with
    | @tup a xs ws sq rs =>
      refine .inl ⟨a, xs, rfl, sq, fun hw => ?_, fun _ p hp => aft_tup s (rs.cut lo hi) hp aft⟩
      rw [rs.length, ← sIx_eq, ← sIx_eq] at hw
      rw [cut_whole hw] at aft
      exact aft _ H loc s (.tup sq rs) .refl (List.prefix_refl _)
  · cases rx with
    | @ref a n hn =>
      split at e
      · rename_i ws hw
        cases e
        obtain ⟨xs, q1, q2⟩ := s.ok _ _ _ hn hw
        exact .inr ⟨a, xs, rfl, SqL.of q1, fun p hp => aft_lst s (q2.cut lo hi) hp aft⟩
      · cases e
  · cases e

/-! ### calls -/
theorem n_len : LiftN K (fun xs H Q => ∃ p ys, xs = [.ref p] ∧ (SqL K H p ys ∨ SqT K H p ys) ∧ Q (.int ys.length) H) pLen := by
  intro H loc M ws vs w M' Q s r e aft
  unfold pLen at e
  split at e
  · cases e
    match vs, r with
    | [_], .cons (.tup (a := a) (xs := xs) sq rs) .nil =>
      refine ⟨a, xs, rfl, .inr sq, ?_⟩
      rw [rs.length]
      exact aft _ H loc s (.int _) .refl (List.prefix_refl _)
  · match vs, r with
    | [_], .cons (.ref (a := a) hn) .nil =>
      split at e
      · rename_i zs hz
        cases e
        obtain ⟨xs, q1, q2⟩ := s.ok _ _ _ hn hz
        refine ⟨a, xs, rfl, .inl (SqL.of q1), ?_⟩
        rw [q2.length]
        exact aft _ H loc s (.int _) .refl (List.prefix_refl _)
      · rename_i zs hz
        cases e
        obtain ⟨xs, q1, q2⟩ := s.ok _ _ _ hn hz
        refine ⟨a, xs, rfl, .inl q1.sq, ?_⟩
        rw [q2.length]
        exact aft _ H loc s (.int _) .refl (List.prefix_refl _)
      · cases e
  · cases e
theorem n_min : LiftN K (fun xs H Q => ∃ i j, xs = [.int i, .int j] ∧ Q (.int (if j < i then j else i)) H) pMin := by
  intro H loc M ws vs w M' Q s r e aft
  unfold pMin at e
  split at e
  · cases e
    match vs, r with
    | [_, _], .cons (.int _) (.cons (.int _) .nil) => exact ⟨_, _, rfl, aft _ H loc s (.int _) .refl (List.prefix_refl _)⟩
  · cases e
theorem n_max : LiftN K (fun xs H Q => ∃ i j, xs = [.int i, .int j] ∧ Q (.int (if j > i then j else i)) H) pMax := by
  intro H loc M ws vs w M' Q s r e aft
  unfold pMax at e
  split at e
  · cases e
    match vs, r with
    | [_, _], .cons (.int _) (.cons (.int _) .nil) => exact ⟨_, _, rfl, aft _ H loc s (.int _) .refl (List.prefix_refl _)⟩
  · cases e
theorem n_abs : LiftN K (fun xs H Q => ∃ i, xs = [.int i] ∧ Q (.int (if i < 0 then -i else i)) H) pAbs := by
  intro H loc M ws vs w M' Q s r e aft
  unfold pAbs at e
  split at e
  · cases e
    match vs, r with
    | [_], .cons (.int _) .nil => exact ⟨_, rfl, aft _ H loc s (.int _) .refl (List.prefix_refl _)⟩
  · cases e
theorem n_list : LiftN K (fun xs H Q => ∃ p ys, xs = [.ref p] ∧ (SqL K H p ys ∨ SqT K H p ys) ∧ ∀ l, H l = none → Q (.ref l) (upd H l (.lst ys))) pList := by
  intro H loc M ws vs w M' Q s r e aft
  unfold pList at e
  split at e
  · cases e
    match vs, r with
    | [_], .cons (.tup (a := a) (xs := xs) sq rs) .nil => exact ⟨a, xs, rfl, .inr sq, fun l hl => aft_lst s rs hl aft⟩
  · match vs, r with
    | [_], .cons (.ref (a := a) hn) .nil =>
      split at e
      · rename_i zs hz
        cases e
        obtain ⟨xs, q1, q2⟩ := s.ok _ _ _ hn hz
        exact ⟨a, xs, rfl, .inl (SqL.of q1), fun l hl => aft_lst s q2 hl aft⟩
      · rename_i zs hz
        cases e
        obtain ⟨xs, q1, q2⟩ := s.ok _ _ _ hn hz
        exact ⟨a, xs, rfl, .inl q1.sq, fun l hl => aft_lst s q2 hl aft⟩
      · cases e
  · cases e
theorem n_tuple : LiftN K (fun xs H Q => ∃ p ys, xs = [.ref p] ∧ ((SqL K H p ys ∧ ∀ l, H l = none → Q (.ref l) (upd H l (.tup ys))) ∨ (SqT K H p ys ∧ Q (.ref p) H))) pTuple := by
  intro H loc M ws vs w M' Q s r e aft
  unfold pTuple at e
  split at e
  · cases e
    match vs, r with
    | [_], .cons (.tup (a := a) (xs := xs) sq rs) .nil => exact ⟨a, xs, rfl, .inr ⟨sq, aft _ H loc s (.tup sq rs) .refl (List.prefix_refl _)⟩⟩
  · match vs, r with
    | [_], .cons (.ref (a := a) hn) .nil =>
      split at e
      · rename_i zs hz
        cases e
        obtain ⟨xs, q1, q2⟩ := s.ok _ _ _ hn hz
        exact ⟨a, xs, rfl, .inl ⟨SqL.of q1, fun l hl => aft_tup s q2 hl aft⟩⟩
      · rename_i zs hz
        cases e
        obtain ⟨xs, q1, q2⟩ := s.ok _ _ _ hn hz
        exact ⟨a, xs, rfl, .inl ⟨q1.sq, fun l hl => aft_tup s q2 hl aft⟩⟩
      · cases e
  · cases e
/-- a list is changed: what is wanted behind it -/
theorem aft_put {H : Hp} {loc : List Addr} {M : Mem} {a : Addr} {n : Nat} {ws us : List W} {xs ys : List V} {w : W} {v : V} {Q : VK} (s : Store K H loc M) (hn : loc[n]? = some a) (hw : M[n]? = some (.lst ws)) (hx : H a = some (.lst xs))
    (ry : Rds K H loc ys us) (rv : Rd K H loc v w) (aft : Aft K H loc w (M.set n (.lst us)) Q) : Q v (upd H a (.lst ys)) := by
  have ex : Ext K H (upd H a (.lst ys)) := .upd hx trivial
  exact aft _ _ loc (s.put hn hw rfl rfl ⟨ys, upd_same, ry.mono ex (List.prefix_refl _)⟩) (rv.mono ex (List.prefix_refl _)) ex (List.prefix_refl _)
theorem m_append : LiftN K (fun vs H Q => ∃ v us, vs = v :: us ∧ rAppend v us H Q) mAppend := by
  intro H loc M ws vs w M' Q s r e aft
  unfold mAppend at e
  split at e
  · match vs, r with
    | [_, v], .cons (.ref (a := a) hn) (.cons rv .nil) =>
      split at e
      · rename_i zs hz
        split at e
        · rename_i hl
          cases e
          obtain ⟨xs, q1, q2⟩ := s.ok _ _ _ hn hz
          exact ⟨_, _, rfl, a, xs, v, rfl, rfl, q1, by rw [q2.length]; exact hl, aft_put s hn hz q1 (q2.append (.cons rv .nil)) .non aft⟩
        · cases e
      · cases e
  · cases e
theorem m_pop : LiftN K (fun vs H Q => ∃ v us, vs = v :: us ∧ rPop v us H Q) mPop := by
  intro H loc M ws vs w M' Q s r e aft
  unfold mPop at e
  split at e
  · match vs, r with
    | [_], .cons (.ref (a := a) hn) .nil =>
      split at e
      · rename_i zs hz
        obtain ⟨z, hz1, e⟩ := Option.map_eq_some_iff.mp e
        cases e
        obtain ⟨xs, q1, q2⟩ := s.ok _ _ _ hn hz
        obtain ⟨v, g1, g2⟩ := q2.get hz1
        rw [← q2.length] at g1
        exact ⟨_, _, rfl, a, xs, v, rfl, rfl, q1, g1, aft_put s hn hz q1 q2.dropLast g2 aft⟩
      · cases e
  · cases e
theorem m_popAt : LiftN K (fun vs H Q => ∃ v us, vs = v :: us ∧ rPopAt v us H Q) mPopAt := by
  intro H loc M ws vs w M' Q s r e aft
  unfold mPopAt at e
  split at e
  · match vs, r with
    | [_, _], .cons (.ref (a := a) hn) (.cons (.int i) .nil) =>
      split at e
      · rename_i zs hz
        split at e
        · rename_i h62
          obtain ⟨j, hj, e⟩ := bind_some e
          obtain ⟨z, hz1, e⟩ := Option.map_eq_some_iff.mp e
          cases e
          obtain ⟨xs, q1, q2⟩ := s.ok _ _ _ hn hz
          obtain ⟨v, g1, g2⟩ := q2.get hz1
          obtain ⟨b1, b2⟩ := small62_iff h62
          rw [ixW_eq] at hj
          obtain ⟨s1, _, _, _⟩ := ixN_seq hj
          exact ⟨_, _, rfl, a, xs, i, j, v, rfl, rfl, q1, by omega, by omega, by rw [q2.length]; exact s1, g1, aft_put s hn hz q1 (q2.erase j) g2 aft⟩
        · cases e
      · cases e
  · cases e
theorem p_lst : LiftP K rSetL putL := by
  intro H loc M x y z o i v M' Q s rx ry rz e h
  unfold putL at e
  split at e
  · cases ry
    cases rx with
    | @ref a n hn =>
      split at e
      · rename_i ws hw
        obtain ⟨j, hj, rfl⟩ := Option.map_eq_some_iff.mp e
        obtain ⟨xs, q1, q2⟩ := s.ok _ _ _ hn hw
        rw [ixW_eq, ← q2.length] at hj
        refine ⟨a, xs, _, j, rfl, rfl, q1, hj, ?_⟩
        have ex : Ext K H (upd H a (.lst (xs.set j v))) := .upd q1 trivial
        exact h _ loc (s.put hn hw rfl rfl ⟨_, upd_same, (q2.set rz j).mono ex (List.prefix_refl _)⟩) ex (List.prefix_refl _)
      · cases e
  · cases e

/-! ### a def -/
mutual
theorem Rd.closed {H : Hp} {loc : List Addr} : ∀ {v : V} {w : W}, Rd K H loc v w → w.closed loc.length = true
  | _, _, .non => by simp [W.closed]
  | _, _, .bl b => by simp [W.closed]
  | _, _, .int i => by simp [W.closed]
  | _, _, .str x _ _ => by simp [W.closed]
  | _, _, .tup _ r => by rw [W.closed]; exact Rds.closed r
  | _, _, .ref h => by rw [W.closed]; exact decide_eq_true (List.getElem?_eq_some_iff.mp h).1
theorem Rds.closed {H : Hp} {loc : List Addr} : ∀ {vs : List V} {ws : List W}, Rds K H loc vs ws → W.closeds loc.length ws = true
  | _, _, .nil => by simp [W.closeds]
  | _, _, .cons r rs => by rw [W.closeds, Rd.closed r, Rds.closed rs]; rfl
end
mutual
theorem Rd.cutLoc {H : Hp} {loc : List Addr} {k : Nat} : ∀ {v : V} {w : W}, Rd K H loc v w → w.closed k = true → Rd K H (loc.take k) v w
  | _, _, .non, _ => .non
  | _, _, .bl b, _ => .bl b
  | _, _, .int i, _ => .int i
  | _, _, .str x h h2, _ => .str x h h2
  | _, _, .tup h r, c => .tup h (Rds.cutLoc r (by rw [W.closed] at c; exact c))
  | _, _, .ref h, c => .ref (by rw [W.closed] at c; rw [List.getElem?_take, if_pos (of_decide_eq_true c)]; exact h)
theorem Rds.cutLoc {H : Hp} {loc : List Addr} {k : Nat} : ∀ {vs : List V} {ws : List W}, Rds K H loc vs ws → W.closeds k ws = true → Rds K H (loc.take k) vs ws
  | _, _, .nil, _ => .nil
  | _, _, .cons r rs, c => by
    rw [W.closeds, Bool.and_eq_true] at c
    exact .cons (Rd.cutLoc r c.1) (Rds.cutLoc rs c.2)
end
theorem closeds_mem {k : Nat} : ∀ {ws : List W} {w : W}, W.closeds k ws = true → w ∈ ws → w.closed k = true
  | [], _, _, h => by cases h
  | u :: ws, w, c, h => by
    rw [W.closeds, Bool.and_eq_true] at c
    rcases List.mem_cons.mp h with rfl | h
    · exact c.1
    · exact closeds_mem c.2 h
theorem closeds_of {k : Nat} : ∀ {ws : List W}, (∀ w ∈ ws, w.closed k = true) → W.closeds k ws = true
  | [], _ => rfl
  | u :: ws, h => by
    rw [W.closeds, Bool.and_eq_true]
    exact ⟨h u List.mem_cons_self, closeds_of fun w hw => h w (List.mem_cons_of_mem _ hw)⟩
theorem closed_vals {k : Nat} {ws : List (W × W)} (c : (MO.dK ws).closed k = true) : W.closeds k (ws.map (·.2)) = true := by
  rw [MO.closed, List.all_eq_true] at c
  refine closeds_of fun w hw => ?_
  obtain ⟨p, hp, rfl⟩ := List.mem_map.mp hw
  have := c p hp
  rw [Bool.and_eq_true] at this
  exact this.2
theorem closed_both {k : Nat} {ws : List (W × W)} (h1 : W.closeds k (ws.map (·.1)) = true) (h2 : W.closeds k (ws.map (·.2)) = true) : (ws.all fun p => p.1.closed k && p.2.closed k) = true := by
  rw [List.all_eq_true]
  intro p hp
  rw [Bool.and_eq_true]
  exact ⟨closeds_mem h1 (List.mem_map_of_mem hp), closeds_mem h2 (List.mem_map_of_mem hp)⟩
theorem closed_keyW {k : Nat} {kvs : List (Key × V)} {ws : List (W × W)} (h : kvs.map (fun p => keyW p.1) = ws.map (·.1)) : W.closeds k (ws.map (·.1)) = true := by
  rw [← h]
  refine closeds_of fun w hw => ?_
  obtain ⟨p, _, rfl⟩ := List.mem_map.mp hw
  cases p.1 <;> rfl
theorem closed_keys {k : Nat} {m : DM} {ws : List (W × W)} (c : (MO.dT m ws).closed k = true) : W.closeds k (ws.map (·.1)) = true ∧ W.closeds k (ws.map (·.2)) = true := by
  rw [MO.closed, List.all_eq_true] at c
  refine ⟨closeds_of fun w hw => ?_, closeds_of fun w hw => ?_⟩ <;> obtain ⟨p, hp, rfl⟩ := List.mem_map.mp hw <;> have := c p hp <;> rw [Bool.and_eq_true] at this
  · exact this.1
  · exact this.2
theorem MOk.closed {H : Hp} {loc : List Addr} {a : Addr} {mo : MO} (h : MOk K H loc a mo) : mo.closed loc.length = true := by
  cases mo with
  | lst ws => obtain ⟨xs, _, r⟩ := h; exact r.closed
  | ro ws => obtain ⟨xs, _, r⟩ := h; exact r.closed
  | dT m ws =>
    cases m with
    | nest => obtain ⟨es, h1, h2⟩ := h; exact closed_both h2.ks.closed h2.vs.closed
    | lockF => obtain ⟨o, es, h1, h2⟩ := h; exact closed_both (closed_keyW h2.keys) h2.vs.closed
    | lockN => obtain ⟨o, es, h1, h2⟩ := h; exact closed_both h2.ks.closed h2.vs.closed
    | tab => obtain ⟨o, es, h1, h2⟩ := h; exact closed_both (closed_keyW h2.keys) h2.vs.closed
  | dK ws =>
    obtain ⟨kvs, _, h2, _, r⟩ := h
    rw [MO.closed, List.all_eq_true]
    intro p hp
    rw [Bool.and_eq_true]
    refine ⟨?_, ?_⟩
    · have : p.1 ∈ ws.map (·.1) := List.mem_map_of_mem hp
      rw [← h2] at this
      obtain ⟨q, _, e⟩ := List.mem_map.mp this
      rw [← e]
      cases q.1 <;> rfl
    · exact closeds_mem r.closed (List.mem_map_of_mem hp)
theorem MOk.cutLoc {H : Hp} {loc : List Addr} {a : Addr} {mo : MO} {k : Nat} (h : MOk K H loc a mo) (c : mo.closed k = true) : MOk K H (loc.take k) a mo := by
  cases mo with
  | lst ws => obtain ⟨xs, h1, r⟩ := h; exact ⟨xs, h1, r.cutLoc c⟩
  | ro ws => obtain ⟨xs, h1, r⟩ := h; exact ⟨xs, h1, r.cutLoc c⟩
  | dT m ws =>
    obtain ⟨c1, c2⟩ := closed_keys c
    cases m with
    | nest => obtain ⟨es, h1, h2⟩ := h; exact ⟨es, h1, h2.keys, h2.dep, h2.ks.cutLoc c1, h2.vs.cutLoc c2⟩
    | lockF => obtain ⟨o, es, h1, h2⟩ := h; exact ⟨o, es, h1, h2.keys, h2.ok, h2.vs.cutLoc c2⟩
    | lockN => obtain ⟨o, es, h1, h2⟩ := h; exact ⟨o, es, h1, h2.keys, h2.dep, h2.ks.cutLoc c1, h2.vs.cutLoc c2⟩
    | tab => obtain ⟨o, es, h1, h2⟩ := h; exact ⟨o, es, h1, h2.keys, h2.ok, h2.vs.cutLoc c2⟩
  | dK ws => obtain ⟨kvs, h1, h2, h3, r⟩ := h; exact ⟨kvs, h1, h2, h3, r.cutLoc (closed_vals c)⟩
theorem Store.closed {H : Hp} {loc : List Addr} {M : Mem} (s : Store K H loc M) : Closed M := fun mo hm => by
  obtain ⟨i, hi⟩ := List.getElem?_of_mem hm
  obtain ⟨a, h1, h2⟩ := s.at hi
  rw [← s.len]
  exact h2.closed
theorem Rds.each {H : Hp} {loc : List Addr} {vs : List V} {ws : List W} (r : Rds K H loc vs ws) : ∀ x ∈ ws, x.closed loc.length = true := fun x hx => by
  obtain ⟨i, hi⟩ := List.getElem?_of_mem hx
  obtain ⟨v, _, h⟩ := r.get hi
  exact h.closed
/-- what was laid last is forgotten -/
theorem Store.cut {H : Hp} {loc : List Addr} {M g : Mem} (s : Store K H loc (M ++ g)) (c : Closed M) : Store K H (loc.take M.length) M := by
  have hl := s.len
  rw [List.length_append] at hl
  refine ⟨by rw [List.length_take]; omega, fun i a mo h1 h2 => ?_, fun i j a m n h1 h2 h3 h4 => ?_⟩
  · have hi : i < M.length := (List.getElem?_eq_some_iff.mp h2).1
    rw [List.getElem?_take, if_pos hi] at h1
    refine (s.ok i a mo h1 ?_).cutLoc (c mo (List.mem_of_getElem? h2))
    rw [List.getElem?_append_left hi]; exact h2
  · have hi : i < M.length := (List.getElem?_eq_some_iff.mp h3).1
    have hj : j < M.length := (List.getElem?_eq_some_iff.mp h4).1
    rw [List.getElem?_take, if_pos hi] at h1
    rw [List.getElem?_take, if_pos hj] at h2
    exact s.apart i j a m n h1 h2 (by rw [List.getElem?_append_left hi]; exact h3) (by rw [List.getElem?_append_left hj]; exact h4)
/-- the addresses by other ids -/
def renLoc (loc : List Addr) (r : Nat → Nat) (n : Nat) : List Addr := (List.range n).map fun i => loc.getD (r i) 0
theorem renLoc_get {loc : List Addr} {r : Nat → Nat} {n i : Nat} {a : Addr} (hi : i < n) (h : loc[r i]? = some a) : (renLoc loc r n)[i]? = some a := by
  unfold renLoc
  rw [List.getElem?_map, List.getElem?_range hi]
  show some (loc.getD (r i) 0) = some _
  rw [List.getD_eq_getElem?_getD, h]; rfl
mutual
theorem Rd.unren {H : Hp} {loc : List Addr} {r : Nat → Nat} {n : Nat} (look : ∀ i, i < n → ∃ a, loc[r i]? = some a) : ∀ {v : V} {w : W}, Rd K H loc v (w.ren r) → w.closed n = true → Rd K H (renLoc loc r n) v w
  | _, .non, h, _ => by rw [W.ren] at h; cases h; exact .non
  | _, .bl b, h, _ => by rw [W.ren] at h; cases h; exact .bl b
  | _, .int i, h, _ => by rw [W.ren] at h; cases h; exact .int i
  | _, .str x, h, _ => by rw [W.ren] at h; cases h with | str _ h1 h2 => exact .str x h1 h2
  | _, .tup ws, h, c => by
    rw [W.ren] at h
    rw [W.closed] at c
    cases h with
    | tup sq rs => exact .tup sq (Rds.unren look rs c)
  | _, .ref k, h, c => by
    rw [W.ren] at h
    rw [W.closed] at c
    cases h with
    | ref ha => exact .ref (renLoc_get (of_decide_eq_true c) ha)
theorem Rds.unren {H : Hp} {loc : List Addr} {r : Nat → Nat} {n : Nat} (look : ∀ i, i < n → ∃ a, loc[r i]? = some a) : ∀ {vs : List V} {ws : List W}, Rds K H loc vs (W.rens r ws) → W.closeds n ws = true → Rds K H (renLoc loc r n) vs ws
  | _, [], h, _ => by rw [W.rens] at h; cases h; exact .nil
  | _, w :: ws, h, c => by
    rw [W.rens] at h
    rw [W.closeds, Bool.and_eq_true] at c
    cases h with
    | cons a b => exact .cons (Rd.unren look a c.1) (Rds.unren look b c.2)
end
theorem isMut_ren (r : Nat → Nat) (mo : MO) : isMut (mo.ren r) = isMut mo := by
  cases mo with
  | dT m _ => cases m <;> rfl
  | _ => rfl
theorem isOwn_ren (r : Nat → Nat) (mo : MO) : isOwn (mo.ren r) = isOwn mo := by cases mo <;> rfl
mutual
theorem keyN_ren (r : Nat → Nat) : ∀ w : W, keyN (w.ren r) = keyN w
  | .non => rfl
  | .bl _ => rfl
  | .int _ => rfl
  | .str _ => rfl
  | .tup ws => by rw [W.ren, keyN, keyN, keyNs_ren r ws]
  | .ref _ => rfl
theorem keyNs_ren (r : Nat → Nat) : ∀ ws : List W, keyNs (W.rens r ws) = keyNs ws
  | [] => rfl
  | w :: ws => by rw [W.rens, keyNs, keyNs, keyN_ren r w, keyNs_ren r ws]
end
theorem rens_map {r : Nat → Nat} : ∀ ws : List W, W.rens r ws = ws.map (W.ren r)
  | [] => rfl
  | w :: ws => by rw [W.rens, rens_map ws]; rfl
theorem key_ren {r : Nat → Nat} {w : W} {k : Key} (h : keyW k = w.ren r) : keyW k = w := by
  cases k <;> cases w <;> simp [keyW, W.ren] at h ⊢ <;> exact h
theorem keys_ren {r : Nat → Nat} : ∀ {kvs : List (Key × V)} {ws : List (W × W)}, kvs.map (fun p => keyW p.1) = (ws.map fun p => (p.1.ren r, p.2.ren r)).map (·.1) → kvs.map (fun p => keyW p.1) = ws.map (·.1)
  | [], [], _ => rfl
  | [], _ :: _, h => by cases h
  | _ :: _, [], h => by cases h
  | p :: kvs, q :: ws, h => by
    simp only [List.map_cons, List.cons.injEq] at h ⊢
    exact ⟨key_ren h.1, keys_ren h.2⟩
theorem MOk.unren {H : Hp} {loc : List Addr} {r : Nat → Nat} {n : Nat} (look : ∀ i, i < n → ∃ a, loc[r i]? = some a) {a : Addr} {mo : MO} (h : MOk K H loc a (mo.ren r)) (c : mo.closed n = true) : MOk K H (renLoc loc r n) a mo := by
  cases mo with
  | lst ws => obtain ⟨xs, h1, h2⟩ := h; exact ⟨xs, h1, Rds.unren look h2 c⟩
  | ro ws => obtain ⟨xs, h1, h2⟩ := h; exact ⟨xs, h1, Rds.unren look h2 c⟩
  | dT m ws =>
    obtain ⟨c1, c2⟩ := closed_keys c
    have k1 : ∀ {es : NE}, NestOk K H loc es (ws.map fun p => (p.1.ren r, p.2.ren r)) → NestOk K H (renLoc loc r n) es ws := fun {es} q => by
      have q1 := q.ks
      have q2 := q.vs
      have q3 := q.keys
      rw [List.map_map] at q1 q2 q3
      refine ⟨q3.trans (List.map_congr_left fun p _ => keyN_ren r p.1), q.dep, Rds.unren look ?_ c1, Rds.unren look ?_ c2⟩
      · rw [rens_map, List.map_map]; exact q1
      · rw [rens_map, List.map_map]; exact q2
    cases m with
    | nest => obtain ⟨es, h1, h2⟩ := h; exact ⟨es, h1, k1 h2⟩
    | lockF =>
      obtain ⟨o, kvs, h1, h2⟩ := h
      refine ⟨o, kvs, h1, keys_ren h2.keys, h2.ok, Rds.unren look ?_ c2⟩
      have q2 := h2.vs
      rw [List.map_map] at q2
      rw [rens_map, List.map_map]; exact q2
    | lockN => obtain ⟨o, es, h1, h2⟩ := h; exact ⟨o, es, h1, k1 h2⟩
    | tab =>
      obtain ⟨o, kvs, h1, h2⟩ := h
      refine ⟨o, kvs, h1, keys_ren h2.keys, h2.ok, Rds.unren look ?_ c2⟩
      rw [rens_map]
      have q2 := h2.vs
      simp only [List.map_map] at q2 ⊢
      exact q2
  | dK ws =>
    obtain ⟨kvs, h1, h2, h3, h4⟩ := h
    refine ⟨kvs, h1, ?_, h3, Rds.unren look ?_ (closed_vals c)⟩
    · exact keys_ren h2
    · rw [rens_map]
      rw [List.map_map] at h4 ⊢
      exact h4
theorem Store.ren {H : Hp} {loc : List Addr} {M M2 : Mem} {r : Nat → Nat} (s : Store K H loc M2) (c : Closed M) (hr : ∀ (i : Nat) (mo : MO), M[i]? = some mo → M2[r i]? = some (mo.ren r)) (inj : ∀ i j, i < M.length → j < M.length → r i = r j → i = j) :
    Store K H (renLoc loc r M.length) M := by
  have look : ∀ i, i < M.length → ∃ a, loc[r i]? = some a := fun i hi => by
    obtain ⟨a, ha, _⟩ := s.at (hr i _ (List.getElem?_eq_getElem hi))
    exact ⟨a, ha⟩
  refine ⟨by simp [renLoc], fun i a mo h1 h2 => ?_, fun i j a m n h1 h2 h3 h4 m1 m2 => ?_⟩
  · have hi := (List.getElem?_eq_some_iff.mp h2).1
    obtain ⟨b, hb⟩ := look i hi
    rw [renLoc_get hi hb] at h1
    cases h1
    exact MOk.unren look (s.ok _ _ _ hb (hr i mo h2)) (c mo (List.mem_of_getElem? h2))
  · have hi := (List.getElem?_eq_some_iff.mp h3).1
    have hj := (List.getElem?_eq_some_iff.mp h4).1
    obtain ⟨b, hb⟩ := look i hi
    obtain ⟨b', hb'⟩ := look j hj
    rw [renLoc_get hi hb] at h1
    rw [renLoc_get hj hb'] at h2
    cases h1; cases h2
    exact inj i j hi hj (s.apart _ _ _ _ _ hb hb' (hr i m h3) (hr j n h4) (by rw [isOwn_ren]; exact m1) (by rw [isOwn_ren]; exact m2))
end
end BF

set_option Elab.async false
set_option linter.all false
set_option autoImplicit false
set_option maxRecDepth 100000
/-! The rule for a def; three names at once; the law's own promise. -/
namespace BF
open PySem PySem.Spec
open PyProof.Rows L2

theorem hu64 {k : Nat} {A : Around} (hr : Room k A) : A.units + 64 < cLine := by have := hr.un; omega

section
variable {X : Cx} {a b c : Expr} {ca cb cc : CE} {pos : Pos}
/-- a, b, c = x, y, z of plain local names -/
theorem s_par3 (i j k : Nat) {x y z : Str} {px py pz pt : Pos} {kt k2 pt2} (hc : X.calm = true) (hN : X.N.Nodup) (ha : EA X [a, b, c] [ca, cb, cc]) (hi : X.N[i]? = some x := by rfl) (hj : X.N[j]? = some y := by rfl) (hk : X.N[k]? = some z := by rfl)
    (hx : X.env.scope.names.lookup x = some .local := by rfl) (hy : X.env.scope.names.lookup y = some .local := by rfl) (hz : X.env.scope.names.lookup z = some .local := by rfl) (hij : i ≠ j := by decide) (hik : i ≠ k := by decide) (hjk : j ≠ k := by decide)
    (hw : swappedStores [.Tuple [.Name x px, .Name y py, .Name z pz] kt pt] (.Tuple [a, b, c] k2 pt2) X.env = pure (some [x, y, z]) := by rfl)
    (hs : swapsWithSole [.Tuple [.Name x px, .Name y py, .Name z pz] kt pt] (.Tuple [a, b, c] k2 pt2) pos.line X.env = pure false := by rfl) :
    ES X (.Assign [.Tuple [.Name x px, .Name y py, .Name z pz] kt pt] (.Tuple [a, b, c] k2 pt2) pos) (sPar [i, j, k] [ca, cb, cc]) := by
  refine ⟨fun pins s σV H D I h => ?_⟩
  obtain ⟨loc, σ, M, o, rel, e, aft⟩ := h
  obtain ⟨p, hp, e⟩ := bind_some e
  have hl : p.1.length = 3 := eArgs_length hp
  obtain ⟨p1, M1⟩ := p
  match p1, hl with
  | [w1, w2, w3], _ =>
  cases e
  rw [exec_Assign_arm]
  refine wpAny_bind (wpAny_standAt ?_)
  rw [hs]
  refine wpAny_bind (wpAny_pure ?_)
  rw [if_neg (by decide)]
  refine wpAny_bind (Tuple_ ?_)
  refine thn (ha.run _ pins s σV H (fun vs H1 => ∃ v1 v2 v3, vs = [v1, v2, v3] ∧ ∀ σV', σV' = ((σV.set i (some v1)).set j (some v2)).set k (some v3) → D.nx σV' H1) I ?_) fun us s1 hus => ?_
  · refine runA rel hp fun vs H1 loc1 rel1 rd1 ex1 l1 => ?_
    match vs, rd1 with
    | [v1, v2, v3], .cons r1 (.cons r2 (.cons r3 .nil)) =>
      exact ⟨v1, v2, v3, rfl, fun σV' e' => by
        subst e'
        exact aft _ H1 loc1 (((rel1.set r1 i).set r2 j).set r3 k) ex1 l1⟩
  · obtain ⟨vs, H1, I1, r1, v1, v2, v3, e1, q1⟩ := hus
    subst e1
    obtain ⟨u1, u2, u3, e2, g1, g2, g3⟩ : ∃ u1 u2 u3, us = [u1, u2, u3] ∧ RelV v1 u1 ∧ RelV v2 u2 ∧ RelV v3 u3 := by
      cases r1 with
      | cons a1 t1 =>
        cases t1 with
        | cons a2 t2 =>
          cases t2 with
          | cons a3 t3 =>
            cases t3
            exact ⟨_, _, _, rfl, a1, a2, a3⟩
    subst e2
    refine wpAny_newObj_type ?_ (by show 3 ≤ sizeLine; decide)
    have I2 : Inv X pins σV H1 { s1 with heap := s1.heap.push { cls := .type "tuple", data := .seq [u1, u2, u3].toArray } } :=
      I1.kept (t' := s1.toks) fun b o e => Heap.get?_push_of_some _ e
    rw [hw]
    refine wpAny_bind (wpAny_pure ?_)
    show wpAny (model X.prog X.w) X.A (do
      rule "assign.swapped-stores"
      let items ← unpackItems (.ref s1.heap.objs.size) 3 none
      assignInOrder [fun v => bindName X.env z v, fun v => bindName X.env y v, fun v => bindName X.env x v] items.reverse
      pure Flow.next) _ _ _
    refine wpAny_bind (wpAny_rule (wpAny_bind (unpackItems_tuple (items := #[u1, u2, u3]) (I.ok.hd hc) (IsTup.new s1.heap _) fun h' hx' => ?_)))
    have I3 := I2.kept (h' := h') (t' := s1.toks) fun b o e => hx' b o (Nat.ne_of_lt (Heap.lt_size e)) e
    show wpAny _ _ (assignInOrder [fun v => bindName X.env z v, fun v => bindName X.env y v, fun v => bindName X.env x v] [u3, u2, u1] >>= fun _ => pure Flow.next) _ _ _
    refine wpAny_bind (assignInOrder_cons (wpAny_bindName (store_ok I3 hN hk (.inl hz) g3 (fun s2 I4 => ?_) (.inr hz))))
    refine assignInOrder_cons (wpAny_bindName (store_ok I4 hN hj (.inl hy) g2 (fun s3 I5 => ?_) (.inr hy)))
    refine assignInOrder_cons (wpAny_bindName (store_ok I5 hN hi (.inl hx) g1 (fun s4 I6 => assignInOrder_nil (wpAny_pure ?_)) (.inr hx)))
    refine ⟨_, H1, I6, q1 _ ?_⟩
    rw [List.set_comm _ _ (Ne.symm hij), List.set_comm _ _ (Ne.symm hik), List.set_comm _ _ (Ne.symm hjk)]
end

section
variable {P : Program} {w : World} {K : PySem.W.Frag} {mg : Str → Option Value} {base : Heap}
theorem rel_start {K : KW} {N : List Str} {loc : List Addr} {M : Mem} {H : Hp} {vs : List V} {ws : List W} (s : Store K H loc M) (r : Rds K H loc vs ws) : Rel K loc (ws.map some ++ List.replicate (N.length - ws.length) none) M (L2.start N vs) H := by
  have hl := r.length
  refine ⟨s, by unfold L2.start; simp [hl], fun i u e => ?_⟩
  by_cases hi : i < ws.length
  · rw [List.getElem?_append_left (by simpa using hi), List.getElem?_map] at e
    obtain ⟨z, hz, e⟩ := Option.map_eq_some_iff.mp e
    cases e
    obtain ⟨v, h1, h2⟩ := r.get hz
    refine ⟨v, ?_, h2⟩
    unfold L2.start
    rw [List.getElem?_append_left (by rw [List.length_map]; omega), List.getElem?_map, h1]
    rfl
  · rw [List.getElem?_append_right (by simpa using hi)] at e
    have := List.mem_of_getElem? e
    simp at this
/-- a def of one's own keeps the promise G: its text as der says, what it computes as hk says -/
theorem fn_ok {x qual : Str} {st : Stmt} {f : Addr} {fd : FuncData} {N ps : List Str} {k : Nat} {body : CS} {G : Fn} (F : Fun K x qual st f fd) (S : FnScope N ps (defScope st)) (hk : Keeps N.length body G)
    (der : ∀ (cdv : Value) (A : Around) (outer : List Env) (s : Shared) (H : Hp) (E : XK), Room k (A.deeper (envOfC qual (defScope st) s.heap.objs.size f cdv)) →
      ESs (cxOf CX0 P w K mg base N qual (defScope st) f cdv A outer s H E).nox (defBody st) body) : FnOk P w K mg base CX0 (k + 1) f fd ps (spF ⟨K, w, tabOf mg⟩ ps.length G) := by
  refine F.ok S (fun vs H Q E h => h.1) fun cdv A outer s H vs Q E hr h => ⟨_, der cdv A outer s H E hr, ?_⟩
  obtain ⟨hl, loc, M, ws, u, M', st, rd, e, aft⟩ := h
  have hc := st.closed
  obtain ⟨r, M2, hor, hid, hr, hinj, hle, hcl, hcw⟩ := hk ws M u M' hc (by rw [← st.len]; exact rd.each) e
  have fin : Aft ⟨K, w, tabOf mg⟩ H loc (u.ren r) M2 Q := fun v H' loc' s' r' ex l => by
    have look : ∀ i, i < M'.length → ∃ a, loc'[r i]? = some a := fun i hi => by
      obtain ⟨a, ha, _⟩ := s'.at (hr i _ (List.getElem?_eq_getElem hi))
      exact ⟨a, ha⟩
    have pre : loc <+: renLoc loc' r M'.length := by
      rw [List.prefix_iff_eq_take]
      refine List.ext_getElem? fun i => ?_
      by_cases hi : i < loc.length
      · have hi' : i < M.length := by rw [← st.len]; exact hi
        obtain ⟨a, ha⟩ := look i (by omega)
        rw [List.getElem?_take, if_pos hi, renLoc_get (by omega) ha]
        rw [hid i hi'] at ha
        have := pre_get l (List.getElem?_eq_getElem hi)
        rw [ha] at this
        rw [List.getElem?_eq_getElem hi, this]
      · rw [List.getElem?_take, if_neg hi, List.getElem?_eq_none (by omega)]
    refine aft v H' (renLoc loc' r M'.length) (s'.ren hcl hr hinj) (Rd.unren look r' hcw) ex pre
  rcases hor with hb | ⟨hu, σ', hb⟩
  · exact ⟨loc, _, M, _, rel_start st rd, hb, fin⟩
  · exact ⟨loc, _, M, _, rel_start st rd, hb, fun σV' H' loc' r' ex l => fin .non H' loc' r'.st (by rw [hu]; exact .non) ex l⟩

/-! ### the law -/
/-- the law at a script of ints answers True -/
def lawF : Fn := fun ws M => match ws, M with
  | [.ref 0], [.ro us] => match asInts us with
    | some ns => if ns.length ≤ 63 then some (.bl true, M) else none
    | none => none
  | _, _ => none
/-- to show: at each script the body answers True -/
theorem keeps_law {n : Nat} {body : CS} (h : ∀ ns : List Int, ns.length ≤ 63 → ∃ g, body (some (.ref 0) :: List.replicate (n - 1) none) [.ro (ns.map W.int)] = some (.rt (.bl true) (.ro (ns.map W.int) :: g))) : Keeps n body lawF := by
  refine KeepsP.keeps ?_
  intro ws M w M' hc _ e
  unfold lawF at e
  split at e
  · rename_i us
    split at e
    · rename_i ns hns
      split at e
      · rename_i hl
        cases e
        rw [asInts_some hns]
        obtain ⟨g, hg⟩ := h ns hl
        refine ⟨g, .inl hg, Nat.le_refl _, ?_, by simp [W.closed]⟩
        rw [← asInts_some hns]
        exact hc
      · cases e
    · cases e
  · cases e
def spLaw (K : PySem.W.Frag) : Sp := fun vs H Q _ => ∃ (a : Addr) (ns : List Int), vs = [V.ref a] ∧ Only H ∧ SqL K H a (ns.map V.int) ∧ ns.length ≤ 63 ∧ ∀ H', Q (.bl true) H'
theorem rds_ints {K : KW} {H : Hp} {loc : List Addr} (ns : List Int) : Rds K H loc (ns.map V.int) (ns.map W.int) := by
  induction ns with
  | nil => exact .nil
  | cons n ns ih => exact .cons (.int n) ih
theorem law_ok {f : Addr} {fd : FuncData} {ps : List Str} {k : Nat} (h1 : ps.length = 1) (F : FnOk P w K mg base CX0 k f fd ps (spF ⟨K, w, tabOf mg⟩ ps.length lawF)) : FnOk P w K mg base CX0 k f fd ps (spLaw K) := by
  refine F.imp fun vs H Q E h => ?_
  obtain ⟨a, ns, rfl, ho, sq, hl, q⟩ := h
  have ro : RO ⟨K, w, tabOf mg⟩ H a (ns.map V.int) := by
    rcases sq with (sq | sq) | sq
    · rcases ho a with h | ⟨o, xs, h⟩
      · rw [sq] at h; cases h
      · rw [sq] at h; cases h
    · exact .inl sq
    · exact .inr sq
  refine ⟨h1.symm, [a], [.ro (ns.map W.int)], [.ref 0], .bl true, [.ro (ns.map W.int)], ⟨rfl, fun i b mo h1 h2 => ?_, fun i j b m n _ _ h3 _ h5 _ => ?_⟩, .cons (.ref rfl) .nil, ?_, fun v H' loc' s' r' ex l => ?_⟩
  · match i, h1, h2 with
    | 0, h1, h2 =>
      cases h1; cases h2
      exact ⟨_, ro, rds_ints ns⟩
    | i + 1, h1, h2 => simp at h2
  · match i, h3 with
    | 0, h3 => cases h3; cases h5
    | i + 1, h3 => simp at h3
  · show lawF [.ref 0] [.ro (ns.map W.int)] = _
    unfold lawF
    simp only [asInts_map, if_pos hl]
  · cases r'
    exact q H'
end
end BF

set_option Elab.async false
set_option linter.all false
set_option autoImplicit false
set_option maxRecDepth 100000
/-! isinstance of a built-in class, or of a tuple of such. -/
namespace BF
open PySem PySem.Spec
open PyProof.Rows L2

section
variable {K : KW} {X : Cx} {e : Expr} {ca : CE} {p pos : Pos}
theorem tyX_of {H : Hp} {loc : List Addr} {M : Mem} {v : V} {w : W} {T : String} (s : Store K H loc M) (r : Rd K H loc v w) (h : tyW M w = some T) : TyX K H v (.type T) := by
  cases r with
  | non => cases h; exact .base .non
  | bl b => cases h; exact .base (.bl b)
  | int i => cases h; exact .base (.int i)
  | str x _ _ => cases h; exact .base (.str x)
  | @tup a xs ws sq rs =>
    cases h
    rcases sq with (sq | ⟨o, sq⟩) | ⟨o, its, n, hk, hc, _⟩
    · exact .base (.tup sq)
    · exact .fTuple sq
    · exact .kTuple hk hc
  | @ref a n hn =>
    simp only [tyW] at h
    split at h
    · rename_i ws hw
      cases h
      obtain ⟨xs, q1, _⟩ := s.ok _ _ _ hn hw
      exact .base (.lst q1)
    · rename_i ws hw
      cases h
      obtain ⟨xs, q1, _⟩ := s.ok _ _ _ hn hw
      rcases q1 with ⟨o, q1⟩ | ⟨o, its, n, hk, hc, _⟩
      · exact .base (.frz q1)
      · exact .kList hk hc
    · cases h
theorem kit_one {M : Mem} {w : W} {T : String} {C : String} (h : tyW M w = some T) (hC : C = "bool" ∨ C = "int" ∨ C = "str" ∨ C = "list" ∨ C = "tuple") : kitB T C = some (isTy C T) := by
  have hT : T = "NoneType" ∨ T = "bool" ∨ T = "int" ∨ T = "str" ∨ T = "tuple" ∨ T = "list" := by
    unfold tyW at h
    split at h
    · cases h; simp
    · cases h; simp
    · cases h; simp
    · cases h; simp
    · cases h; simp
    · split at h
      · cases h; simp
      · cases h; simp
      · cases h
  rcases hT with rfl | rfl | rfl | rfl | rfl | rfl <;> rcases hC with rfl | rfl | rfl | rfl | rfl <;> decide +kernel
/-- a built-in class as a value -/
theorem ty_val {x : Str} {T : String} {pos : Pos} (hg : Gl X x) (hm : X.mg x = none) (hv : bootBuiltins x = some (.type T)) (hn : x ≠ "__name__" := by decide) (hd : (x == ("__debug__" : Str)) = false := by decide) : PE X (.Name x pos) (tC (.ty T)) :=
  pe_bltn hg hm hv rfl hn hd
theorem r_isi (C : String) {x : Str} {p2 : Pos} (hC : C = "bool" ∨ C = "int" ∨ C = "str" ∨ C = "list" ∨ C = "tuple") (hg : Gl X "isinstance") (hm : X.mg "isinstance" = none) (hgC : Gl X x) (hmC : X.mg x = none) (hvC : bootBuiltins x = some (.type C)) (ha : EV X e ca) (hv : bootBuiltins "isinstance" = some (.builtin "isinstance") := by decide +kernel)
    (hn : x ≠ "__name__" := by decide) (hd : (x == ("__debug__" : Str)) = false := by decide)
    (he : starEach [e, .Name x p2] X.env = (false, eval e X.env) :: starEach [.Name x p2] X.env := by rfl) (hpl : (backTo pos (starEach [.Name x p2] X.env)).any (·.1) = false := by rfl) :
    EV X (.Call (.Name "isinstance" p) [e, .Name x p2] [] pos) (e1 (gIsi C) ca) :=
  (pe_callB call_isi hg hm hv (pa_cons ha (pa_cons (ty_val hgC hmC hvC hn hd) pa_nil) he) (by decide) (by decide) he hpl).mono fun σV H Q ⟨loc, σ, M, w, M', rel, e, aft⟩ => by
    obtain ⟨q, hq, e⟩ := bind_some e
    refine run1 rel hq fun v H1 loc1 rel1 rd1 ex1 l1 => ?_
    unfold gIsi at e
    obtain ⟨T, hT, e⟩ := Option.map_eq_some_iff.mp e
    cases e
    exact ⟨v, .ty C, .type T, .type C, _, rfl, .ty C, tyX_of rel1.st rd1 hT, kit_ty (kit_one hT hC), aft _ H1 loc1 rel1.st (.bl _) ex1 l1⟩
/-- isinstance(e, (C, D)) -/
theorem r_isi2 (C D : String) {x y : Str} {p2 p3 pt : Pos} {kt} (hC : C = "bool" ∨ C = "int" ∨ C = "str" ∨ C = "list" ∨ C = "tuple") (hD : D = "bool" ∨ D = "int" ∨ D = "str" ∨ D = "list" ∨ D = "tuple") (hg : Gl X "isinstance") (hm : X.mg "isinstance" = none)
    (hgC : Gl X x) (hmC : X.mg x = none) (hvC : bootBuiltins x = some (.type C)) (hgD : Gl X y) (hmD : X.mg y = none) (hvD : bootBuiltins y = some (.type D)) (ha : EV X e ca) (hv : bootBuiltins "isinstance" = some (.builtin "isinstance") := by decide +kernel)
    (hn : x ≠ "__name__" := by decide) (hd : (x == ("__debug__" : Str)) = false := by decide) (hn2 : y ≠ "__name__" := by decide) (hd2 : (y == ("__debug__" : Str)) = false := by decide)
    (hs : starEach [.Name x p2, .Name y p3] X.env = (false, eval (.Name x p2) X.env) :: starEach [.Name y p3] X.env := by rfl)
    (he : starEach [e, .Tuple [.Name x p2, .Name y p3] kt pt] X.env = (false, eval e X.env) :: starEach [.Tuple [.Name x p2, .Name y p3] kt pt] X.env := by rfl) (hpl : (backTo pos (starEach [.Tuple [.Name x p2, .Name y p3] kt pt] X.env)).any (·.1) = false := by rfl) :
    EV X (.Call (.Name "isinstance" p) [e, .Tuple [.Name x p2, .Name y p3] kt pt] [] pos) (e1 (gIsi2 C D) ca) :=
  (pe_callB call_isiT hg hm hv (pa_cons ha (pa_cons (pe_tup (pa_cons (ty_val hgC hmC hvC hn hd) (pa_cons (ty_val hgD hmD hvD hn2 hd2) pa_nil) hs)) pa_nil) he) (by decide) (by decide) he hpl).mono fun σV H Q ⟨loc, σ, M, w, M', rel, e, aft⟩ => by
    obtain ⟨q, hq, e⟩ := bind_some e
    refine run1 rel hq fun v H1 loc1 rel1 rd1 ex1 l1 => ?_
    refine ⟨by show 2 ≤ sizeLine; decide, fun t ht => ?_⟩
    unfold gIsi2 at e
    obtain ⟨T, hT, e⟩ := Option.map_eq_some_iff.mp e
    cases e
    have s2 : Store X.KW (upd H1 t (.tup [.ty C, .ty D])) loc1 q.2 := rel1.st.newT ht
    have ex2 : Ext X.KW H1 (upd H1 t (.tup [.ty C, .ty D])) := .new ht
    refine ⟨v, t, [.ty C, .ty D], .type T, [.type C, .type D], isTy C T || isTy D T, rfl, upd_same, .cons (.ty C) (.cons (.ty D) .nil), tyX_of s2 (rd1.mono ex2 (List.prefix_refl _)) hT, ?_, aft _ _ loc1 s2 (.bl _) (ex1.trans ex2) l1⟩
    exact kitAny_cons (kit_ty (kit_one hT hC)) (fun z => by
      rw [z, Bool.false_or]
      exact kitAny_cons (kit_ty (kit_one hT hD)) (fun z' => by rw [z']; exact kitAny_nil) fun z' => z') fun z => by rw [z]; rfl
end
end BF

set_option Elab.async false
set_option linter.all false
set_option autoImplicit false
set_option maxRecDepth 10000
/-! Plain facts: how the terms compute; texts; equality; encodings. -/
namespace BF
open PySem

theorem nr {α : Type} {a b : α} (h : a = b) : a = b := h
section
variable {σ : Sl} {M : Mem}
@[simp] theorem eV_eq (i : Nat) : eV i σ M = match σ.getD i none with
  | some w => some (w, M)
  | none => none := nr rfl
@[simp] theorem eL_eq (w : W) : eL w σ M = some (w, M) := nr rfl
@[simp] theorem e1_eq (f) (a : CE) : e1 f a σ M = (a σ M).bind fun p => f p.2 p.1 := nr rfl
@[simp] theorem e2_eq (f) (a b : CE) : e2 f a b σ M = (a σ M).bind fun p => (b σ p.2).bind fun q => f q.2 p.1 q.1 := nr rfl
@[simp] theorem eArgs_nil : eArgs [] σ M = some ([], M) := nr rfl
@[simp] theorem eArgs_cons (a : CE) (as : List CE) : eArgs (a :: as) σ M = (a σ M).bind fun p => (eArgs as σ p.2).bind fun q => some (p.1 :: q.1, q.2) := nr rfl
@[simp] theorem eN_eq (f : Fn) (as : List CE) : eN f as σ M = (eArgs as σ M).bind fun p => f p.1 p.2 := nr rfl
@[simp] theorem eTup_eq (as : List CE) : eTup as σ M = (eArgs as σ M).bind fun p => if p.1.length ≤ 16777216 then some (.tup p.1, p.2) else none := nr rfl
@[simp] theorem eLst_eq (as : List CE) : eLst as σ M = (eArgs as σ M).bind fun p => if p.1.length ≤ 16777216 then some (.ref p.2.length, p.2 ++ [.lst p.1]) else none := nr rfl
@[simp] theorem eIf_eq (t : CT) (a b : CE) : eIf t a b σ M = (t σ M).bind fun p => if p.1 = true then a σ p.2 else b σ p.2 := nr rfl
@[simp] theorem eAnd_eq (a b : CE) : eAnd a b σ M = (a σ M).bind fun p => match p.1 with
  | .bl true => b σ p.2
  | .bl false => some (.bl false, p.2)
  | _ => none := nr rfl
@[simp] theorem eOr_eq (a b : CE) : eOr a b σ M = (a σ M).bind fun p => match p.1 with
  | .bl true => some (.bl true, p.2)
  | .bl false => b σ p.2
  | _ => none := nr rfl
@[simp] theorem eNot_eq (a : CE) : eNot a σ M = (a σ M).bind fun p => match p.1 with
  | .bl c => some (.bl (!c), p.2)
  | _ => none := nr rfl
@[simp] theorem eChain_eq (f g) (a b c : CE) : eChain f g a b c σ M = (a σ M).bind fun p => (b σ p.2).bind fun q => (f q.2 p.1 q.1).bind fun r => match r.1 with
    | .bl true => (c σ r.2).bind fun t => g t.2 q.1 t.1
    | .bl false => some (.bl false, r.2)
    | _ => none := nr rfl
@[simp] theorem tB_eq (e : CE) : tB e σ M = (e σ M).bind fun p => match p.1 with
  | .bl c => some (c, p.2)
  | _ => none := nr rfl
@[simp] theorem tAnd_eq (a b : CT) : tAnd a b σ M = (a σ M).bind fun p => if p.1 = true then b σ p.2 else some (false, p.2) := nr rfl
@[simp] theorem tOr_eq (a b : CT) : tOr a b σ M = (a σ M).bind fun p => if p.1 = true then some (true, p.2) else b σ p.2 := nr rfl
@[simp] theorem tNot_eq (a : CT) : tNot a σ M = (a σ M).bind fun p => some (!p.1, p.2) := nr rfl
@[simp] theorem tTrue_eq : tTrue σ M = some (true, M) := nr rfl
@[simp] theorem gV_eq (i : Nat) (w : W) : gV i w σ = some (σ.set i (some w)) := nr rfl
@[simp] theorem gAll_nil : gAll [] [] σ = some σ := nr rfl
@[simp] theorem gAll_cons (g : CG) (gs : List CG) (w : W) (ws : List W) : gAll (g :: gs) (w :: ws) σ = (g w σ).bind fun σ1 => gAll gs ws σ1 := nr rfl
@[simp] theorem gT_eq (gs : List CG) (ws : List W) : gT gs (.tup ws) σ = gAll gs ws σ := nr rfl
@[simp] theorem sSet_eq (g : CG) (e : CE) : sSet g e σ M = (e σ M).bind fun p => (g p.1 σ).bind fun σ1 => some (.nx σ1 p.2) := nr rfl
@[simp] theorem sPar_eq (is : List Nat) (as : List CE) : sPar is as σ M = (eArgs as σ M).bind fun p =>
  if p.1.length = is.length then some (.nx ((is.zip p.1).foldl (fun σ q => σ.set q.1 (some q.2)) σ) p.2) else none := nr rfl
@[simp] theorem sAug_eq (i : Nat) (f) (e : CE) : sAug i f e σ M = match σ.getD i none with
  | some w => (e σ M).bind fun p => (f p.2 w p.1).bind fun q => some (.nx (σ.set i (some q.1)) q.2)
  | none => none := nr rfl
@[simp] theorem sPut_eq (f) (o k e : CE) : sPut f o k e σ M = (e σ M).bind fun p => (o σ p.2).bind fun q => (k σ q.2).bind fun r => (f r.2 q.1 r.1 p.1).bind fun M' => some (.nx σ M') := nr rfl
@[simp] theorem sExpr_eq (e : CE) : sExpr e σ M = (e σ M).bind fun p => some (.nx σ p.2) := nr rfl
@[simp] theorem sRet_eq (e : CE) : sRet e σ M = (e σ M).bind fun p => some (.rt p.1 p.2) := nr rfl
@[simp] theorem sNil_eq : sNil σ M = some (.nx σ M) := nr rfl
@[simp] theorem sBreak_eq : sBreak σ M = some (.bk σ M) := nr rfl
@[simp] theorem sSeq_eq (a b : CS) : sSeq a b σ M = (a σ M).bind fun o => match o with
  | .nx σ' M' => b σ' M'
  | .rt w M' => some (.rt w M')
  | .bk σ' M' => some (.bk σ' M')
  | .ct σ' M' => some (.ct σ' M') := nr rfl
@[simp] theorem sIf_eq (t : CT) (a b : CS) : sIf t a b σ M = (t σ M).bind fun p => if p.1 = true then a σ p.2 else b σ p.2 := nr rfl
@[simp] theorem sFor_eq (it : CI) (g : CG) (body : CS) : sFor it g body σ M = (it σ M).bind fun p => forL p.2.1 g body p.1 σ p.2.2 := nr rfl
@[simp] theorem eLc_eq (it : CI) (g : CG) (t : CT) (e : CE) (vs : List Nat) : eLc it g t e vs σ M = (it σ M).bind fun p =>
  (lcL p.2.1 g t e vs σ p.2.2.length p.1 (p.2.2 ++ [.lst []])).bind fun M' => some (.ref p.2.2.length, M') := nr rfl
@[simp] theorem iTup_eq (e : CE) : iTup e σ M = (e σ M).bind fun p => match p.1 with
  | .tup ws => some (ws, gdT, p.2)
  | _ => none := nr rfl
@[simp] theorem iLst_eq (e : CE) : iLst e σ M = (e σ M).bind fun p => match p.1 with
  | .ref n => match p.2[n]? with
    | some (.lst ws) => some (ws, fun M' => decide (M'[n]? = some (.lst ws)), p.2)
    | some (.ro ws) => some (ws, fun M' => decide (M'[n]? = some (.ro ws)), p.2)
    | _ => none
  | _ => none := nr rfl
@[simp] theorem iRange1_eq (e : CE) : iRange1 e σ M = (e σ M).bind fun p => match p.1 with
  | .int j => if small62 j = true then some (rangeW 0 j.toNat, gdT, p.2) else none
  | _ => none := nr rfl
@[simp] theorem iRange2_eq (a b : CE) : iRange2 a b σ M = (a σ M).bind fun p => (b σ p.2).bind fun q => match p.1, q.1 with
  | .int i, .int j => if small62 i = true ∧ small62 j = true then some (rangeW i (j - i).toNat, gdT, q.2) else none
  | _, _ => none := nr rfl
@[simp] theorem iEnumT_eq (e : CE) : iEnumT e σ M = (e σ M).bind fun p => match p.1 with
  | .tup ws => some (enumW ws, gdT, p.2)
  | _ => none := nr rfl
@[simp] theorem iEnumL_eq (e : CE) : iEnumL e σ M = (e σ M).bind fun p => match p.1 with
  | .ref n => match p.2[n]? with
    | some (.lst ws) => some (enumW ws, fun M' => decide (M'[n]? = some (.lst ws)), p.2)
    | _ => none
  | _ => none := nr rfl
@[simp] theorem iZipT_eq (a b : CE) : iZipT a b σ M = (a σ M).bind fun p => (b σ p.2).bind fun q => match p.1, q.1 with
  | .tup xs, .tup ys => some (zipW xs ys, gdT, q.2)
  | _, _ => none := nr rfl
@[simp] theorem gdT_eq : gdT M = true := nr rfl
@[simp] theorem eML_eq (f : Fn) (o : CE) (as : List CE) : eML f o as σ M = (o σ M).bind fun p => if isLst p.2 p.1 = true then (eArgs as σ p.2).bind fun q => f (p.1 :: q.1) q.2 else none := nr rfl
@[simp] theorem ePart_none : ePart none σ M = some (none, M) := nr rfl
@[simp] theorem ePart_some (c : CE) : ePart (some c) σ M = (c σ M).bind fun p => match p.1 with
    | .int i => some (some i, p.2)
    | _ => none := nr rfl
@[simp] theorem eSl_eq (e : CE) (lo hi : Option CE) : eSl e lo hi σ M = (e σ M).bind fun p => (ePart lo σ p.2).bind fun q => (ePart hi σ q.2).bind fun r => gSl r.2 p.1 q.1 r.1 := nr rfl

@[simp] theorem gAdd_int (i j : Int) : gAdd M (.int i) (.int j) = some (.int (i + j), M) := nr rfl
@[simp] theorem gAdd_tup (a b : List W) : gAdd M (.tup a) (.tup b) = if a.length + b.length ≤ 16777216 then some (.tup (a ++ b), M) else none := nr rfl
@[simp] theorem gAdd_str (a b : Str) : gAdd M (.str a) (.str b) = if a.length + b.length ≤ 16777216 then some (.str (a ++ b), M) else none := nr rfl
@[simp] theorem gAdd_ref (a b : Nat) : gAdd M (.ref a) (.ref b) = match M[a]?, M[b]? with
    | some (.lst xs), some (.lst ys) => if xs.length + ys.length ≤ 16777216 then some (.ref M.length, M ++ [.lst (xs ++ ys)]) else none
    | _, _ => none := nr rfl
@[simp] theorem gSub_int (i j : Int) : gSub M (.int i) (.int j) = some (.int (i - j), M) := nr rfl
@[simp] theorem gMul_int (i j : Int) : gMul M (.int i) (.int j) = if small64 i = true ∨ small64 j = true then some (.int (i * j), M) else none := nr rfl
@[simp] theorem gRep_tup (a : List W) (k : Int) : gRep M (.tup a) (.int k) = if a.length ≤ 1000 ∧ k ≤ 1000 then some (.tup (List.replicate k.toNat a).flatten, M) else none := nr rfl
@[simp] theorem gMod_int (i j : Int) : gMod M (.int i) (.int j) = if 0 < j then some (.int (i % j), M) else none := nr rfl
@[simp] theorem gDiv_int (i j : Int) : gDiv M (.int i) (.int j) = if 0 < j ∧ small64 j = true then some (.int (i / j), M) else none := nr rfl
@[simp] theorem gPow_int (i j : Int) : gPow M (.int i) (.int j) = if 0 ≤ j ∧ j ≤ 1000 ∧ small62 i = true then some (.int (i ^ j.toNat), M) else none := nr rfl
@[simp] theorem gNeg_int (i : Int) : gNeg M (.int i) = some (.int (-i), M) := nr rfl
@[simp] theorem gLt_int (i j : Int) : gLt M (.int i) (.int j) = some (.bl (decide (i < j)), M) := nr rfl
@[simp] theorem gLe_int (i j : Int) : gLe M (.int i) (.int j) = some (.bl (decide (i ≤ j)), M) := nr rfl
@[simp] theorem gGt_int (i j : Int) : gGt M (.int i) (.int j) = some (.bl (decide (j < i)), M) := nr rfl
@[simp] theorem gGe_int (i j : Int) : gGe M (.int i) (.int j) = some (.bl (decide (j ≤ i)), M) := nr rfl
@[simp] theorem gEq_eq (x y : W) : gEq M x y = (eqW M x y).map fun b => (.bl b, M) := nr rfl
@[simp] theorem gNe_eq (x y : W) : gNe M x y = (eqW M x y).map fun b => (.bl (!b), M) := nr rfl
@[simp] theorem gIsN_eq (x : W) : gIsN M x = some (.bl (isN x), M) := nr rfl
@[simp] theorem gNotN_eq (x : W) : gNotN M x = some (.bl (!isN x), M) := nr rfl
@[simp] theorem isN_non : isN .non = true := nr rfl
@[simp] theorem isN_bl (b) : isN (.bl b) = false := nr rfl
@[simp] theorem isN_int (i) : isN (.int i) = false := nr rfl
@[simp] theorem isN_str (i) : isN (.str i) = false := nr rfl
@[simp] theorem isN_tup (i) : isN (.tup i) = false := nr rfl
@[simp] theorem isN_ref (i) : isN (.ref i) = false := nr rfl
@[simp] theorem gIx_tup (a : List W) (i : Int) : gIx M (.tup a) (.int i) = ((ixW a.length i).bind fun j => a[j]?).map fun w => (w, M) := nr rfl
@[simp] theorem gIx_ref (n : Nat) (i : Int) : gIx M (.ref n) (.int i) = match M[n]? with
    | some (.lst a) => ((ixW a.length i).bind fun j => a[j]?).map fun w => (w, M)
    | some (.ro a) => ((ixW a.length i).bind fun j => a[j]?).map fun w => (w, M)
    | _ => none := nr rfl
@[simp] theorem gSl_tup (a : List W) (lo hi : Option Int) : gSl M (.tup a) lo hi = some (.tup (cutW a lo hi), M) := nr rfl
@[simp] theorem gSl_ref (n : Nat) (lo hi : Option Int) : gSl M (.ref n) lo hi = match M[n]? with
    | some (.lst a) => some (.ref M.length, M ++ [.lst (cutW a lo hi)])
    | _ => none := nr rfl
@[simp] theorem pLen_tup (a : List W) : pLen [.tup a] M = some (.int a.length, M) := nr rfl
@[simp] theorem pLen_ref (n : Nat) : pLen [.ref n] M = match M[n]? with
    | some (.lst a) => some (.int a.length, M)
    | some (.ro a) => some (.int a.length, M)
    | _ => none := nr rfl
@[simp] theorem pMin_eq (i j : Int) : pMin [.int i, .int j] M = some (.int (if j < i then j else i), M) := nr rfl
@[simp] theorem pMax_eq (i j : Int) : pMax [.int i, .int j] M = some (.int (if j > i then j else i), M) := nr rfl
@[simp] theorem pAbs_eq (i : Int) : pAbs [.int i] M = some (.int (if i < 0 then -i else i), M) := nr rfl
@[simp] theorem pList_tup (a : List W) : pList [.tup a] M = some (.ref M.length, M ++ [.lst a]) := nr rfl
@[simp] theorem pList_ref (n : Nat) : pList [.ref n] M = match M[n]? with
    | some (.lst a) => some (.ref M.length, M ++ [.lst a])
    | some (.ro a) => some (.ref M.length, M ++ [.lst a])
    | _ => none := nr rfl
@[simp] theorem pTuple_tup (a : List W) : pTuple [.tup a] M = some (.tup a, M) := nr rfl
@[simp] theorem pTuple_ref (n : Nat) : pTuple [.ref n] M = match M[n]? with
    | some (.lst a) => some (.tup a, M)
    | some (.ro a) => some (.tup a, M)
    | _ => none := nr rfl
@[simp] theorem isLst_ref (n : Nat) : isLst M (.ref n) = match M[n]? with
    | some (.lst _) => true
    | _ => false := nr rfl
@[simp] theorem mAppend_ref (n : Nat) (w : W) : mAppend [.ref n, w] M = match M[n]? with
    | some (.lst a) => if a.length < 16777216 then some (.non, M.set n (.lst (a ++ [w]))) else none
    | _ => none := nr rfl
@[simp] theorem mPop_ref (n : Nat) : mPop [.ref n] M = match M[n]? with
    | some (.lst a) => a[a.length - 1]?.map fun w => (w, M.set n (.lst a.dropLast))
    | _ => none := nr rfl
@[simp] theorem mPopAt_ref (n : Nat) (i : Int) : mPopAt [.ref n, .int i] M = match M[n]? with
    | some (.lst a) => if small62 i = true then (ixW a.length i).bind fun j => a[j]?.map fun w => (w, M.set n (.lst (a.eraseIdx j))) else none
    | _ => none := nr rfl
@[simp] theorem putL_ref (n : Nat) (i : Int) (w : W) : putL M (.ref n) (.int i) w = match M[n]? with
    | some (.lst a) => (ixW a.length i).map fun j => M.set n (.lst (a.set j w))
    | _ => none := nr rfl
end


theorem ite_le {α : Type} {n m : Nat} {a b : α} (h : n ≤ m) : (if n ≤ m then a else b) = a := if_pos h
theorem ite_lt {α : Type} {n m : Nat} {a b : α} (h : n < m) : (if n < m then a else b) = a := if_pos h

/-! ### texts -/
theorem ofString_cps (a : String) : (Str.ofString a).cps.toList = a.toList.map Char.toNat := by
  show ((cpsOfBytes 0 0 a.toByteArray.data.toList).toArray).toList = _
  rw [cpsOfBytes_string]
theorem ofString_inj {a b : String} (h : Str.ofString a = Str.ofString b) : a = b := by
  have e : a.toList.map Char.toNat = b.toList.map Char.toNat := by rw [← ofString_cps, ← ofString_cps, h]
  have inj : ∀ (l m : List Char), l.map Char.toNat = m.map Char.toNat → l = m := by
    intro l
    induction l with
    | nil => intro m h; cases m with
      | nil => rfl
      | cons _ _ => cases h
    | cons c l ih =>
      intro m h
      cases m with
      | nil => cases h
      | cons d m =>
        rw [List.map_cons, List.map_cons] at h
        injection h with h1 h2
        rw [ih m h2, Char.toNat_inj.mp h1]
  exact String.toList_inj.mp (inj _ _ e)
@[simp] theorem ofString_eq (a b : String) : (Str.ofString a = Str.ofString b) ↔ a = b := ⟨ofString_inj, fun h => h ▸ rfl⟩

/-! ### equality of list-free values -/
mutual
def eqP : W → W → Bool
  | .non, .non => true
  | .bl a, .bl b => a == b
  | .bl a, .int j => (if a then 1 else 0) == j
  | .int i, .bl b => i == (if b then 1 else 0)
  | .int i, .int j => i == j
  | .str x, .str y => x == y
  | .tup xs, .tup ys => eqPs xs ys
  | .ref _, _ | .tup _, .non | .tup _, .bl _ | .tup _, .int _ | .tup _, .str _ | .tup _, .ref _ => false
  | .non, .bl _ | .non, .int _ | .non, .str _ | .non, .tup _ | .non, .ref _ => false
  | .bl _, .non | .bl _, .str _ | .bl _, .tup _ | .bl _, .ref _ => false
  | .int _, .non | .int _, .str _ | .int _, .tup _ | .int _, .ref _ => false
  | .str _, .non | .str _, .bl _ | .str _, .int _ | .str _, .tup _ | .str _, .ref _ => false
def eqPs : List W → List W → Bool
  | [], [] => true
  | x :: xs, y :: ys => eqP x y && eqPs xs ys
  | [], _ :: _ => false
  | _ :: _, [] => false
end
/-- list-free and at most so deep -/
def okW : Nat → W → Bool
  | 0, _ => false
  | _ + 1, .ref _ => false
  | k + 1, .tup ws => ws.all (okW k)
  | _ + 1, .non | _ + 1, .bl _ | _ + 1, .int _ | _ + 1, .str _ => true
mutual
def dP : W → PyData
  | .non => .none
  | .bl b => .bool b
  | .int i => .int i
  | .str x => .str x
  | .tup ws => .tuple (dPs ws)
  | .ref _ => .none
def dPs : List W → List PyData
  | [] => []
  | w :: ws => dP w :: dPs ws
end
theorem toD_P (M : Mem) : ∀ (k : Nat) (w : W), okW k w = true → toD M k w = some (dP w)
  | 0, _, h => by cases h
  | k + 1, w, h => by
    cases w with
    | tup ws =>
      rw [okW] at h
      rw [toD, dP]
      have : mapO (toD M k) ws = some (dPs ws) := by
        induction ws with
        | nil => rfl
        | cons w ws ih =>
          rw [List.all_cons, Bool.and_eq_true] at h
          rw [mapO, toD_P M k w h.1, ih h.2, dPs]
      rw [this]; rfl
    | ref n => rw [okW] at h; cases h
    | non => rw [toD, dP]
    | bl b => rw [toD, dP]
    | int i => rw [toD, dP]
    | str x => rw [toD, dP]
theorem eqv_P : ∀ (k : Nat) (x y : W), okW k x = true → okW k y = true → PyData.eqv (dP x) (dP y) = eqP x y
  | 0, _, _, h, _ => by cases h
  | k + 1, x, y, hx, hy => by
    have all : ∀ (xs ys : List W), xs.all (okW k) = true → ys.all (okW k) = true → PyData.eqvAll (dPs xs) (dPs ys) = eqPs xs ys := by
      intro xs
      induction xs with
      | nil => intro ys _ _; cases ys <;> simp [dPs, PyData.eqvAll, eqPs]
      | cons x xs ih =>
        intro ys h1 h2
        cases ys with
        | nil => simp [dPs, PyData.eqvAll, eqPs]
        | cons y ys =>
          rw [List.all_cons, Bool.and_eq_true] at h1 h2
          rw [dPs, dPs, PyData.eqvAll, eqPs, eqv_P k x y h1.1 h2.1, ih ys h1.2 h2.2]
    cases x with
    | ref _ => rw [okW] at hx; cases hx
    | tup xs =>
      cases y with
      | tup ys => rw [okW] at hx hy; simp only [dP, PyData.eqv, eqP]; exact all xs ys hx hy
      | ref _ => rw [okW] at hy; cases hy
      | _ => simp [dP, PyData.eqv, eqP]
    | _ => cases y with
      | ref _ => rw [okW] at hy; cases hy
      | _ => simp [dP, PyData.eqv, eqP]
theorem eqW_P (M : Mem) {x y : W} (hx : okW 64 x = true) (hy : okW 64 y = true) : eqW M x y = some (eqP x y) := by
  unfold eqW
  rw [toD_P M 64 x hx, toD_P M 64 y hy]
  show some _ = some _
  rw [eqv_P 64 x y hx hy]
theorem okW_mono : ∀ (k : Nat) (w : W), okW k w = true → ∀ j, k ≤ j → okW j w = true
  | 0, _, h, _, _ => by cases h
  | k + 1, w, h, j, hj => by
    cases j with
    | zero => omega
    | succ j =>
      cases w with
      | tup ws =>
        rw [okW] at h ⊢
        rw [List.all_eq_true] at h ⊢
        exact fun w hw => okW_mono k w (h w hw) j (by omega)
      | ref _ => rw [okW] at h; cases h
      | _ => rfl

/-! ### encodings -/
class Enc (α : Type) where
  enc : α → W
  dec : W → Option α
  dec_enc : ∀ a, dec (enc a) = some a
  enc_dec : ∀ w a, dec w = some a → w = enc a
  dep : Nat
  ok : ∀ a, okW dep (enc a) = true
  eqE : ∀ a b : α, eqP (enc a) (enc b) = true ↔ a = b
end BF

set_option Elab.async false
set_option linter.all false
set_option autoImplicit false
set_option maxRecDepth 10000
/-! Encodings of our own types, and promises of pure defs. -/
namespace BF
open PySem Enc

theorem Enc.inj {α : Type} [Enc α] {a b : α} (h : (enc a : W) = enc b) : a = b := by
  have := dec_enc a
  rw [h, dec_enc b] at this
  exact (Option.some.inj this).symm
instance : Enc Int where
  enc i := .int i
  dec w := match w with
    | .int i => some i
    | _ => none
  dec_enc _ := rfl
  enc_dec w a h := by
    split at h
    · cases h; rfl
    · cases h
  dep := 1
  ok _ := rfl
  eqE a b := by simp [eqP]
instance : Enc Nat where
  enc i := .int (i : Int)
  dec w := match w with
    | .int i => if 0 ≤ i then some i.toNat else none
    | _ => none
  dec_enc a := by simp
  enc_dec w a h := by
    split at h
    · split at h
      · cases h; congr 1; omega
      · cases h
    · cases h
  dep := 1
  ok _ := rfl
  eqE a b := by simp [eqP]; omega
instance : Enc Bool where
  enc i := .bl i
  dec w := match w with
    | .bl i => some i
    | _ => none
  dec_enc _ := rfl
  enc_dec w a h := by
    split at h
    · cases h; rfl
    · cases h
  dep := 1
  ok _ := rfl
  eqE a b := by simp [eqP]
instance : Enc Str where
  enc i := .str i
  dec w := match w with
    | .str i => some i
    | _ => none
  dec_enc _ := rfl
  enc_dec w a h := by
    split at h
    · cases h; rfl
    · cases h
  dep := 1
  ok _ := rfl
  eqE a b := by simp [eqP]
theorem mapO_map {α β γ : Type} {f : β → Option γ} {g : α → β} {h : α → γ} (e : ∀ a, f (g a) = some (h a)) : ∀ l : List α, mapO f (l.map g) = some (l.map h)
  | [] => rfl
  | a :: l => by rw [List.map_cons, mapO, e a, mapO_map e l]; rfl
theorem mapO_enc {α : Type} [Enc α] : ∀ {ws : List W} {as : List α}, mapO dec ws = some as → ws = as.map enc
  | [], as, h => by cases h; rfl
  | w :: ws, as, h => by
    rw [mapO] at h
    split at h
    · rename_i b bs h1 h2
      cases h
      rw [List.map_cons, ← enc_dec w b h1, ← mapO_enc h2]
    · cases h
theorem eqPs_map {α : Type} [Enc α] : ∀ as bs : List α, eqPs (as.map enc) (bs.map enc) = true ↔ as = bs
  | [], [] => by simp [eqPs]
  | [], _ :: _ => by simp [eqPs]
  | _ :: _, [] => by simp [eqPs]
  | a :: as, b :: bs => by
    rw [List.map_cons, List.map_cons, eqPs, Bool.and_eq_true, eqE, eqPs_map as bs]
    simp
instance {α : Type} [Enc α] : Enc (List α) where
  enc l := .tup (l.map enc)
  dec w := match w with
    | .tup ws => mapO dec ws
    | _ => none
  dec_enc l := by
    show mapO dec (l.map enc) = some l
    rw [mapO_map (h := id) fun a => dec_enc a, List.map_id]
  enc_dec w a h := by
    split at h
    · rw [mapO_enc h]
    · cases h
  dep := dep α + 1
  ok l := by
    rw [okW, List.all_eq_true]
    intro w hw
    obtain ⟨a, _, rfl⟩ := List.mem_map.mp hw
    exact ok a
  eqE a b := by
    rw [eqP]
    exact eqPs_map a b
instance {α β : Type} [Enc α] [Enc β] : Enc (α × β) where
  enc p := .tup [enc p.1, enc p.2]
  dec w := match w with
    | .tup [a, b] => match (dec a : Option α), (dec b : Option β) with
      | some x, some y => some (x, y)
      | _, _ => none
    | _ => none
  dec_enc p := by simp only [dec_enc]
  enc_dec w a h := by
    split at h
    · split at h
      · rename_i h1 h2
        cases h
        rw [enc_dec _ _ h1, enc_dec _ _ h2]
      · cases h
    · cases h
  dep := max (dep α) (dep β) + 1
  ok p := by
    rw [okW]
    simp [okW_mono _ _ (ok p.1) (max (dep α) (dep β)) (Nat.le_max_left _ _), okW_mono _ _ (ok p.2) (max (dep α) (dep β)) (Nat.le_max_right _ _)]
  eqE p q := by
    simp only [eqP, eqPs, Bool.and_true, Bool.and_eq_true, eqE]
    exact ⟨fun h => Prod.ext h.1 h.2, fun h => by rw [h]; exact ⟨rfl, rfl⟩⟩
/-- a history: the pages, the place -/
structure Hist where
  ps : List Str
  at_ : Nat
  deriving DecidableEq
instance : Enc Hist where
  enc h := .tup [.tup (h.ps.map W.str), .int h.at_]
  dec w := (dec w : Option (List Str × Nat)).map fun p => ⟨p.1, p.2⟩
  dec_enc h := by
    have : (dec (.tup [.tup (h.ps.map W.str), .int h.at_]) : Option (List Str × Nat)) = some (h.ps, h.at_) := dec_enc (h.ps, h.at_)
    rw [this]; rfl
  enc_dec w a h := by
    obtain ⟨p, h1, h2⟩ := Option.map_eq_some_iff.mp h
    rw [enc_dec w p h1, ← h2]; rfl
  dep := 3
  ok h := ok (h.ps, h.at_)
  eqE a b := by
    have := eqE (a.ps, a.at_) (b.ps, b.at_)
    refine this.trans ?_
    cases a; cases b
    simp
theorem enc_hist (h : Hist) : (enc h : W) = .tup [.tup (h.ps.map W.str), .int h.at_] := rfl
/-- an action; go is the menus' -/
inductive Act where
  | visit (p : Str)
  | back
  | forward
  | go (i : Nat)
  deriving DecidableEq
def Act.enc : Act → W
  | .visit p => .tup [.str "visit", .str p]
  | .back => .tup [.str "back"]
  | .forward => .tup [.str "forward"]
  | .go i => .tup [.str "go", .int i]
def Act.dec : W → Option Act
  | .tup [.str a, .str p] => if a = "visit" then some (.visit p) else none
  | .tup [.str a] => if a = "back" then some .back else if a = "forward" then some .forward else none
  | .tup [.str a, .int i] => if a = "go" ∧ 0 ≤ i then some (.go i.toNat) else none
  | _ => none
instance : Enc Act where
  enc := Act.enc
  dec := Act.dec
  dec_enc a := by cases a <;> simp [Act.enc, Act.dec]
  enc_dec w a h := by
    unfold Act.dec at h
    split at h
    · split at h
      · rename_i e; cases h; subst e; rfl
      · cases h
    · split at h
      · rename_i e; cases h; subst e; rfl
      · split at h
        · rename_i e; cases h; subst e; rfl
        · cases h
    · split at h
      · rename_i e; cases h; obtain ⟨e, e2⟩ := e; subst e; simp [Act.enc]; omega
      · cases h
    · cases h
  dep := 2
  ok a := by cases a <;> rfl
  eqE a b := by cases a <;> cases b <;> simp [Act.enc, eqP, eqPs]; omega
@[simp] theorem enc_visit (p : Str) : (enc (Act.visit p) : W) = .tup [.str "visit", .str p] := rfl
@[simp] theorem enc_back : (enc Act.back : W) = .tup [.str "back"] := rfl
@[simp] theorem enc_forward : (enc Act.forward : W) = .tup [.str "forward"] := rfl
@[simp] theorem enc_go (i : Nat) : (enc (Act.go i) : W) = .tup [.str "go", .int i] := rfl
/-- a sighting -/
structure Sight where
  p : Str
  b : Bool
  f : Bool
  deriving DecidableEq
instance : Enc Sight where
  enc s := .tup [.str s.p, .bl s.b, .bl s.f]
  dec w := match w with
    | .tup [.str p, .bl b, .bl f] => some ⟨p, b, f⟩
    | _ => none
  dec_enc _ := rfl
  enc_dec w a h := by
    split at h
    · cases h; rfl
    · cases h
  dep := 2
  ok _ := rfl
  eqE a b := by cases a; cases b; simp [eqP, eqPs]
theorem enc_sight (s : Sight) : (enc s : W) = .tup [.str s.p, .bl s.b, .bl s.f] := rfl
@[simp] theorem enc_nat (n : Nat) : (enc n : W) = .int n := rfl
@[simp] theorem enc_int (n : Int) : (enc n : W) = .int n := rfl
@[simp] theorem enc_bool (n : Bool) : (enc n : W) = .bl n := rfl
@[simp] theorem enc_str (n : Str) : (enc n : W) = .str n := rfl
theorem enc_list {α : Type} [Enc α] (l : List α) : (enc l : W) = .tup (l.map enc) := rfl
theorem enc_pair {α β : Type} [Enc α] [Enc β] (a : α) (b : β) : (enc (a, b) : W) = .tup [enc a, enc b] := rfl

/-- == of encoded values -/
theorem eqW_enc {α : Type} [Enc α] [DecidableEq α] (M : Mem) (a b : α) (h : dep α ≤ 64 := by decide) : eqW M (enc a) (enc b) = some (decide (a = b)) := by
  rw [eqW_P M (okW_mono _ _ (ok a) 64 h) (okW_mono _ _ (ok b) 64 h)]
  congr 1
  rw [Bool.eq_iff_iff, eqE, decide_eq_true_eq]
@[simp] theorem eqW_str (M : Mem) (a b : Str) : eqW M (.str a) (.str b) = some (decide (a = b)) := eqW_enc M a b
@[simp] theorem eqW_int (M : Mem) (a b : Int) : eqW M (.int a) (.int b) = some (decide (a = b)) := eqW_enc M a b
@[simp] theorem eqW_bl (M : Mem) (a b : Bool) : eqW M (.bl a) (.bl b) = some (decide (a = b)) := eqW_enc M a b

theorem okW_closed : ∀ (k : Nat) (w : W), okW k w = true → ∀ n, w.closed n = true
  | 0, _, h, _ => by cases h
  | k + 1, w, h, n => by
    cases w with
    | tup ws =>
      rw [okW] at h
      rw [W.closed]
      induction ws with
      | nil => rfl
      | cons w ws ih =>
        rw [List.all_cons, Bool.and_eq_true] at h
        rw [W.closeds, okW_closed k w h.1 n, ih h.2]; rfl
    | ref _ => rw [okW] at h; cases h
    | _ => rfl
theorem enc_closed {α : Type} [Enc α] (a : α) (n : Nat) : (enc a : W).closed n = true := okW_closed _ _ (ok a) n

/-- promises of pure defs -/
def fn1 {α β : Type} [Enc α] [Enc β] (f : α → Option β) : Fn := fun ws M => match ws with
  | [x] => match (dec x : Option α) with
    | some a => (f a).map fun b => (enc b, M)
    | none => none
  | _ => none
def fn2 {α β γ : Type} [Enc α] [Enc β] [Enc γ] (f : α → β → Option γ) : Fn := fun ws M => match ws with
  | [x, y] => match (dec x : Option α), (dec y : Option β) with
    | some a, some b => (f a b).map fun c => (enc c, M)
    | _, _ => none
  | _ => none
def fn3 {α β γ δ : Type} [Enc α] [Enc β] [Enc γ] [Enc δ] (f : α → β → γ → Option δ) : Fn := fun ws M => match ws with
  | [x, y, z] => match (dec x : Option α), (dec y : Option β), (dec z : Option γ) with
    | some a, some b, some c => (f a b c).map fun d => (enc d, M)
    | _, _, _ => none
  | _ => none
theorem fn1_eq {α β : Type} [Enc α] [Enc β] (f : α → Option β) (a : α) (M : Mem) : fn1 f [enc a] M = (f a).map fun b => (enc b, M) := by
  unfold fn1; simp only [dec_enc]
theorem fn2_eq {α β γ : Type} [Enc α] [Enc β] [Enc γ] (f : α → β → Option γ) (a : α) (b : β) (M : Mem) : fn2 f [enc a, enc b] M = (f a b).map fun c => (enc c, M) := by
  unfold fn2; simp only [dec_enc]
theorem fn3_eq {α β γ δ : Type} [Enc α] [Enc β] [Enc γ] [Enc δ] (f : α → β → γ → Option δ) (a : α) (b : β) (c : γ) (M : Mem) : fn3 f [enc a, enc b, enc c] M = (f a b c).map fun d => (enc d, M) := by
  unfold fn3; simp only [dec_enc]
theorem keeps1 {α β : Type} [Enc α] [Enc β] {f : α → Option β} {n : Nat} {body : CS} (h : ∀ a b M, f a = some b → ∃ g, body (some (enc a) :: List.replicate (n - 1) none) M = some (.rt (enc b) (M ++ g))) : Keeps n body (fn1 f) := by
  refine KeepsP.keeps ?_
  intro ws M w M' hc hw e
  unfold fn1 at e
  split at e
  · split at e
    · rename_i x _ a ha
      obtain ⟨b, hb, e⟩ := Option.map_eq_some_iff.mp e
      cases e
      obtain ⟨g, hg⟩ := h a b M hb
      rw [enc_dec _ _ ha]
      exact ⟨g, .inl hg, Nat.le_refl _, hc, enc_closed b _⟩
    · cases e
  · cases e
theorem keeps2 {α β γ : Type} [Enc α] [Enc β] [Enc γ] {f : α → β → Option γ} {n : Nat} {body : CS}
    (h : ∀ a b c M, f a b = some c → ∃ g, body (some (enc a) :: some (enc b) :: List.replicate (n - 2) none) M = some (.rt (enc c) (M ++ g))) : Keeps n body (fn2 f) := by
  refine KeepsP.keeps ?_
  intro ws M w M' hc hw e
  unfold fn2 at e
  split at e
  · split at e
    · rename_i x y _ _ a b ha hb
      obtain ⟨c, hcc, e⟩ := Option.map_eq_some_iff.mp e
      cases e
      obtain ⟨g, hg⟩ := h a b c M hcc
      rw [enc_dec _ _ ha, enc_dec _ _ hb]
      exact ⟨g, .inl hg, Nat.le_refl _, hc, enc_closed c _⟩
    · cases e
  · cases e
theorem keeps3 {α β γ δ : Type} [Enc α] [Enc β] [Enc γ] [Enc δ] {f : α → β → γ → Option δ} {n : Nat} {body : CS}
    (h : ∀ a b c d M, f a b c = some d → ∃ g, body (some (enc a) :: some (enc b) :: some (enc c) :: List.replicate (n - 3) none) M = some (.rt (enc d) (M ++ g))) : Keeps n body (fn3 f) := by
  refine KeepsP.keeps ?_
  intro ws M w M' hc hw e
  unfold fn3 at e
  split at e
  · split at e
    · rename_i x y z _ _ _ a b c ha hb hcc
      obtain ⟨d, hd, e⟩ := Option.map_eq_some_iff.mp e
      cases e
      obtain ⟨g, hg⟩ := h a b c d M hd
      rw [enc_dec _ _ ha, enc_dec _ _ hb, enc_dec _ _ hcc]
      exact ⟨g, .inl hg, Nat.le_refl _, hc, enc_closed d _⟩
    · cases e
  · cases e

/-! ### items, slices, ranges in plain words -/
theorem ixW_nat {n j : Nat} (h : j < n) : ixW n (j : Int) = some j := by
  unfold ixW
  rw [if_pos (Int.natCast_nonneg j), if_pos (by omega)]
  simp
@[simp] theorem ixW_0 {n : Nat} : ixW (n + 1) 0 = some 0 := ixW_nat (j := 0) (by omega)
@[simp] theorem ixW_1 {n : Nat} : ixW (n + 2) 1 = some 1 := ixW_nat (j := 1) (by omega)
@[simp] theorem ixW_2 {n : Nat} : ixW (n + 3) 2 = some 2 := ixW_nat (j := 2) (by omega)
theorem sIx_nat (n d k : Nat) : sIx n d (some (k : Int)) = min k n := by
  unfold sIx
  simp only
  rw [if_neg (by omega)]
  simp
theorem cutW_lo {α : Type} (xs : List α) (k : Nat) : cutW xs (some (k : Int)) none = xs.drop k := by
  unfold cutW
  rw [sIx_nat]
  show (xs.drop (min k xs.length)).take (xs.length - min k xs.length) = _
  by_cases h : k ≤ xs.length
  · rw [Nat.min_eq_left h]
    exact List.take_of_length_le (by simp)
  · rw [Nat.min_eq_right (by omega), List.drop_length, List.drop_of_length_le (by omega)]
    simp
theorem cutW_hi {α : Type} (xs : List α) (k : Nat) : cutW xs none (some (k : Int)) = xs.take k := by
  unfold cutW
  rw [sIx_nat]
  show (xs.drop 0).take (min k xs.length - 0) = _
  rw [List.drop_zero, Nat.sub_zero]
  by_cases h : k ≤ xs.length
  · rw [Nat.min_eq_left h]
  · rw [Nat.min_eq_right (by omega), List.take_length, List.take_of_length_le (by omega)]
@[simp] theorem cutW_hi1 {α : Type} (xs : List α) (k : Nat) : cutW xs none (some ((k : Int) + 1)) = xs.take (k + 1) := cutW_hi xs (k + 1)
@[simp] theorem cutW_lo1 {α : Type} (xs : List α) (k : Nat) : cutW xs (some ((k : Int) + 1)) none = xs.drop (k + 1) := cutW_lo xs (k + 1)
@[simp] theorem cutW_hi0 {α : Type} (xs : List α) (k : Nat) : cutW xs none (some (k : Int)) = xs.take k := cutW_hi xs k
@[simp] theorem cutW_lo0 {α : Type} (xs : List α) (k : Nat) : cutW xs (some (k : Int)) none = xs.drop k := cutW_lo xs k
theorem cutW_map {α β : Type} (f : α → β) (xs : List α) (lo hi : Option Int) : cutW (xs.map f) lo hi = (cutW xs lo hi).map f := by
  unfold cutW
  simp [List.map_take, List.map_drop]
end BF

set_option Elab.async false
set_option linter.all false
set_option autoImplicit false
set_option maxRecDepth 10000
/-! Loops and comprehensions by an invariant; the tape. -/
namespace BF
open PySem Enc

theorem forL_ind {gd : Mem → Bool} {g : CG} {body : CS} (ws : List W) (P : Nat → Sl → Mem → Prop) {σ : Sl} {M : Mem} (h0 : P 0 σ M) (hg : ∀ i σ M, P i σ M → gd M = true)
    (step : ∀ i w σ M, ws[i]? = some w → P i σ M → ∃ σ1, g w σ = some σ1 ∧ ∃ σ2 M2, (body σ1 M = some (.nx σ2 M2) ∨ body σ1 M = some (.ct σ2 M2)) ∧ P (i + 1) σ2 M2) :
    ∃ σ' M', forL gd g body ws σ M = some (.nx σ' M') ∧ P ws.length σ' M' := by
  induction ws generalizing P σ M with
  | nil => exact ⟨σ, M, by rw [forL, if_pos (hg 0 σ M h0)], h0⟩
  | cons w ws ih =>
    obtain ⟨σ1, h1, σ2, M2, h2, h3⟩ := step 0 w σ M rfl h0
    obtain ⟨σ', M', e, p⟩ := ih (fun i => P (i + 1)) h3 (fun i => hg (i + 1)) fun i w' σ M hw hp => step (i + 1) w' σ M hw hp
    refine ⟨σ', M', ?_, p⟩
    rw [forL, if_pos (hg 0 σ M h0), h1]
    rcases h2 with h2 | h2
    · show (body σ1 M).bind _ = _
      rw [h2]; exact e
    · show (body σ1 M).bind _ = _
      rw [h2]; exact e
def contO (gd : Mem → Bool) (g : CG) (body : CS) (ws : List W) : Out → Option Out
  | .nx σ' M' => forL gd g body ws σ' M'
  | .ct σ' M' => forL gd g body ws σ' M'
  | .bk σ' M' => some (.nx σ' M')
  | .rt w M' => some (.rt w M')
theorem forL_cons {gd : Mem → Bool} {g : CG} {body : CS} {w : W} {ws : List W} {σ σ1 : Sl} {M : Mem} {o : Out} (h0 : gd M = true) (h1 : g w σ = some σ1) (h2 : body σ1 M = some o) : forL gd g body (w :: ws) σ M = contO gd g body ws o := by
  rw [forL, if_pos h0, h1]
  show (body σ1 M).bind _ = _
  rw [h2]
  cases o <;> rfl
theorem forL_nil {gd : Mem → Bool} {g : CG} {body : CS} {σ : Sl} {M : Mem} (h0 : gd M = true) : forL gd g body [] σ M = some (.nx σ M) := by rw [forL, if_pos h0]
/-- a loop whose turns may return -/
theorem forL_ret {gd : Mem → Bool} {g : CG} {body : CS} (ws : List W) (P : Nat → Sl → Mem → Prop) (R : W → Mem → Prop) {σ : Sl} {M : Mem} (h0 : P 0 σ M) (hg : ∀ i σ M, P i σ M → gd M = true)
    (step : ∀ i w σ M, ws[i]? = some w → P i σ M → ∃ σ1, g w σ = some σ1 ∧ ∃ o, body σ1 M = some o ∧ match o with
      | .nx σ2 M2 => P (i + 1) σ2 M2
      | .ct σ2 M2 => P (i + 1) σ2 M2
      | .bk _ _ => False
      | .rt v M2 => R v M2) :
    (∃ σ' M', forL gd g body ws σ M = some (.nx σ' M') ∧ P ws.length σ' M') ∨ ∃ v M', forL gd g body ws σ M = some (.rt v M') ∧ R v M' := by
  induction ws generalizing P σ M with
  | nil => exact .inl ⟨σ, M, by rw [forL, if_pos (hg 0 σ M h0)], h0⟩
  | cons w ws ih =>
    obtain ⟨σ1, h1, o, h2, h3⟩ := step 0 w σ M rfl h0
    rw [forL_cons (hg 0 σ M h0) h1 h2]
    cases o with
    | nx σ2 M2 => exact ih (fun i => P (i + 1)) h3 (fun i => hg (i + 1)) fun i w' σ M hw hp => step (i + 1) w' σ M hw hp
    | ct σ2 M2 => exact ih (fun i => P (i + 1)) h3 (fun i => hg (i + 1)) fun i w' σ M hw hp => step (i + 1) w' σ M hw hp
    | bk σ2 M2 => exact h3.elim
    | rt v M2 => exact .inr ⟨v, M2, rfl, h3⟩
theorem lcL_ind {gd : Mem → Bool} {g : CG} {t : CT} {e : CE} {vs : List Nat} {σ : Sl} {D : Nat} (ws : List W) (P : Nat → List W → Mem → Prop) {M : Mem} {acc0 : List W} (h0 : P 0 acc0 M) (hg : ∀ i acc M, P i acc M → gd M = true)
    (step : ∀ i w acc M, ws[i]? = some w → P i acc M → ∃ σ1, g w (wipe σ vs) = some σ1 ∧ ∃ b M1, t σ1 M = some (b, M1) ∧
      if b = true then ∃ x M2, e σ1 M1 = some (x, M2) ∧ M2[D]? = some (.lst acc) ∧ acc.length < 16777216 ∧ P (i + 1) (acc ++ [x]) (M2.set D (.lst (acc ++ [x]))) else P (i + 1) acc M1) :
    ∃ M' acc, lcL gd g t e vs σ D ws M = some M' ∧ P ws.length acc M' := by
  induction ws generalizing P M acc0 with
  | nil => exact ⟨M, acc0, by rw [lcL, if_pos (hg 0 acc0 M h0)], h0⟩
  | cons w ws ih =>
    obtain ⟨σ1, h1, b, M1, h2, h3⟩ := step 0 w acc0 M rfl h0
    have go : ∀ {M2 : Mem} {acc2 : List W}, P 1 acc2 M2 → ∃ M' acc, lcL gd g t e vs σ D ws M2 = some M' ∧ P (w :: ws).length acc M' := fun {M2 acc2} hp =>
      ih (fun i => P (i + 1)) hp (fun i => hg (i + 1)) fun i w' acc M hw hp => step (i + 1) w' acc M hw hp
    have e0 : lcL gd g t e vs σ D (w :: ws) M = (if b = true then
        (e σ1 M1).bind fun q => match q.2[D]? with
          | some (.lst acc) => if acc.length < 16777216 then lcL gd g t e vs σ D ws (q.2.set D (.lst (acc ++ [q.1]))) else none
          | _ => none
      else lcL gd g t e vs σ D ws M1) := by
      rw [lcL, if_pos (hg 0 acc0 M h0), h1]
      show (t σ1 M).bind _ = _
      rw [h2]; rfl
    rw [e0]
    split at h3
    · rename_i hb
      obtain ⟨x, M2, h4, h5, h6, h7⟩ := h3
      rw [if_pos hb, h4]
      show ∃ M' acc, (match M2[D]? with
        | some (.lst acc) => if acc.length < 16777216 then lcL gd g t e vs σ D ws (M2.set D (.lst (acc ++ [x]))) else none
        | _ => none) = some M' ∧ _
      rw [h5]
      simp only [if_pos h6]
      exact go h7
    · rename_i hb
      rw [if_neg hb]
      exact go h3
/-- items that change nothing: their values in a row -/
theorem lcL_pure {gd : Mem → Bool} {g : CG} {e : CE} {vs : List Nat} {σ : Sl} (ws : List W) (f : W → W) (M : Mem) (acc0 : List W) (hl : acc0.length + ws.length ≤ 16777216) (hg : ∀ l, gd (M ++ [.lst l]) = true)
    (h : ∀ w ∈ ws, ∀ l, ∃ σ1, g w (wipe σ vs) = some σ1 ∧ e σ1 (M ++ [.lst l]) = some (f w, M ++ [.lst l])) :
    lcL gd g tTrue e vs σ M.length ws (M ++ [.lst acc0]) = some (M ++ [.lst (acc0 ++ ws.map f)]) := by
  induction ws generalizing acc0 with
  | nil => rw [lcL, if_pos (hg _)]; simp
  | cons w ws ih =>
    obtain ⟨σ1, h1, h2⟩ := h w List.mem_cons_self acc0
    rw [lcL, if_pos (hg _), h1]
    simp only [List.length_cons] at hl
    simp only [Option.bind_some, tTrue_eq, if_true, h2]
    rw [show (M ++ [MO.lst acc0])[M.length]? = some (.lst acc0) by simp]
    simp only [if_pos (show acc0.length < 16777216 by omega)]
    rw [show (M ++ [MO.lst acc0]).set M.length (.lst (acc0 ++ [f w])) = M ++ [.lst (acc0 ++ [f w])] by simp]
    rw [ih (acc0 ++ [f w]) (by simp; omega) fun w' hw l => h w' (List.mem_cons_of_mem _ hw) l]
    simp
/-- .. with a test -/
theorem lcL_filter {gd : Mem → Bool} {g : CG} {t : CT} {e : CE} {vs : List Nat} {σ : Sl} (ws : List W) (f : W → W) (p : W → Bool) (M : Mem) (acc0 : List W) (hl : acc0.length + ws.length ≤ 16777216) (hg : ∀ l, gd (M ++ [.lst l]) = true)
    (h : ∀ w ∈ ws, ∀ l, ∃ σ1, g w (wipe σ vs) = some σ1 ∧ t σ1 (M ++ [.lst l]) = some (p w, M ++ [.lst l]) ∧ (p w = true → e σ1 (M ++ [.lst l]) = some (f w, M ++ [.lst l]))) :
    lcL gd g t e vs σ M.length ws (M ++ [.lst acc0]) = some (M ++ [.lst (acc0 ++ (ws.filter p).map f)]) := by
  induction ws generalizing acc0 with
  | nil => rw [lcL, if_pos (hg _)]; simp
  | cons w ws ih =>
    obtain ⟨σ1, h1, h2, h3⟩ := h w List.mem_cons_self acc0
    rw [lcL, if_pos (hg _), h1]
    simp only [List.length_cons] at hl
    simp only [Option.bind_some, h2]
    by_cases hp : p w = true
    · rw [if_pos hp, h3 hp]
      simp only [Option.bind_some]
      rw [show (M ++ [MO.lst acc0])[M.length]? = some (.lst acc0) by simp]
      simp only [if_pos (show acc0.length < 16777216 by omega)]
      rw [show (M ++ [MO.lst acc0]).set M.length (.lst (acc0 ++ [f w])) = M ++ [.lst (acc0 ++ [f w])] by simp]
      rw [ih (acc0 ++ [f w]) (by simp; omega) fun w' hw l => h w' (List.mem_cons_of_mem _ hw) l, List.filter_cons_of_pos hp]
      simp
    · rw [if_neg hp, ih acc0 (by omega) fun w' hw l => h w' (List.mem_cons_of_mem _ hw) l, List.filter_cons_of_neg hp]

/-! ### the tape -/
/-- the place and the rest of the tape -/
abbrev Dr := Int × Int
def mixT (cell i : Int) : Int :=
  let c := (cell + 1000003 * i) % 2305843009213693951
  let c := (c * c + 1181783497276652981 * c + 2049848353892358983) % 2305843009213693951
  (c * c + 1442695040888963407) % 2305843009213693951
def nextT (ns : List Int) (i : Int) : Int :=
  let cell := if 0 < ns.length then ns.getD (i % ns.length).toNat 0 else 0
  if (ns.length : Int) ≤ i ∨ cell < 10 ^ 18 then mixT cell i else cell
def drawD (ns : List Int) (many : Nat) (s : Dr) : Nat × Dr :=
  let s := if s.2 < many then (s.1 + 1, nextT ns s.1) else s
  ((s.2 % many).toNat, (s.1, s.2 / many))
theorem drawD_lt (ns : List Int) {many : Nat} (s : Dr) (h : 0 < many) : (drawD ns many s).1 < many := by
  unfold drawD
  simp only
  have h1 := Int.emod_nonneg (if s.2 < (many : Int) then (s.1 + 1, nextT ns s.1) else s).2 (show (many : Int) ≠ 0 by omega)
  have h2 := Int.emod_lt_of_pos (if s.2 < (many : Int) then (s.1 + 1, nextT ns s.1) else s).2 (show (0 : Int) < many by omega)
  omega
/-- the memory while a law runs: the script, its copy, the tape -/
def TM (ns : List Int) (s : Dr) (g : Mem) : Mem := .ro (ns.map W.int) :: .lst (ns.map W.int) :: .lst [.ref 1, .int s.1, .int s.2] :: g
/-- promises of defs that draw -/
def withTM {α : Type} (M : Mem) (f : List Int → Dr → Mem → Option α) : Option α := match M with
  | .ro us :: .lst vs :: .lst [.ref 1, .int i, .int c] :: g => match asInts us, asInts vs with
    | some ns, some ms => if ns = ms then f ns (i, c) g else none
    | _, _ => none
  | _ => none
theorem withTM_eq {α : Type} (ns : List Int) (s : Dr) (g : Mem) (f : List Int → Dr → Mem → Option α) : withTM (TM ns s g) f = f ns s g := by
  unfold withTM TM
  simp only [asInts_map, if_true]
theorem withTM_some {α : Type} {M : Mem} {f : List Int → Dr → Mem → Option α} {a : α} (h : withTM M f = some a) : ∃ ns s g, M = TM ns s g ∧ f ns s g = some a := by
  unfold withTM at h
  split at h
  · split at h
    · rename_i h1 h2
      split at h
      · rename_i e
        subst e
        exact ⟨_, _, _, by rw [asInts_some h1, asInts_some h2]; rfl, h⟩
      · cases h
    · cases h
  · cases h
def fnT1 {α β : Type} [Enc α] [Enc β] (f : α → List Int → Dr → Option (β × Dr)) : Fn := fun ws M => match ws with
  | [.ref 2, x] => match (dec x : Option α) with
    | some a => withTM M fun ns s g => (f a ns s).map fun p => (enc p.1, TM ns p.2 g)
    | none => none
  | _ => none
def fnT2 {α β γ : Type} [Enc α] [Enc β] [Enc γ] (f : α → β → List Int → Dr → Option (γ × Dr)) : Fn := fun ws M => match ws with
  | [.ref 2, x, y] => match (dec x : Option α), (dec y : Option β) with
    | some a, some b => withTM M fun ns s g => (f a b ns s).map fun p => (enc p.1, TM ns p.2 g)
    | _, _ => none
  | _ => none
def fnT3 {α β γ δ : Type} [Enc α] [Enc β] [Enc γ] [Enc δ] (f : α → β → γ → List Int → Dr → Option (δ × Dr)) : Fn := fun ws M => match ws with
  | [.ref 2, x, y, z] => match (dec x : Option α), (dec y : Option β), (dec z : Option γ) with
    | some a, some b, some c => withTM M fun ns s g => (f a b c ns s).map fun p => (enc p.1, TM ns p.2 g)
    | _, _, _ => none
  | _ => none
theorem fnT1_eq {α β : Type} [Enc α] [Enc β] (f : α → List Int → Dr → Option (β × Dr)) (a : α) (ns : List Int) (s : Dr) (g : Mem) : fnT1 f [.ref 2, enc a] (TM ns s g) = (f a ns s).map fun p => (enc p.1, TM ns p.2 g) := by
  unfold fnT1
  simp only [dec_enc, withTM_eq]
theorem fnT2_eq {α β γ : Type} [Enc α] [Enc β] [Enc γ] (f : α → β → List Int → Dr → Option (γ × Dr)) (a : α) (b : β) (ns : List Int) (s : Dr) (g : Mem) : fnT2 f [.ref 2, enc a, enc b] (TM ns s g) = (f a b ns s).map fun p => (enc p.1, TM ns p.2 g) := by
  unfold fnT2
  simp only [dec_enc, withTM_eq]
theorem fnT3_eq {α β γ δ : Type} [Enc α] [Enc β] [Enc γ] [Enc δ] (f : α → β → γ → List Int → Dr → Option (δ × Dr)) (a : α) (b : β) (c : γ) (ns : List Int) (s : Dr) (g : Mem) : fnT3 f [.ref 2, enc a, enc b, enc c] (TM ns s g) = (f a b c ns s).map fun p => (enc p.1, TM ns p.2 g) := by
  unfold fnT3
  simp only [dec_enc, withTM_eq]
theorem closeds_ints (ns : List Int) (k : Nat) : W.closeds k (ns.map W.int) = true := by
  induction ns with
  | nil => rfl
  | cons n ns ih => rw [List.map_cons, W.closeds, ih]; rfl
theorem closed_TM {ns : List Int} {s s' : Dr} {g : Mem} (h : Closed (TM ns s g)) : Closed (TM ns s' g) := by
  intro mo hm
  have hl : (TM ns s' g).length = (TM ns s g).length := rfl
  rw [hl]
  rcases List.mem_cons.mp hm with rfl | hm
  · exact closeds_ints ns _
  rcases List.mem_cons.mp hm with rfl | hm
  · exact closeds_ints ns _
  rcases List.mem_cons.mp hm with rfl | hm
  · show W.closeds _ [.ref 1, .int s'.1, .int s'.2] = true
    simp [W.closeds, W.closed, TM]
  · exact h mo (List.mem_cons_of_mem _ (List.mem_cons_of_mem _ (List.mem_cons_of_mem _ hm)))
@[simp high] theorem TM_get0 (ns : List Int) (s : Dr) (g : Mem) : (TM ns s g)[0]? = some (.ro (ns.map W.int)) := nr rfl
@[simp high] theorem TM_get1 (ns : List Int) (s : Dr) (g : Mem) : (TM ns s g)[1]? = some (.lst (ns.map W.int)) := nr rfl
@[simp high] theorem TM_get2 (ns : List Int) (s : Dr) (g : Mem) : (TM ns s g)[2]? = some (.lst [.ref 1, .int s.1, .int s.2]) := nr rfl
@[simp high] theorem TM_get3 (ns : List Int) (s : Dr) (g : Mem) (n : Nat) : (TM ns s g)[n + 3]? = g[n]? := nr rfl
@[simp] theorem TM_set3 (ns : List Int) (s : Dr) (g : Mem) (n : Nat) (x : MO) : (TM ns s g).set (n + 3) x = TM ns s (g.set n x) := nr rfl
@[simp] theorem TM_prefix (ns : List Int) (s : Dr) (g g' : Mem) : TM ns s g <+: TM ns s (g ++ g') := ⟨g', rfl⟩
@[simp] theorem TM_append (ns : List Int) (s : Dr) (g g' : Mem) : TM ns s g ++ g' = TM ns s (g ++ g') := nr rfl
@[simp] theorem TM_length (ns : List Int) (s : Dr) (g : Mem) : (TM ns s g).length = g.length + 3 := nr rfl
theorem keepsT1 {α β : Type} [Enc α] [Enc β] {f : α → List Int → Dr → Option (β × Dr)} {n : Nat} {body : CS}
    (h : ∀ a ns s g b s', f a ns s = some (b, s') → ∃ g', body (some (.ref 2) :: some (enc a) :: List.replicate (n - 2) none) (TM ns s g) = some (.rt (enc b) (TM ns s' (g ++ g')))) : Keeps n body (fnT1 f) := by
  refine KeepsP.keeps ?_
  intro ws M w M' hc hw e
  unfold fnT1 at e
  split at e
  · split at e
    · rename_i x _ a ha
      obtain ⟨ns, s, g, eM, e2⟩ := withTM_some e
      subst eM
      obtain ⟨⟨b, s'⟩, hb, e3⟩ := Option.map_eq_some_iff.mp e2
      cases e3
      obtain ⟨g', hg⟩ := h a ns s g b s' hb
      rw [enc_dec _ _ ha]
      exact ⟨g', .inl hg, Nat.le_refl _, closed_TM hc, enc_closed b _⟩
    · cases e
  · cases e
theorem keepsT2 {α β γ : Type} [Enc α] [Enc β] [Enc γ] {f : α → β → List Int → Dr → Option (γ × Dr)} {n : Nat} {body : CS}
    (h : ∀ a b ns s g c s', f a b ns s = some (c, s') → ∃ g', body (some (.ref 2) :: some (enc a) :: some (enc b) :: List.replicate (n - 3) none) (TM ns s g) = some (.rt (enc c) (TM ns s' (g ++ g')))) : Keeps n body (fnT2 f) := by
  refine KeepsP.keeps ?_
  intro ws M w M' hc hw e
  unfold fnT2 at e
  split at e
  · split at e
    · rename_i x y _ _ a b ha hb
      obtain ⟨ns, s, g, eM, e2⟩ := withTM_some e
      subst eM
      obtain ⟨⟨c, s'⟩, hcc, e3⟩ := Option.map_eq_some_iff.mp e2
      cases e3
      obtain ⟨g', hg⟩ := h a b ns s g c s' hcc
      rw [enc_dec _ _ ha, enc_dec _ _ hb]
      exact ⟨g', .inl hg, Nat.le_refl _, closed_TM hc, enc_closed c _⟩
    · cases e
  · cases e
theorem keepsT3 {α β γ δ : Type} [Enc α] [Enc β] [Enc γ] [Enc δ] {f : α → β → γ → List Int → Dr → Option (δ × Dr)} {n : Nat} {body : CS}
    (h : ∀ a b c ns s g d s', f a b c ns s = some (d, s') → ∃ g', body (some (.ref 2) :: some (enc a) :: some (enc b) :: some (enc c) :: List.replicate (n - 4) none) (TM ns s g) = some (.rt (enc d) (TM ns s' (g ++ g')))) : Keeps n body (fnT3 f) := by
  refine KeepsP.keeps ?_
  intro ws M w M' hc hw e
  unfold fnT3 at e
  split at e
  · split at e
    · rename_i x y z _ _ _ a b c ha hb hz
      obtain ⟨ns, s, g, eM, e2⟩ := withTM_some e
      subst eM
      obtain ⟨⟨d, s'⟩, hcc, e3⟩ := Option.map_eq_some_iff.mp e2
      cases e3
      obtain ⟨g', hg⟩ := h a b c ns s g d s' hcc
      rw [enc_dec _ _ ha, enc_dec _ _ hb, enc_dec _ _ hz]
      exact ⟨g', .inl hg, Nat.le_refl _, closed_TM hc, enc_closed d _⟩
    · cases e
  · cases e

/-! ### lists of encoded values -/
theorem toD_lst {α : Type} [Enc α] (M : Mem) (n : Nat) (as : List α) (h : M[n]? = some (.lst (as.map enc)) ∨ M[n]? = some (.ro (as.map enc))) (hd : dep α ≤ 63) : toD M 64 (.ref n) = some (.list (as.map fun a => dP (enc a))) := by
  have e : mapO (toD M 63) (as.map enc) = some (as.map fun a => dP (enc a)) := mapO_map (fun a => toD_P M 63 _ (okW_mono _ _ (ok a) 63 hd)) as
  rw [toD]
  rcases h with h | h
  · rw [h]; simp only [e]; rfl
  · rw [h]; simp only [e]; rfl
theorem eqvAll_map {α : Type} [Enc α] (hd : dep α ≤ 63) : ∀ as bs : List α, PyData.eqvAll (as.map fun a => dP (enc a)) (bs.map fun a => dP (enc a)) = true ↔ as = bs
  | [], [] => by simp [PyData.eqvAll]
  | [], _ :: _ => by simp [PyData.eqvAll]
  | _ :: _, [] => by simp [PyData.eqvAll]
  | a :: as, b :: bs => by
    rw [List.map_cons, List.map_cons, PyData.eqvAll, Bool.and_eq_true, eqvAll_map hd as bs, eqv_P 63 _ _ (okW_mono _ _ (ok a) 63 hd) (okW_mono _ _ (ok b) 63 hd), eqE]
    simp
theorem eqW_lst {α : Type} [Enc α] [DecidableEq α] (M : Mem) (n m : Nat) (as bs : List α) (h1 : M[n]? = some (.lst (as.map enc))) (h2 : M[m]? = some (.lst (bs.map enc))) (hd : dep α ≤ 63 := by decide) : eqW M (.ref n) (.ref m) = some (decide (as = bs)) := by
  unfold eqW
  rw [toD_lst M n as (.inl h1) hd, toD_lst M m bs (.inl h2) hd]
  show some (PyData.eqv (.list _) (.list _)) = some _
  congr 1
  simp only [PyData.eqv]
  rw [Bool.eq_iff_iff, eqvAll_map hd, decide_eq_true_eq]

/-! ### sequences: a list or a tuple -/
def seqW (M : Mem) : W → Option (Bool × List W)
  | .tup ws => some (false, ws)
  | .ref n => match M[n]? with
    | some (.lst ws) => some (true, ws)
    | some (.ro ws) => some (true, ws)
    | _ => none
  | _ => none
def isScal : W → Bool
  | .non | .bl _ | .int _ | .str _ => true
  | _ => false
def isBl : W → Bool
  | .bl _ => true
  | _ => false
section
variable {M : Mem} {x : W} {b : Bool} {ws : List W}
theorem seqW_cases (h : seqW M x = some (b, ws)) : (x = .tup ws ∧ b = false) ∨ ∃ n, x = .ref n ∧ b = true ∧ (M[n]? = some (.lst ws) ∨ M[n]? = some (.ro ws)) := by
  unfold seqW at h
  split at h
  · cases h; exact .inl ⟨rfl, rfl⟩
  · split at h
    · rename_i e; cases h; exact .inr ⟨_, rfl, rfl, .inl e⟩
    · rename_i e; cases h; exact .inr ⟨_, rfl, rfl, .inr e⟩
    · cases h
  · cases h
theorem get_app {g : Mem} {n : Nat} {mo : MO} (h : M[n]? = some mo) : (M ++ g)[n]? = some mo := by
  rw [List.getElem?_append_left (List.getElem?_eq_some_iff.mp h).1]; exact h
theorem seqW_app {g : Mem} (h : seqW M x = some (b, ws)) : seqW (M ++ g) x = some (b, ws) := by
  rcases seqW_cases h with ⟨rfl, rfl⟩ | ⟨n, rfl, rfl, h | h⟩
  · rfl
  · simp [seqW, get_app h]
  · simp [seqW, get_app h]
theorem isi2_seq (h : seqW M x = some (b, ws)) : gIsi2 "list" "tuple" M x = some (.bl true, M) := by
  rcases seqW_cases h with ⟨rfl, rfl⟩ | ⟨n, rfl, rfl, h | h⟩
  · rfl
  · simp [gIsi2, tyW, h, isTy]
  · simp [gIsi2, tyW, h, isTy]
theorem isiL_seq (h : seqW M x = some (b, ws)) : gIsi "list" M x = some (.bl b, M) := by
  rcases seqW_cases h with ⟨rfl, rfl⟩ | ⟨n, rfl, rfl, h | h⟩
  · rfl
  · simp [gIsi, tyW, h, isTy]
  · simp [gIsi, tyW, h, isTy]
theorem isiT_seq (h : seqW M x = some (b, ws)) : gIsi "tuple" M x = some (.bl (!b), M) := by
  rcases seqW_cases h with ⟨rfl, rfl⟩ | ⟨n, rfl, rfl, h | h⟩
  · rfl
  · simp [gIsi, tyW, h, isTy]
  · simp [gIsi, tyW, h, isTy]
theorem len_seq (h : seqW M x = some (b, ws)) : pLen [x] M = some (.int ws.length, M) := by
  rcases seqW_cases h with ⟨rfl, rfl⟩ | ⟨n, rfl, rfl, h | h⟩
  · rfl
  · simp [h]
  · simp [h]
theorem ix_seq' (h : seqW M x = some (b, ws)) {k : Nat} {w : W} (hk : ws[k]? = some w) : gIx M x (.int k) = some (w, M) := by
  have hlt : k < ws.length := (List.getElem?_eq_some_iff.mp hk).1
  rcases seqW_cases h with ⟨rfl, rfl⟩ | ⟨n, rfl, rfl, h | h⟩
  · simp [ixW_nat hlt, hk]
  · simp [h, ixW_nat hlt, hk]
  · simp [h, ixW_nat hlt, hk]
theorem isi2_scal (h : isScal x = true) : gIsi2 "list" "tuple" M x = some (.bl false, M) := by cases x <;> first | rfl | cases h
theorem isiL_scal (h : isScal x = true) : gIsi "list" M x = some (.bl false, M) := by cases x <;> first | rfl | cases h
theorem isiT_scal (h : isScal x = true) : gIsi "tuple" M x = some (.bl false, M) := by cases x <;> first | rfl | cases h
theorem isiB_scal (h : isScal x = true) : gIsi "bool" M x = some (.bl (isBl x), M) := by cases x <;> first | rfl | cases h
end
theorem mapO_at {α β : Type} {f : α → Option β} : ∀ {as : List α} {bs : List β}, mapO f as = some bs → bs.length = as.length ∧ ∀ (i : Nat) (a : α), as[i]? = some a → ∃ b, bs[i]? = some b ∧ f a = some b
  | [], bs, h => by cases h; exact ⟨rfl, fun i a h => by simp at h⟩
  | a :: as, bs, h => by
    rw [mapO] at h
    split at h
    · rename_i b bs' h1 h2
      cases h
      obtain ⟨l, e⟩ := mapO_at h2
      refine ⟨by simp [l], fun i a' hi => ?_⟩
      cases i with
      | zero => simp at hi; subst hi; exact ⟨b, rfl, h1⟩
      | succ i => simpa using e i a' (by simpa using hi)
    · cases h
theorem rangeW_mem {lo : Int} {n : Nat} {w : W} (h : w ∈ rangeW lo n) : ∃ i, i < n ∧ w = .int (lo + (i : Nat)) := by
  unfold rangeW at h
  obtain ⟨i, hi, rfl⟩ := List.mem_map.mp h
  exact ⟨i, List.mem_range.mp hi, rfl⟩

/-! ### promises of defs that hand back a new list -/
mutual
theorem W.closed_mono {k j : Nat} (h : k ≤ j) : ∀ w : W, w.closed k = true → w.closed j = true
  | .ref n, c => by rw [W.closed] at c ⊢; exact decide_eq_true (Nat.lt_of_lt_of_le (of_decide_eq_true c) h)
  | .tup ws, c => by rw [W.closed] at c ⊢; exact W.closeds_mono h ws c
  | .non, _ => rfl
  | .bl _, _ => rfl
  | .int _, _ => rfl
  | .str _, _ => rfl
theorem W.closeds_mono {k j : Nat} (h : k ≤ j) : ∀ ws : List W, W.closeds k ws = true → W.closeds j ws = true
  | [], _ => rfl
  | w :: ws, c => by
    rw [W.closeds, Bool.and_eq_true] at c ⊢
    exact ⟨W.closed_mono h w c.1, W.closeds_mono h ws c.2⟩
end
theorem closed_mono {k j : Nat} {mo : MO} (c : mo.closed k = true) (h : k ≤ j) : mo.closed j = true := by
  cases mo with
  | lst ws => exact W.closeds_mono h ws c
  | ro ws => exact W.closeds_mono h ws c
  | dT m kvs =>
    rw [MO.closed, List.all_eq_true] at c ⊢
    intro p hp
    have := c p hp
    rw [Bool.and_eq_true] at this ⊢
    exact ⟨W.closed_mono h _ this.1, W.closed_mono h _ this.2⟩
  | dK kvs =>
    rw [MO.closed, List.all_eq_true] at c ⊢
    intro p hp
    have := c p hp
    rw [Bool.and_eq_true] at this ⊢
    exact ⟨W.closed_mono h _ this.1, W.closed_mono h _ this.2⟩
theorem closeds_enc {γ : Type} [Enc γ] (cs : List γ) (k : Nat) : W.closeds k (cs.map enc) = true := by
  induction cs with
  | nil => rfl
  | cons c cs ih => rw [List.map_cons, W.closeds, enc_closed, ih]; rfl
theorem closed_app {M g : Mem} (h : Closed M) (hg : ∀ mo ∈ g, mo.closed (M ++ g).length = true) : Closed (M ++ g) := by
  intro mo hm
  rcases List.mem_append.mp hm with hm | hm
  · exact closed_mono (h mo hm) (by simp)
  · exact hg mo hm
/-- the new list stands at n among what the body has laid -/
theorem keeps_new {γ : Type} [Enc γ] {n : Nat} {body : CS} {F : Fn} (h : ∀ ws M w M', F ws M = some (w, M') → ∃ cs : List γ, w = .ref M.length ∧ M' = M ++ [.lst (cs.map enc)] ∧
    ∃ k g, body (ws.map some ++ List.replicate (n - ws.length) none) M = some (.rt (.ref k) (M ++ g)) ∧ M.length ≤ k ∧ (M ++ g)[k]? = some (.lst (cs.map enc))) : Keeps n body F := by
  intro ws M w M' hc _ e
  obtain ⟨cs, rfl, rfl, k, g, h1, h2, h3⟩ := h ws M w M' e
  have hid : ∀ i < M.length, (fun i => if i < M.length then i else k) i = i := fun i hi => if_pos hi
  refine ⟨fun i => if i < M.length then i else k, M ++ g, .inl ?_, hid, fun i mo hi => ?_, fun i j hi hj e => ?_, by simp, ?_, ?_⟩
  · rw [W.ren, if_neg (Nat.lt_irrefl _)]; exact h1
  · by_cases hl : i < M.length
    · rw [List.getElem?_append_left hl] at hi
      rw [MO.ren_eq hid (hc mo (List.mem_of_getElem? hi))]
      show (M ++ g)[if i < M.length then i else k]? = _
      rw [if_pos hl, List.getElem?_append_left hl]; exact hi
    · have e0 : i = M.length := by
        have := (List.getElem?_eq_some_iff.mp hi).1
        simp at this; omega
      subst e0
      simp at hi
      subst hi
      show (M ++ g)[if M.length < M.length then M.length else k]? = _
      rw [if_neg (Nat.lt_irrefl _), MO.ren_eq hid (mo := .lst (cs.map enc)) (closeds_enc cs _)]
      exact h3
  · simp only at e
    simp at hi hj
    split at e <;> split at e <;> omega
  · exact closed_app hc fun mo hm => by
      rw [List.mem_singleton] at hm
      subst hm
      exact closeds_enc cs _
  · rw [W.closed]; simp
def fnL1 {α γ : Type} [Enc α] [Enc γ] (f : α → Option (List γ)) : Fn := fun ws M => match ws with
  | [x] => match (dec x : Option α) with
    | some a => (f a).map fun c => (.ref M.length, M ++ [.lst (c.map enc)])
    | none => none
  | _ => none
def fnL2 {α β γ : Type} [Enc α] [Enc β] [Enc γ] (f : α → β → Option (List γ)) : Fn := fun ws M => match ws with
  | [x, y] => match (dec x : Option α), (dec y : Option β) with
    | some a, some b => (f a b).map fun c => (.ref M.length, M ++ [.lst (c.map enc)])
    | _, _ => none
  | _ => none
def fnL3 {α β δ γ : Type} [Enc α] [Enc β] [Enc δ] [Enc γ] (f : α → β → δ → Option (List γ)) : Fn := fun ws M => match ws with
  | [x, y, z] => match (dec x : Option α), (dec y : Option β), (dec z : Option δ) with
    | some a, some b, some d => (f a b d).map fun c => (.ref M.length, M ++ [.lst (c.map enc)])
    | _, _, _ => none
  | _ => none
theorem fnL1_eq {α γ : Type} [Enc α] [Enc γ] (f : α → Option (List γ)) (a : α) (M : Mem) : fnL1 f [enc a] M = (f a).map fun c => (.ref M.length, M ++ [.lst (c.map enc)]) := by
  unfold fnL1; simp only [dec_enc]
theorem fnL2_eq {α β γ : Type} [Enc α] [Enc β] [Enc γ] (f : α → β → Option (List γ)) (a : α) (b : β) (M : Mem) : fnL2 f [enc a, enc b] M = (f a b).map fun c => (.ref M.length, M ++ [.lst (c.map enc)]) := by
  unfold fnL2; simp only [dec_enc]
theorem fnL3_eq {α β δ γ : Type} [Enc α] [Enc β] [Enc δ] [Enc γ] (f : α → β → δ → Option (List γ)) (a : α) (b : β) (d : δ) (M : Mem) : fnL3 f [enc a, enc b, enc d] M = (f a b d).map fun c => (.ref M.length, M ++ [.lst (c.map enc)]) := by
  unfold fnL3; simp only [dec_enc]
theorem keepsL1 {α γ : Type} [Enc α] [Enc γ] {f : α → Option (List γ)} {n : Nat} {body : CS}
    (h : ∀ a cs M, f a = some cs → ∃ k g, body (some (enc a) :: List.replicate (n - 1) none) M = some (.rt (.ref k) (M ++ g)) ∧ M.length ≤ k ∧ (M ++ g)[k]? = some (.lst (cs.map enc))) : Keeps n body (fnL1 f) := by
  refine keeps_new (γ := γ) fun ws M w M' e => ?_
  unfold fnL1 at e
  split at e
  · split at e
    · rename_i x _ a ha
      obtain ⟨c, hcc, e2⟩ := Option.map_eq_some_iff.mp e
      cases e2
      rw [enc_dec _ _ ha]
      exact ⟨c, rfl, rfl, h a c M hcc⟩
    · cases e
  · cases e
theorem keepsL2 {α β γ : Type} [Enc α] [Enc β] [Enc γ] {f : α → β → Option (List γ)} {n : Nat} {body : CS}
    (h : ∀ a b cs M, f a b = some cs → ∃ k g, body (some (enc a) :: some (enc b) :: List.replicate (n - 2) none) M = some (.rt (.ref k) (M ++ g)) ∧ M.length ≤ k ∧ (M ++ g)[k]? = some (.lst (cs.map enc))) : Keeps n body (fnL2 f) := by
  refine keeps_new (γ := γ) fun ws M w M' e => ?_
  unfold fnL2 at e
  split at e
  · split at e
    · rename_i x y _ _ a b ha hb
      obtain ⟨c, hcc, e2⟩ := Option.map_eq_some_iff.mp e
      cases e2
      rw [enc_dec _ _ ha, enc_dec _ _ hb]
      exact ⟨c, rfl, rfl, h a b c M hcc⟩
    · cases e
  · cases e
theorem keepsL3 {α β δ γ : Type} [Enc α] [Enc β] [Enc δ] [Enc γ] {f : α → β → δ → Option (List γ)} {n : Nat} {body : CS}
    (h : ∀ a b d cs M, f a b d = some cs → ∃ k g, body (some (enc a) :: some (enc b) :: some (enc d) :: List.replicate (n - 3) none) M = some (.rt (.ref k) (M ++ g)) ∧ M.length ≤ k ∧ (M ++ g)[k]? = some (.lst (cs.map enc))) : Keeps n body (fnL3 f) := by
  refine keeps_new (γ := γ) fun ws M w M' e => ?_
  unfold fnL3 at e
  split at e
  · split at e
    · rename_i x y z _ _ _ a b d ha hb hd
      obtain ⟨c, hcc, e2⟩ := Option.map_eq_some_iff.mp e
      cases e2
      rw [enc_dec _ _ ha, enc_dec _ _ hb, enc_dec _ _ hd]
      exact ⟨c, rfl, rfl, h a b d c M hcc⟩
    · cases e
  · cases e

/-! ### .. with what was laid left open -/
theorem keeps1p {α β : Type} [Enc α] [Enc β] {f : α → Option β} {n : Nat} {body : CS} (h : ∀ a b M, f a = some b → ∃ M2, body (some (enc a) :: List.replicate (n - 1) none) M = some (.rt (enc b) M2) ∧ M <+: M2) : Keeps n body (fn1 f) :=
  keeps1 fun a b M e => by
    obtain ⟨M2, h1, g, rfl⟩ := h a b M e
    exact ⟨g, h1⟩
theorem keeps2p {α β γ : Type} [Enc α] [Enc β] [Enc γ] {f : α → β → Option γ} {n : Nat} {body : CS}
    (h : ∀ a b c M, f a b = some c → ∃ M2, body (some (enc a) :: some (enc b) :: List.replicate (n - 2) none) M = some (.rt (enc c) M2) ∧ M <+: M2) : Keeps n body (fn2 f) :=
  keeps2 fun a b c M e => by
    obtain ⟨M2, h1, g, rfl⟩ := h a b c M e
    exact ⟨g, h1⟩
theorem keeps3p {α β γ δ : Type} [Enc α] [Enc β] [Enc γ] [Enc δ] {f : α → β → γ → Option δ} {n : Nat} {body : CS}
    (h : ∀ a b c d M, f a b c = some d → ∃ M2, body (some (enc a) :: some (enc b) :: some (enc c) :: List.replicate (n - 3) none) M = some (.rt (enc d) M2) ∧ M <+: M2) : Keeps n body (fn3 f) :=
  keeps3 fun a b c d M e => by
    obtain ⟨M2, h1, g, rfl⟩ := h a b c d M e
    exact ⟨g, h1⟩
theorem TM_pre {ns : List Int} {s : Dr} {g M2 : Mem} (h : TM ns s g <+: M2) : ∃ g', M2 = TM ns s (g ++ g') := by
  obtain ⟨g', rfl⟩ := h
  exact ⟨g', rfl⟩
theorem keepsT1p {α β : Type} [Enc α] [Enc β] {f : α → List Int → Dr → Option (β × Dr)} {n : Nat} {body : CS}
    (h : ∀ a ns s g b s', f a ns s = some (b, s') → ∃ M2, body (some (.ref 2) :: some (enc a) :: List.replicate (n - 2) none) (TM ns s g) = some (.rt (enc b) M2) ∧ TM ns s' g <+: M2) : Keeps n body (fnT1 f) :=
  keepsT1 fun a ns s g b s' e => by
    obtain ⟨M2, h1, h2⟩ := h a ns s g b s' e
    obtain ⟨g', rfl⟩ := TM_pre h2
    exact ⟨g', h1⟩
theorem keepsT2p {α β γ : Type} [Enc α] [Enc β] [Enc γ] {f : α → β → List Int → Dr → Option (γ × Dr)} {n : Nat} {body : CS}
    (h : ∀ a b ns s g c s', f a b ns s = some (c, s') → ∃ M2, body (some (.ref 2) :: some (enc a) :: some (enc b) :: List.replicate (n - 3) none) (TM ns s g) = some (.rt (enc c) M2) ∧ TM ns s' g <+: M2) : Keeps n body (fnT2 f) :=
  keepsT2 fun a b ns s g c s' e => by
    obtain ⟨M2, h1, h2⟩ := h a b ns s g c s' e
    obtain ⟨g', rfl⟩ := TM_pre h2
    exact ⟨g', h1⟩
theorem keepsT3p {α β γ δ : Type} [Enc α] [Enc β] [Enc γ] [Enc δ] {f : α → β → γ → List Int → Dr → Option (δ × Dr)} {n : Nat} {body : CS}
    (h : ∀ a b c ns s g d s', f a b c ns s = some (d, s') → ∃ M2, body (some (.ref 2) :: some (enc a) :: some (enc b) :: some (enc c) :: List.replicate (n - 4) none) (TM ns s g) = some (.rt (enc d) M2) ∧ TM ns s' g <+: M2) : Keeps n body (fnT3 f) :=
  keepsT3 fun a b c ns s g d s' e => by
    obtain ⟨M2, h1, h2⟩ := h a b c ns s g d s' e
    obtain ⟨g', rfl⟩ := TM_pre h2
    exact ⟨g', h1⟩
end BF

set_option Elab.async false
set_option linter.all false
set_option autoImplicit false
set_option maxRecDepth 10000
/-! Defs that stand at the top of the text. -/
namespace BF
open PySem PySem.Spec
open PyProof.Rows L2
/-- this def stands under this name -/
def DefAt (K : PySem.W.Frag) (mg : Str → Option Value) (x : Str) (st : Stmt) : Prop := ∃ f fd, Fun K x x st f fd ∧ mg x = some (.ref f)
/-- .. and keeps this promise -/
def Known (P : Program) (w : World) (K : PySem.W.Frag) (mg : Str → Option Value) (base : Heap) (k : Nat) (x : Str) (ps : List Str) (F : Fn) : Prop :=
  ∃ f fd, FnOk P w K mg base CX0 k f fd ps (spF ⟨K, w, tabOf mg⟩ ps.length F) ∧ mg x = some (.ref f) ∧ PySem.W.keepIn K (.ref f) = true ∧ Binds K fd ps []
/-- what binding one's arguments by place gives -/
abbrev BindsAll (x : Str) (st : Stmt) (ps : List Str) : Prop := ∀ (kV doc pm : Value) (an : Option Addr) (cdv ct : Value) (us : List Value), us.length = ps.length → bindArgs (PySem.W.fnOf x x (defArgs st) (defBody st) (defScope st) .none kV doc pm an cdv ct) ⟨us, []⟩ = pure (ps.zip us)
section
variable {P : Program} {w : World} {K : PySem.W.Frag} {mg : Str → Option Value} {base : Heap} {x : Str} {st : Stmt} {N ps : List Str} {k : Nat} {body : CS} {G : Fn}
theorem known (D : DefAt K mg x st) (S : FnScope N ps (defScope st)) (hb : BindsAll x st ps) (hk : Keeps N.length body G)
    (der : ∀ (f : Addr) (cdv : Value) (A : Around) (outer : List Env) (s : Shared) (H : Hp) (E : XK), Room k (A.deeper (envOfC x (defScope st) s.heap.objs.size f cdv)) →
      ESs (cxOf CX0 P w K mg base N x (defScope st) f cdv A outer s H E).nox (defBody st) body) : Known P w K mg base (k + 1) x ps G := by
  obtain ⟨f, fd, F, g⟩ := D
  exact ⟨f, fd, fn_ok F S hk (der f), g, F.kp, F.binds hb⟩
/-- a promise of nothing -/
theorem known0 (D : DefAt K mg x st) (S : FnScope N ps (defScope st)) (hb : BindsAll x st ps) (hG : ∀ ws M, G ws M = none) : Known P w K mg base (k + 1) x ps G := by
  obtain ⟨f, fd, F, g⟩ := D
  refine ⟨f, fd, F.ok S (fun vs H Q E h => h.1) (fun cdv A outer s H vs Q E hr h => ?_), g, F.kp, F.binds hb⟩
  obtain ⟨_, _, _, _, _, _, _, _, e, _⟩ := h
  rw [hG] at e
  cases e
theorem defAt {h : Heap} {f : Addr} {oc : Value} {od an : Option Addr} {osl : Array (Option Value)} {kV doc pm cdv ct : Value} (X : K.In h) (G : h.Ns mainGlobals mg)
    (a : PySem.W.nsIn K mainGlobals x = some (some (.ref f))) (l : K.lookup f = some ⟨oc, od, .func (PySem.W.fnOf x x (defArgs st) (defBody st) (defScope st) .none kV doc pm an cdv ct), osl⟩)
    (c : PySem.W.codeIn K cdv x = true) (k : PySem.W.keepIn K (.ref f) = true) : DefAt K mg x st := ⟨_, _, fun_mk l c k, PySem.W.mg_of X G a⟩
end
section
variable {X : Cx} {x : Str} {p pos : Pos} {e : Expr} {es : List Expr} {cs : List CE}
theorem r_callK {F : Fn} {k : Nat} {ps : List Str} (G : Known X.prog X.w X.K X.mg X.base k x ps F) (hr : Room k X.A) (hg : Gl X x)
    (ha : EA X (e :: es) cs) (hn : cs.length = ps.length := by rfl) (hdb : (x == ("__debug__" : Str)) = false := by decide) (he : starEach (e :: es) X.env = (false, eval e X.env) :: starEach es X.env := by rfl) (hpl : (backTo pos (starEach es X.env)).any (·.1) = false := by rfl) :
    EV X (.Call (.Name x p) (e :: es) [] pos) (eN F cs) := by
  obtain ⟨f, fd, G, hm, hk, hb⟩ := G
  exact r_call G hr hg hm hk hb ha hn hdb he hpl
end
/-- the head's part of a law -/
theorem law_head {l : PySem.W.OpenLaw} {w : World} {K : PySem.W.Frag} {h : Heap} {mg : Str → Option Value} {fa f : Addr} {k : Nat} {st : Stmt} {oc : Value} {od an : Option Addr} {osl : Array (Option Value)} {kV doc pm cdv ct : Value} (X : K.In h) (G : h.Ns mainGlobals mg) (hfa : mg "law" = some (.ref fa))
    (a : PySem.W.nsIn K mainGlobals "law" = some (some (.ref f))) (lk : K.lookup f = some ⟨oc, od, .func (PySem.W.fnOf "law" "law" (defArgs st) (defBody st) (defScope st) .none kV doc pm an cdv ct), osl⟩) (c : PySem.W.codeIn K cdv "law" = true) (kp : PySem.W.keepIn K (.ref f) = true)
    (hb : BindsAll "law" st ["script"]) (ok : ∀ (base : Heap) (fd : FuncData), Fun K "law" "law" st fa fd → FnOk l.prog w K mg base CX0 k fa fd ["script"] (spF ⟨K, w, tabOf mg⟩ (["script"] : List Str).length lawF)) :
    ∃ fd : FuncData, (∀ (s : Shared) (v : Value), BindsTo s fd ⟨[v], []⟩ [("script", v)]) ∧ ∀ base : Heap, K.In base → base.Ns mainGlobals mg → FnOk l.prog w K mg base CX0 k fa fd ["script"] (spLaw K) := by
  have e := hfa.symm.trans (PySem.W.mg_of X G a)
  cases e
  exact ⟨PySem.W.fnOf "law" "law" (defArgs st) (defBody st) (defScope st) .none kV doc pm an cdv ct, fun s v => .of_eq (hb kV doc pm an cdv ct [v] rfl), fun base _ _ => law_ok rfl (ok base _ (fun_mk lk c kp))⟩
end BF

set_option Elab.async false
set_option linter.all false
set_option autoImplicit false
set_option maxRecDepth 10000
/-! More operations. -/
namespace BF
open PySem PySem.Spec
open PyProof.Rows L2
/-- x += y of ints -/
def gAdd1 (M : Mem) (x y : W) : Option (W × Mem) := match x, y with
  | .int i, .int j => some (.int (i + j), M)
  | _, _ => none
@[simp] theorem gAdd1_int {M : Mem} (i j : Int) : gAdd1 M (.int i) (.int j) = some (.int (i + j), M) := nr rfl
/-- the least of ints -/
def minI : Int → List Int → Int
  | m, [] => m
  | m, x :: xs => minI (if x < m then x else m) xs
theorem minI_spec : ∀ (xs : List Int) (m : Int), minI m xs ∈ m :: xs ∧ ∀ y ∈ m :: xs, minI m xs ≤ y
  | [], m => ⟨List.mem_cons_self, fun y hy => by
      rcases List.mem_cons.mp hy with rfl | h
      · exact Int.le_refl _
      · cases h⟩
  | x :: xs, m => by
    obtain ⟨h1, h2⟩ := minI_spec xs (if x < m then x else m)
    rw [minI]
    refine ⟨?_, fun y hy => ?_⟩
    · rcases List.mem_cons.mp h1 with h | h
      · rw [h]; split
        · exact List.mem_cons_of_mem _ List.mem_cons_self
        · exact List.mem_cons_self
      · exact List.mem_cons_of_mem _ (List.mem_cons_of_mem _ h)
    · have h0 := h2 _ List.mem_cons_self
      rcases List.mem_cons.mp hy with rfl | hy
      · refine Int.le_trans h0 ?_
        split <;> omega
      rcases List.mem_cons.mp hy with rfl | hy
      · refine Int.le_trans h0 ?_
        split <;> omega
      · exact h2 y (List.mem_cons_of_mem _ hy)
theorem minI_eq {m x : Int} {xs : List Int} (h1 : m ∈ x :: xs) (h2 : ∀ y ∈ x :: xs, m ≤ y) : minI x xs = m := by
  obtain ⟨h3, h4⟩ := minI_spec xs x
  have := h2 _ h3
  have := h4 _ h1
  omega
/-- the ints of a list or a tuple -/
def intsAt (M : Mem) : W → Option (List Int)
  | .ref n => match M[n]? with
    | some (.lst ws) => asInts ws
    | some (.ro ws) => asInts ws
    | _ => none
  | _ => none
def pMinL : Fn := fun ws M => match ws with
  | [w] => match intsAt M w with
    | some (m :: ms) => some (.int (minI m ms), M)
    | _ => none
  | _ => none
@[simp] theorem pMinL_eq {M : Mem} (w : W) : pMinL [w] M = match intsAt M w with
    | some (m :: ms) => some (.int (minI m ms), M)
    | _ => none := nr rfl
@[simp] theorem intsAt_eq {M : Mem} (n : Nat) : intsAt M (.ref n) = match M[n]? with
    | some (.lst ws) => asInts ws
    | some (.ro ws) => asInts ws
    | _ => none := nr rfl
def pSum : Fn := fun ws M => match ws with
  | [w] => match intsAt M w with
    | some ms => some (.int ms.sum, M)
    | _ => none
  | _ => none
@[simp] theorem pSum_eq {M : Mem} (w : W) : pSum [w] M = match intsAt M w with
    | some ms => some (.int ms.sum, M)
    | _ => none := nr rfl
@[simp high] theorem pMin_nat {M : Mem} (i j : Nat) : pMin [.int i, .int j] M = some (.int ((min i j : Nat) : Int), M) := by
  rw [pMin_eq]
  congr 3
  split <;> omega
@[simp high] theorem pMax_nat {M : Mem} (i j : Nat) : pMax [.int i, .int j] M = some (.int ((max i j : Nat) : Int), M) := by
  unfold pMax
  simp only
  congr 3
  split <;> omega
@[simp] theorem gLt_nat {M : Mem} (i j : Nat) : gLt M (.int i) (.int j) = some (.bl (decide (i < j)), M) := by
  show some (W.bl (decide ((i : Int) < j)), M) = _
  congr 3
  exact decide_eq_decide.mpr (by omega)
instance : Enc (Option Int) where
  enc o := match o with
    | none => .non
    | some i => .int i
  dec w := match w with
    | .non => some none
    | .int i => some (some i)
    | _ => none
  dec_enc a := by cases a <;> rfl
  enc_dec w a h := by
    split at h
    · cases h; rfl
    · cases h; rfl
    · cases h
  dep := 1
  ok a := by cases a <;> rfl
  eqE a b := by cases a <;> cases b <;> simp [eqP]
@[simp] theorem enc_on : (Enc.enc (none : Option Int) : W) = .non := rfl
@[simp] theorem enc_os (i : Int) : (Enc.enc (some i : Option Int) : W) = .int i := rfl
theorem map_encS (l : List Str) : l.map (Enc.enc : Str → W) = l.map W.str := rfl
@[simp] theorem eqW_strs (M : Mem) (a b : List Str) : eqW M (.tup (a.map W.str)) (.tup (b.map W.str)) = some (decide (a = b)) := eqW_enc (α := List Str) M a b
@[simp] theorem eqW_hist (M : Mem) (a b : List Str) (i j : Nat) : eqW M (.tup [.tup (a.map W.str), .int i]) (.tup [.tup (b.map W.str), .int j]) = some (decide (a = b ∧ i = j)) := by
  have := eqW_enc (α := Hist) M ⟨a, i⟩ ⟨b, j⟩
  rw [show decide (a = b ∧ i = j) = decide ((⟨a, i⟩ : Hist) = ⟨b, j⟩) from decide_eq_decide.mpr (by simp)]
  exact this
theorem map_encI (l : List Int) : l.map (Enc.enc : Int → W) = l.map W.int := rfl
@[simp] theorem small62s : small62 0 = true ∧ small62 1 = true ∧ small62 2 = true ∧ small62 3 = true ∧ small62 4 = true ∧ small62 5 = true ∧ small62 6 = true ∧ small62 7 = true ∧ small62 8 = true ∧ small62 9 = true ∧ small62 10 = true ∧ small62 11 = true ∧ small62 12 = true ∧ small62 13 = true ∧ small62 14 = true ∧ small62 15 = true ∧ small62 16 = true ∧ small62 17 = true ∧ small62 18 = true ∧ small62 19 = true ∧ small62 20 = true ∧ small62 21 = true ∧ small62 22 = true ∧ small62 23 = true ∧ small62 24 = true ∧ small62 25 = true ∧ small62 26 = true ∧ small62 27 = true ∧ small62 28 = true ∧ small62 29 = true ∧ small62 30 = true ∧ small62 31 = true ∧ small62 32 = true ∧ small62 33 = true ∧ small62 34 = true ∧ small62 35 = true ∧ small62 36 = true ∧ small62 37 = true ∧ small62 38 = true ∧ small62 39 = true ∧ small62 40 = true ∧ small62 41 = true ∧ small62 42 = true ∧ small62 43 = true ∧ small62 44 = true ∧ small62 45 = true ∧ small62 46 = true ∧ small62 47 = true ∧ small62 48 = true ∧ small62 49 = true ∧ small62 50 = true ∧ small62 51 = true ∧ small62 52 = true ∧ small62 53 = true ∧ small62 54 = true ∧ small62 55 = true ∧ small62 56 = true ∧ small62 57 = true ∧ small62 58 = true ∧ small62 59 = true ∧ small62 60 = true ∧ small62 61 = true ∧ small62 62 = true ∧ small62 63 = true ∧ small62 64 = true := by
  refine ⟨?_, ?_, ?_, ?_, ?_, ?_, ?_, ?_, ?_, ?_, ?_, ?_, ?_, ?_, ?_, ?_, ?_, ?_, ?_, ?_, ?_, ?_, ?_, ?_, ?_, ?_, ?_, ?_, ?_, ?_, ?_, ?_, ?_, ?_, ?_, ?_, ?_, ?_, ?_, ?_, ?_, ?_, ?_, ?_, ?_, ?_, ?_, ?_, ?_, ?_, ?_, ?_, ?_, ?_, ?_, ?_, ?_, ?_, ?_, ?_, ?_, ?_, ?_, ?_, ?_⟩ <;> rfl
@[simp] theorem small64s : small64 0 = true ∧ small64 1 = true ∧ small64 2 = true ∧ small64 3 = true ∧ small64 4 = true ∧ small64 5 = true ∧ small64 6 = true ∧ small64 7 = true ∧ small64 8 = true ∧ small64 9 = true ∧ small64 10 = true ∧ small64 11 = true ∧ small64 12 = true ∧ small64 13 = true ∧ small64 14 = true ∧ small64 15 = true ∧ small64 16 = true ∧ small64 17 = true ∧ small64 18 = true ∧ small64 19 = true ∧ small64 20 = true ∧ small64 21 = true ∧ small64 22 = true ∧ small64 23 = true ∧ small64 24 = true ∧ small64 25 = true ∧ small64 26 = true ∧ small64 27 = true ∧ small64 28 = true ∧ small64 29 = true ∧ small64 30 = true ∧ small64 31 = true ∧ small64 32 = true := by
  refine ⟨?_, ?_, ?_, ?_, ?_, ?_, ?_, ?_, ?_, ?_, ?_, ?_, ?_, ?_, ?_, ?_, ?_, ?_, ?_, ?_, ?_, ?_, ?_, ?_, ?_, ?_, ?_, ?_, ?_, ?_, ?_, ?_, ?_⟩ <;> rfl
@[simp] theorem ite_sub_nat (a b : Nat) : (if b < a then (a : Int) - b else 0) = ((a - b : Nat) : Int) := by split <;> omega
@[simp high] theorem pMax_sub {M : Mem} (m a b : Nat) : pMax [.int m, .int ((a : Int) - b)] M = some (.int ((max m (a - b) : Nat) : Int), M) := by
  unfold pMax
  simp only
  congr 3
  split <;> omega
/-- a while loop, turn by turn -/
theorem whileL_on {t : CT} {body : CS} {n : Nat} {σ σ' : Sl} {M M1 M' : Mem} (h1 : t σ M = some (true, M1)) (h2 : body σ M1 = some (.nx σ' M')) : whileL t body (n + 1) σ M = whileL t body n σ' M' := by
  rw [whileL, h1]
  simp only [Option.bind_some, if_true, h2]
theorem whileL_off {t : CT} {body : CS} {n : Nat} {σ : Sl} {M M1 : Mem} (h1 : t σ M = some (false, M1)) : whileL t body (n + 1) σ M = some (.nx σ M1) := by
  rw [whileL, h1]
  rfl
section
variable {K : KW}
theorem l_iadd : Lift2 K (rI0 fun i j => .int (i + j)) gAdd1 := lift_int0 (f' := fun i j => .int (i + j)) (fun M x y p h => by
  unfold gAdd1 at h; split at h
  · cases h; exact ⟨_, _, rfl, rfl, rfl⟩
  · cases h) fun _ _ _ _ => .int _
theorem rds_asInts {H : Hp} {loc : List Addr} : ∀ {ns : List Int} {xs : List V}, Rds K H loc xs (ns.map W.int) → xs = ns.map V.int
  | [], [], _ => rfl
  | n :: ns, x :: xs, r => by
    cases r with
    | cons h t =>
      cases h
      rw [rds_asInts t]; rfl
theorem intsAt_seq {H : Hp} {loc : List Addr} {M : Mem} {v : V} {w : W} {ns : List Int} (s : Store K H loc M) (r : Rd K H loc v w) (h : intsAt M w = some ns) : ∃ a, v = .ref a ∧ SqL K H a (ns.map V.int) := by
  unfold intsAt at h
  split at h
  · cases r with
    | ref hn =>
      split at h
      · rename_i zs hz
        obtain ⟨xs, q1, q2⟩ := s.ok _ _ _ hn hz
        have e := rds_asInts (by rw [← asInts_some h]; exact q2)
        subst e
        exact ⟨_, rfl, SqL.of q1⟩
      · rename_i zs hz
        obtain ⟨xs, q1, q2⟩ := s.ok _ _ _ hn hz
        have e := rds_asInts (by rw [← asInts_some h]; exact q2)
        subst e
        exact ⟨_, rfl, q1.sq⟩
      · cases h
  · cases h
theorem n_minL : LiftN K (rMin K) pMinL := by
  intro H loc M ws vs w M' Q s r e aft
  unfold pMinL at e
  split at e
  · split at e
    · rename_i w0 _ m ms hm
      cases e
      match vs, r with
      | [_], .cons r1 .nil =>
        obtain ⟨a, rfl, sq⟩ := intsAt_seq s r1 hm
        refine ⟨a, _, rfl, sq, Nat.zero_lt_succ _, fun z h1 h2 => ?_⟩
        rw [← minI_eq h1 h2]
        exact aft _ H loc s (.int _) .refl (List.prefix_refl _)
    · cases e
  · cases e
theorem n_sum : LiftN K (rSum K) pSum := by
  intro H loc M ws vs w M' Q s r e aft
  unfold pSum at e
  split at e
  · split at e
    · rename_i w0 _ ms hm
      cases e
      match vs, r with
      | [_], .cons r1 .nil =>
        obtain ⟨a, rfl, sq⟩ := intsAt_seq s r1 hm
        exact ⟨a, _, rfl, sq, aft _ H loc s (.int _) .refl (List.prefix_refl _)⟩
    · cases e
  · cases e
end
end BF

set_option Elab.async false
set_option linter.all false
set_option autoImplicit false
set_option maxRecDepth 100000
set_option maxHeartbeats 4000000
/-! A tuple so many times, at any count. -/
namespace BF
open PySem PySem.Spec
open PyProof.Rows L2
theorem mul_none (l : Addr) (items : Array Value) (n : Nat) (dd : Option Addr) (sl : Array (Option Value)) (x : Int) (u : Tok) (c0 : (decide (x < -(2 ^ 63)) || decide (x ≥ 2 ^ 63)) = false) (c1 : (items.isEmpty || x == 1) = false) (c2 : (decide (x ≤ 0) || items.isEmpty) = true) :
    Meets (Builtin.«tuple.__mul__» ⟨[.ref l, .int x u], []⟩) (fun _ R s => s.heap.get? l = some { cls := .type "tuple", dict := dd, data := .seq items n, slots := sl } ∧
      R (.ok (.ret (Value.ref s.heap.objs.size))) { s with heap := s.heap.push { cls := Value.type "tuple", data := Data.seq #[] }, toks := s.toks }) :=
  .of_wp fun prog w A R s h => by
    obtain ⟨hp, g, d, tk, os⟩ := s
    obtain ⟨hl, h⟩ := h
    have f1 := AutoSeq1.idx_int
    wp_walk using wpAny_loadPart' hl
    repeat (first
      | (refine wpAny_ite_false (decide_eq_false (by rw [c0]; exact Bool.false_ne_true)) ?_; wp_walk using wpAny_loadPart' hl)
      | (refine wpAny_ite_false (decide_eq_false (by rw [c1]; exact Bool.false_ne_true)) ?_; wp_walk using wpAny_loadPart' hl)
      | (refine wpAny_ite_true (decide_eq_true c2) ?_; wp_walk using wpAny_loadPart' hl))
    exact ⟨_, rfl, h⟩
theorem mul_once (l : Addr) (items : Array Value) (n : Nat) (dd : Option Addr) (sl : Array (Option Value)) (x : Int) (u : Tok) (c0 : (decide (x < -(2 ^ 63)) || decide (x ≥ 2 ^ 63)) = false) (c1 : (items.isEmpty || x == 1) = true) :
    Meets (Builtin.«tuple.__mul__» ⟨[.ref l, .int x u], []⟩) (fun _ R s => s.heap.get? l = some { cls := .type "tuple", dict := dd, data := .seq items n, slots := sl } ∧
      R (.ok (.ret (Value.ref l))) s) :=
  .of_wp fun prog w A R s h => by
    obtain ⟨hp, g, d, tk, os⟩ := s
    obtain ⟨hl, h⟩ := h
    have f1 := AutoSeq1.idx_int
    wp_walk using wpAny_loadPart' hl
    repeat (first
      | (refine wpAny_ite_false (decide_eq_false (by rw [c0]; exact Bool.false_ne_true)) ?_; wp_walk using wpAny_loadPart' hl)
      | (refine wpAny_ite_true (decide_eq_true c1) ?_; wp_walk using wpAny_loadPart' hl))
    exact ⟨_, rfl, h⟩
def rRepA (K : KW) : R2 := fun x y H Q => ∃ l k xs, x = .ref l ∧ y = .int k ∧ SqT K H l xs ∧ -1000 ≤ k ∧ k ≤ 1000 ∧ xs.length ≤ 1000 ∧ (xs = [] ∨ k = 1 → Q (.ref l) H) ∧ (¬ (xs = [] ∨ k = 1) → ∀ p, H p = none → Q (.ref p) (upd H p (.tup (List.replicate k.toNat xs).flatten)))
section
variable {X : Cx}
theorem op_repA : OpR X (binaryOp .Mult) (rRepA X.KW) := by
  intro pins s σ H x y v u Q I rx ry h
  obtain ⟨l, k, xs, rfl, rfl, hT, h0, h1, hz, q1, q2⟩ := h
  by_cases hk : 2 ≤ k ∧ xs ≠ []
  · exact op_repT pins s σ H _ _ v u Q I rx ry ⟨l, k, xs, rfl, rfl, hT, hk.2, hk.1, h1, hz, q2 (fun z => z.elim hk.2 (fun z => by omega))⟩
  cases rx
  obtain ⟨t, rfl⟩ := ry
  obtain ⟨its, r, ⟨⟨cls, dd, data, sl⟩, ho, hc, n, hd⟩, hs⟩ := I.tuple hT
  simp only at hc hd
  subst hc hd
  have hle : its.length = xs.length := r.length.symm
  have c0 : (decide (k < -(2 ^ 63)) || decide (k ≥ 2 ^ 63)) = false := by
    rw [decide_eq_false (by omega), decide_eq_false (by omega)] <;> rfl
  have hem : its.toArray.isEmpty = decide (xs = []) := by
    cases its with
    | nil => cases xs with
      | nil => rfl
      | cons _ _ => cases hle
    | cons _ _ => cases xs with
      | nil => cases hle
      | cons _ _ => rfl
  by_cases hc1 : xs = [] ∨ k = 1
  · have c1 : (its.toArray.isEmpty || k == 1) = true := by
      rw [hem]
      rcases hc1 with z | z
      · rw [z]; rfl
      · rw [z]; simp
    refine wpAny_binaryOp_repeat_ref (T := "tuple") (U := "int") (by decide) ⟨_, ho, rfl⟩ (fun s' => typeIs_int s' k t) noFill_tuple_mul F.fills_int_mul F.slot_int_rmul repeat_tuple F.slot_int_index.lookup
      (call_meets F.slot_int_rmul (typeIs_int s k t) F.entry_int_rmul (F.args_int_rmul_2 _ _) (int_rmul_tuple k t l its.toArray n dd sl)
        ⟨ho, rfl, ⟨_, ho, rfl⟩, call_meets F.slot_tuple_mul ⟨_, ho, rfl⟩ F.entry_tuple_mul (F.args_tuple_mul_2 _ _) (mul_once l its.toArray n dd sl k t c0 c1) ⟨ho, ?_⟩⟩)
    exact ⟨.ref l, _, I, rfl, q1 hc1⟩
  · have hk0 : k ≤ 0 := by
      by_cases hx : xs = []
      · exact absurd (.inl hx) hc1
      · by_cases h2 : 2 ≤ k
        · exact absurd ⟨h2, hx⟩ hk
        · have : k ≠ 1 := fun z => hc1 (.inr z)
          omega
    have hx : xs ≠ [] := fun z => hc1 (.inl z)
    have c1 : (its.toArray.isEmpty || k == 1) = false := by
      rw [hem, decide_eq_false hx, Bool.false_or]
      exact beq_eq_false_iff_ne.mpr (by omega)
    have c2 : (decide (k ≤ 0) || its.toArray.isEmpty) = true := by rw [decide_eq_true hk0]; rfl
    refine wpAny_binaryOp_repeat_ref (T := "tuple") (U := "int") (by decide) ⟨_, ho, rfl⟩ (fun s' => typeIs_int s' k t) noFill_tuple_mul F.fills_int_mul F.slot_int_rmul repeat_tuple F.slot_int_index.lookup
      (call_meets F.slot_int_rmul (typeIs_int s k t) F.entry_int_rmul (F.args_int_rmul_2 _ _) (int_rmul_tuple k t l its.toArray n dd sl)
        ⟨ho, rfl, ⟨_, ho, rfl⟩, call_meets F.slot_tuple_mul ⟨_, ho, rfl⟩ F.entry_tuple_mul (F.args_tuple_mul_2 _ _) (mul_none l its.toArray n dd sl k t c0 c1 c2) ⟨ho, ?_⟩⟩)
    have qn := q2 hc1
    rw [show k.toNat = 0 by omega] at qn
    refine ⟨.ref s.heap.objs.size, _, I.laid (t' := s.toks) (o := .tup []) (fun b ob q => Heap.get?_push_of_some _ q) (Nat.le_refl _) ?_, rfl, qn _ (I.hok.fresh (Nat.le_refl _))⟩
    exact ⟨Nat.zero_le _, [], .nil, IsTup.new _ _⟩
end
/-- a tuple so many times -/
def gRepA (M : Mem) (x y : W) : Option (W × Mem) := match x, y with
  | .tup a, .int k => if a.length ≤ 1000 ∧ k ≤ 1000 ∧ -1000 ≤ k then some (.tup (List.replicate k.toNat a).flatten, M) else none
  | _, _ => none
@[simp] theorem gRepA_tup {M : Mem} (a : List W) (k : Int) : gRepA M (.tup a) (.int k) = if a.length ≤ 1000 ∧ k ≤ 1000 ∧ -1000 ≤ k then some (.tup (List.replicate k.toNat a).flatten, M) else none := nr rfl
theorem rds_rep {K : KW} {H : Hp} {loc : List Addr} {xs : List V} {ws : List W} (r : Rds K H loc xs ws) : ∀ k : Nat, Rds K H loc (List.replicate k xs).flatten (List.replicate k ws).flatten
  | 0 => .nil
  | k + 1 => by
    rw [List.replicate_succ, List.replicate_succ, List.flatten_cons, List.flatten_cons]
    exact r.append (rds_rep r k)
theorem l_rep {K : KW} : Lift2 K (rRepA K) gRepA := by
  intro H loc M x y v u w M' Q s rx ry e aft
  unfold gRepA at e
  split at e
  · rename_i a k
    split at e
    · rename_i hz
      cases e
      cases ry
      cases rx with
      | tup sq rs =>
        rename_i p xs
        refine ⟨p, k, xs, rfl, rfl, sq, hz.2.2, hz.2.1, by rw [rs.length]; exact hz.1, fun hc => ?_, fun hc l hl => aft_tup s (rds_rep rs k.toNat) hl aft⟩
        refine aft _ H loc s ?_ .refl (List.prefix_refl _)
        have e1 : (List.replicate k.toNat a).flatten = a := by
          rcases hc with hc | hc
          · subst hc
            cases rs
            induction k.toNat with
            | zero => rfl
            | succ n ih => rw [List.replicate_succ, List.flatten_cons, ih]; rfl
          · rw [hc]; simp
        rw [e1]
        exact .tup sq rs
    · cases e
  · cases e
/-- int(x) of an int or a truth value -/
def pInt : Fn := fun ws M => match ws with
  | [.int i] => some (.int i, M)
  | [.bl k] => some (.int (if k then 1 else 0), M)
  | _ => none
@[simp] theorem pInt_bl {M : Mem} (k : Bool) : pInt [.bl k] M = some (.int (if k = true then 1 else 0), M) := nr rfl
theorem n_int {K : KW} : LiftN K (fun xs H Q => (∃ i, xs = [.int i] ∧ Q (.int i) H) ∨ ∃ k, xs = [.bl k] ∧ Q (.int (if k then 1 else 0)) H) pInt := by
  intro H loc M ws vs w M' Q s r e aft
  unfold pInt at e
  split at e
  · cases e
    match vs, r with
    | [_], .cons (.int _) .nil => exact .inl ⟨_, rfl, aft _ H loc s (.int _) .refl (List.prefix_refl _)⟩
  · cases e
    match vs, r with
    | [_], .cons (.bl _) .nil => exact .inr ⟨_, rfl, aft _ H loc s (.int _) .refl (List.prefix_refl _)⟩
  · cases e
end BF

set_option Elab.async false
set_option linter.all false
set_option autoImplicit false
set_option maxRecDepth 100000
/-! The letters of a text; constants of the module; all(..); is of truth values. -/
namespace BF
open PySem PySem.Spec
open PyProof.Rows L2
def charsW (x : Str) : List W := x.cps.toList.map fun c => .str ⟨#[c]⟩
def iStr (e : CE) : CI := fun σ M => (e σ M).bind fun p => match p.1 with
  | .str x => some (charsW x, gdT, p.2)
  | _ => none
@[simp] theorem iStr_eq {σ : Sl} {M : Mem} (e : CE) : iStr e σ M = (e σ M).bind fun p => match p.1 with
  | .str x => some (charsW x, gdT, p.2)
  | _ => none := nr rfl
/-- a letter in a text -/
def gInS (M : Mem) (x y : W) : Option (W × Mem) := match x, y with
  | .str a, .str z => match a.cps.toList with
    | [c] => some (.bl (decide (c ∈ z.cps.toList)), M)
    | _ => none
  | _, _ => none
def gNotInS (M : Mem) (x y : W) : Option (W × Mem) := match x, y with
  | .str a, .str z => match a.cps.toList with
    | [c] => some (.bl (!decide (c ∈ z.cps.toList)), M)
    | _ => none
  | _, _ => none
@[simp] theorem gInS_one {M : Mem} (c : Nat) (z : Str) : gInS M (.str ⟨#[c]⟩) (.str z) = some (.bl (decide (c ∈ z.cps.toList)), M) := nr rfl
@[simp] theorem gNotInS_one {M : Mem} (c : Nat) (z : Str) : gNotInS M (.str ⟨#[c]⟩) (.str z) = some (.bl (!decide (c ∈ z.cps.toList)), M) := nr rfl
/-- truth values only -/
def asBls : List W → Option (List Bool)
  | [] => some []
  | .bl b :: ws => (asBls ws).map (b :: ·)
  | _ :: _ => none
theorem asBls_map : ∀ bs : List Bool, asBls (bs.map W.bl) = some bs
  | [] => rfl
  | b :: bs => by rw [List.map_cons, asBls, asBls_map bs]; rfl
theorem asBls_some : ∀ {ws : List W} {bs : List Bool}, asBls ws = some bs → ws = bs.map W.bl
  | [], bs, h => by cases h; rfl
  | .bl b :: ws, bs, h => by
    rw [asBls] at h
    obtain ⟨cs, h1, rfl⟩ := Option.map_eq_some_iff.mp h
    rw [List.map_cons, ← asBls_some h1]
  | .non :: _, _, h => by cases h
  | .int _ :: _, _, h => by cases h
  | .str _ :: _, _, h => by cases h
  | .tup _ :: _, _, h => by cases h
  | .ref _ :: _, _, h => by cases h
def pAll : Fn := fun ws M => match ws with
  | [.ref n] => match M[n]? with
    | some (.lst ws) => (asBls ws).map fun bs => (.bl (bs.all id), M)
    | _ => none
  | _ => none
@[simp] theorem pAll_ref {M : Mem} (n : Nat) : pAll [.ref n] M = match M[n]? with
    | some (.lst ws) => (asBls ws).map fun bs => (.bl (bs.all id), M)
    | _ => none := nr rfl
def gIsB (M : Mem) (x y : W) : Option (W × Mem) := match x, y with
  | .bl a, .bl b => some (.bl (decide (a = b)), M)
  | _, _ => none
def gNotB (M : Mem) (x y : W) : Option (W × Mem) := match x, y with
  | .bl a, .bl b => some (.bl (!decide (a = b)), M)
  | _, _ => none
@[simp] theorem gIsB_eq {M : Mem} (a b : Bool) : gIsB M (.bl a) (.bl b) = some (.bl (decide (a = b)), M) := nr rfl
@[simp] theorem gNotB_eq {M : Mem} (a b : Bool) : gNotB M (.bl a) (.bl b) = some (.bl (!decide (a = b)), M) := nr rfl
/-- the length of a text -/
def pLenS : Fn := fun ws M => match ws with
  | [.str x] => some (.int x.length, M)
  | _ => none
@[simp] theorem pLenS_eq {M : Mem} (x : Str) : pLenS [.str x] M = some (.int x.length, M) := nr rfl
section
variable {K : KW}
theorem n_lenS : LiftN K (fun xs H Q => ∃ z, xs = [.str z] ∧ z.length ≤ sizeLine ∧ Q (.int z.length) H) pLenS := by
  intro H loc M ws vs w M' Q s r e aft
  unfold pLenS at e
  split at e
  · cases e
    match vs, r with
    | [_], .cons (.str z h1 h2) .nil => exact ⟨z, rfl, by rw [sizeLine_eq]; omega, aft _ H loc s (.int _) .refl (List.prefix_refl _)⟩
  · cases e
theorem l_inS : Lift2 K rInS gInS := by
  intro H loc M x y v u w M' Q s rx ry e aft
  unfold gInS at e
  split at e
  · rename_i a z
    split at e
    · rename_i c hc
      cases e
      cases rx; cases ry
      have : a = ⟨#[c]⟩ := by
        obtain ⟨cs⟩ := a
        congr 1
        exact Array.toList_inj.mp hc
      exact ⟨c, z, by rw [this], rfl, aft _ H loc s (.bl _) .refl (List.prefix_refl _)⟩
    · cases e
  · cases e
theorem l_notInS : Lift2 K rNotInS gNotInS := by
  intro H loc M x y v u w M' Q s rx ry e aft
  unfold gNotInS at e
  split at e
  · rename_i a z
    split at e
    · rename_i c hc
      cases e
      cases rx; cases ry
      have : a = ⟨#[c]⟩ := by
        obtain ⟨cs⟩ := a
        congr 1
        exact Array.toList_inj.mp hc
      exact ⟨c, z, by rw [this], rfl, aft _ H loc s (.bl _) .refl (List.prefix_refl _)⟩
    · cases e
  · cases e
theorem l_isB : Lift2 K rIsB gIsB := by
  intro H loc M x y v u w M' Q s rx ry e aft
  unfold gIsB at e
  split at e
  · cases e
    cases rx; cases ry
    exact ⟨_, _, rfl, rfl, aft _ H loc s (.bl _) .refl (List.prefix_refl _)⟩
  · cases e
theorem l_notB : Lift2 K rNotB gNotB := by
  intro H loc M x y v u w M' Q s rx ry e aft
  unfold gNotB at e
  split at e
  · cases e
    cases rx; cases ry
    exact ⟨_, _, rfl, rfl, aft _ H loc s (.bl _) .refl (List.prefix_refl _)⟩
  · cases e
theorem rds_bls {H : Hp} {loc : List Addr} : ∀ {bs : List Bool} {xs : List V}, Rds K H loc xs (bs.map W.bl) → xs = bs.map V.bl
  | [], [], _ => rfl
  | b :: bs, x :: xs, r => by
    cases r with
    | cons h t =>
      cases h
      rw [rds_bls t]; rfl
theorem n_all : LiftN K (rAll K) pAll := by
  intro H loc M ws vs w M' Q s r e aft
  unfold pAll at e
  split at e
  · split at e
    · rename_i zs hz
      obtain ⟨bs, hb, e⟩ := Option.map_eq_some_iff.mp e
      cases e
      match vs, r with
      | [_], .cons (.ref (a := a) hn) .nil =>
        obtain ⟨xs, q1, q2⟩ := s.ok _ _ _ hn hz
        have e := rds_bls (by rw [← asBls_some hb]; exact q2)
        subst e
        exact ⟨a, bs, rfl, SqL.of q1, aft _ H loc s (.bl _) .refl (List.prefix_refl _)⟩
    · cases e
  · cases e
theorem walk_of_str {H : Hp} {loc : List Addr} {x : Str} (hx : PyData.strOk x = true) : WalkW K H loc (Its x) (charsW x) gdT :=
  fun i H1 loc1 M s ex l _ => ⟨fun w hw => by
    unfold charsW at hw
    rw [List.getElem?_map] at hw
    obtain ⟨c, hc, rfl⟩ := Option.map_eq_some_iff.mp hw
    have hc2 : x.cps[i]? = some c := by rw [← Array.getElem?_toList]; exact hc
    have hi : i < x.cps.size := by
      have := (List.getElem?_eq_some_iff.mp hc).1
      simpa using this
    refine ⟨hi, fun v H2 y => ?_⟩
    obtain ⟨rfl, d, hd, rfl⟩ := y
    rw [hc2] at hd
    cases hd
    have hcl : c < 0x110000 := by
      have h2 := hx
      unfold PyData.strOk at h2
      rw [Array.all_eq_true] at h2
      obtain ⟨h3, h4⟩ := Array.getElem?_eq_some_iff.mp hc2
      have := h2 i h3
      rw [h4] at this
      exact of_decide_eq_true this
    exact ⟨.str _ (by simpa [PyData.strOk] using hcl) (by show 1 ≤ _; decide), s, .refl⟩, fun hl => by
      unfold charsW at hl
      show x.cps.size ≤ i
      simpa using hl⟩
end
section
variable {X : Cx} {tg iter : Expr} {ca : CE}
theorem i_str (h : EV X iter ca) : EI X tg iter (iStr ca) := (pi_str h).mono fun σV H R ⟨loc, σ, M, ws, gd, M', rel, e, aft⟩ => by
  obtain ⟨p, hp, e⟩ := bind_some e
  refine run1 rel hp fun v H1 loc1 rel1 rd1 ex1 l1 => ?_
  split at e
  · rename_i zs hz
    cases e
    rw [hz] at rd1
    cases rd1 with
    | str _ h1 h2 => exact ⟨_, rfl, aft _ H1 loc1 rel1.st ex1 l1 (walk_of_str h1)⟩
  · cases e
/-- a constant of the module -/
def GlobV (mg : Str → Option Value) (x : Str) (v : V) : Prop := ∃ u, mg x = some u ∧ RelV v u
theorem r_globI {x : Str} {i : Int} {pos : Pos} (hg : Gl X x) (hm : GlobV X.mg x (.int i)) (hd : (x == ("__debug__" : Str)) = false := by decide) : EV X (.Name x pos) (eL (.int i)) := by
  obtain ⟨u, h1, h2⟩ := hm
  exact lit_aux (fun _ _ => .int i) (pe_glob hg h1 h2 hd)
theorem r_globS {x z : Str} {pos : Pos} (hg : Gl X x) (hm : GlobV X.mg x (.str z)) (h : PyData.strOk z = true := by decide +kernel) (h2 : z.length ≤ 16777216 := by decide +kernel) (hd : (x == ("__debug__" : Str)) = false := by decide) : EV X (.Name x pos) (eL (.str z)) := by
  obtain ⟨u, h1, h3⟩ := hm
  exact lit_aux (fun _ _ => .str z h h2) (pe_glob hg h1 h3 hd)
end
end BF

set_option Elab.async false
set_option linter.all false
set_option autoImplicit false
set_option maxRecDepth 100000
/-! tuple(range(n)). -/
namespace BF
open PySem PySem.Spec
open PyProof.Rows L2
def pTupRg : Fn := fun ws M => match ws with
  | [.int n] => if n.natAbs ≤ 16777216 then some (.tup (rangeW 0 n.toNat), M) else none
  | _ => none
@[simp] theorem pTupRg_eq {M : Mem} (n : Int) : pTupRg [.int n] M = if n.natAbs ≤ 16777216 then some (.tup (rangeW 0 n.toNat), M) else none := nr rfl
theorem rds_map {K : KW} {H : Hp} {loc : List Addr} {f : Nat → V} {g : Nat → W} (h : ∀ i, Rd K H loc (f i) (g i)) : ∀ l : List Nat, Rds K H loc (l.map f) (l.map g)
  | [] => .nil
  | a :: l => .cons (h a) (rds_map h l)
theorem r_tupRg {X : Cx} {e : Expr} {ca : CE} {p p2 pos pos2 : Pos} (hg : Gl X "tuple") (hm : X.mg "tuple" = none) (hg2 : Gl X "range") (hm2 : X.mg "range" = none) (ha : EV X e ca) (hc : X.calm = true := by rfl)
    (na2 : starEach [e] X.env = (false, eval e X.env) :: starEach [] X.env := by rfl) (na : starEach [.Call (.Name "range" p2) [e] [] pos2] X.env = (false, eval (.Call (.Name "range" p2) [e] [] pos2) X.env) :: starEach [] X.env := by rfl) :
    EV X (.Call (.Name "tuple" p) [.Call (.Name "range" p2) [e] [] pos2] [] pos) (eN pTupRg [ca]) :=
  (pe_tupRg hc hg hm (prg_1 hg2 hm2 ha na2) na).mono fun σV H Q ⟨loc, σ, M, w, M', rel, e, aft⟩ => by
    obtain ⟨q, hq, e⟩ := bind_some e
    obtain ⟨r, hr, hq⟩ := bind_some hq
    obtain ⟨t, ht, hq⟩ := bind_some hq
    cases ht
    cases hq
    refine run1 rel hr fun v H1 loc1 rel1 rd1 ex1 l1 => ?_
    unfold pTupRg at e
    simp only at e
    split at e
    · rename_i n hn
      split at e
      · rename_i hz
        cases e
        obtain ⟨hn1, _⟩ := List.cons.inj hn
        rw [hn1] at rd1
        cases rd1
        refine ⟨n, rfl, ⟨by omega, by omega, by omega, by omega, by omega⟩, fun l hl => ?_⟩
        refine aft_tup rel1.st ?_ hl (aft.after ex1 l1)
        unfold rgV rangeW
        rw [Int.sub_zero]
        exact rds_map (fun i => .int _) _
      · cases e
    · cases e
end BF

set_option Elab.async false
set_option linter.all false
set_option autoImplicit false
set_option maxRecDepth 100000
/-! sum(..) of a list or of a tuple. -/
namespace BF
open PySem PySem.Spec
open PyProof.Rows L2
def rSumT (K : KW) : List V → Hp → VK → Prop := fun vs H Q => ∃ (a : Addr) (ns : List Int), vs = [V.ref a] ∧ SqT K H a (ns.map V.int) ∧ Q (.int ns.sum) H
theorem cr_sumT {X : Cx} (hc : X.calm = true) : CallR X (.builtin "sum") (rSumT X.KW) := by
  intro pins s σ H vs us Q I r h
  obtain ⟨a, ns, rfl, hs, q⟩ := h
  obtain ⟨its, rv, hl, _⟩ := I.tuple hs
  rw [Vals.ref1 r]
  have hi := rv.ints
  obtain ⟨xs, e⟩ := hi.allInts.items
  have hn : numsOf (intItems xs).toList = ns := by rw [← e]; exact hi.numsOf
  rw [nums_intItems] at hn
  rw [e] at hl
  refine PySem.W.ktm_sumG (I.ok.hd hc) hl fun h' tk t' hk => ?_
  rw [preSum_eq, List.take_of_length_le (by simp), hn]
  exact ⟨.int _, H, I.kept hk, ⟨_, rfl⟩, q⟩
theorem cr_sumW {X : Cx} (hc : X.calm = true) : CallR X (.builtin "sum") (fun vs H Q => rSum X.KW vs H Q ∨ rSumT X.KW vs H Q) := by
  intro pins s σ H vs us Q I r h
  rcases h with h | h
  · exact cr_sum hc pins s σ H vs us Q I r h
  · exact cr_sumT hc pins s σ H vs us Q I r h
def pSumW : Fn := fun ws M => match ws with
  | [.tup us] => (asInts us).map fun ns => (.int ns.sum, M)
  | [.ref n] => (intsAt M (.ref n)).map fun ns => (.int ns.sum, M)
  | _ => none
@[simp] theorem pSumW_tup {M : Mem} (us : List W) : pSumW [.tup us] M = (asInts us).map fun ns => (.int ns.sum, M) := nr rfl
@[simp] theorem pSumW_ref {M : Mem} (n : Nat) : pSumW [.ref n] M = (intsAt M (.ref n)).map fun ns => (.int ns.sum, M) := nr rfl
theorem n_sumW {K : KW} : LiftN K (fun vs H Q => rSum K vs H Q ∨ rSumT K vs H Q) pSumW := by
  intro H loc M ws vs w M' Q s r e aft
  unfold pSumW at e
  split at e
  · rename_i us
    obtain ⟨ns, hn, e⟩ := Option.map_eq_some_iff.mp e
    cases e
    match vs, r with
    | [_], .cons (.tup sq rs) .nil =>
      have e := rds_asInts (by rw [← asInts_some hn]; exact rs)
      subst e
      exact .inr ⟨_, ns, rfl, sq, aft _ H loc s (.int _) .refl (List.prefix_refl _)⟩
  · obtain ⟨ns, hn, e⟩ := Option.map_eq_some_iff.mp e
    cases e
    match vs, r with
    | [_], .cons r1 .nil =>
      obtain ⟨a, rfl, sq⟩ := intsAt_seq s r1 hn
      exact .inl ⟨a, ns, rfl, sq, aft _ H loc s (.int _) .refl (List.prefix_refl _)⟩
  · cases e
end BF

set_option Elab.async false
set_option linter.all false
set_option autoImplicit false
set_option maxRecDepth 100000
/-! Dicts whose keys are numbers and texts. -/
namespace BF
open PySem PySem.Spec
open PyProof.Rows L2
theorem hu1 {k : Nat} {A : Around} (hr : Room k A) : A.units + 1 < cLine := by have := hr.un; omega
def keyOf : W → Option Key
  | .int i => some (.inl i)
  | .str x => some (.inr x)
  | _ => none
@[simp] theorem keyOf_keyW (k : Key) : keyOf (keyW k) = some k := by cases k <;> rfl
theorem keyOf_some {w : W} {k : Key} (h : keyOf w = some k) : w = keyW k := by
  cases w <;> simp [keyOf] at h <;> subst h <;> rfl
/-- what stands at the key -/
def valW : List (W × W) → Key → Option W
  | [], _ => none
  | p :: ps, k => if keyOf p.1 = some k then some p.2 else valW ps k
/-- in its place, or at the end -/
def putW (ws : List (W × W)) (k : Key) (w : W) : List (W × W) :=
  if (ws.any fun p => decide (keyOf p.1 = some k)) = true then ws.map fun p => if keyOf p.1 = some k then (p.1, w) else p else ws ++ [(keyW k, w)]
section
variable {K : KW} {H : Hp} {loc : List Addr}
theorem rd_key {v : V} {w : W} {k : Key} (r : Rd K H loc v w) (h : keyOf w = some k) : v = kV k := by
  cases r <;> simp [keyOf] at h <;> subst h <;> rfl
theorem val_rel : ∀ {kvs : List (Key × V)} {ws : List (W × W)} {k : Key}, kvs.map (fun p => keyW p.1) = ws.map (·.1) → Rds K H loc (kvs.map (·.2)) (ws.map (·.2)) →
    (valW ws k = none → valV kvs k = none) ∧ ∀ w, valW ws k = some w → ∃ v, valV kvs k = some v ∧ Rd K H loc v w
  | [], [], k, _, _ => ⟨fun _ => rfl, fun w h => by cases h⟩
  | [], _ :: _, _, h, _ => by cases h
  | _ :: _, [], _, h, _ => by cases h
  | p :: kvs, q :: ws, k, h, r => by
    simp only [List.map_cons, List.cons.injEq] at h
    cases r with
    | cons r1 r2 =>
      obtain ⟨h1, h2⟩ := val_rel (k := k) h.2 r2
      have hk : keyOf q.1 = some p.1 := by rw [← h.1, keyOf_keyW]
      rw [valW, hk]
      by_cases e : p.1 = k
      · rw [if_pos (by rw [e]), valV_pos e]
        exact ⟨fun z => (by cases z), fun w z => (by cases z; exact ⟨_, rfl, r1⟩)⟩
      · rw [if_neg (by simpa using e), valV_neg e]
        exact ⟨h1, h2⟩
end
/-- {} -/
def eDict : CE := fun _ M => some (.ref M.length, M ++ [.dK []])
@[simp] theorem eDict_eq {σ : Sl} {M : Mem} : eDict σ M = some (.ref M.length, M ++ [.dK []]) := nr rfl
/-- d[k] -/
def gGet (M : Mem) (x y : W) : Option (W × Mem) := match x, keyOf y with
  | .ref n, some k => match M[n]? with
    | some (.dK ws) => (valW ws k).map fun w => (w, M)
    | some (.dT .lockF ws) => (valW ws k).map fun w => (w, M)
    | _ => none
  | _, _ => none
section
variable {X : Cx} {a b : Expr} {ca cb : CE} {pos : Pos}
theorem r_dict : EV X (.Dict [] [] pos) eDict := pe_dnewK.mono fun σV H Q ⟨loc, σ, M, w, M', rel, e, aft⟩ => by
  cases e
  intro p hp
  refine aft _ _ (loc ++ [p]) (rel.st.new hp ⟨[], upd_same, rfl, fun _ h => (by cases h), .nil⟩) (.ref (last_get rel.st.len.symm)) (.new hp) (List.prefix_append _ _)
theorem r_get (hu : X.A.units + 1 < cLine) (ha : EV X a ca) (hb : EV X b cb) (hs : NoSl b) : EV X (.Subscript a b pos) (e2 gGet ca cb) := (pe_dget hu ha hb hs).mono fun σV H Q ⟨loc, σ, M, w, M', rel, e, aft⟩ => by
  obtain ⟨p, hp, e⟩ := bind_some e
  obtain ⟨q, hq, e⟩ := bind_some e
  refine run1 rel hp fun v H1 loc1 rel1 rd1 ex1 l1 => run1 rel1 hq fun u H2 loc2 rel2 rd2 ex2 l2 => ?_
  unfold gGet at e
  split at e
  · rename_i n k hn hk
    split at e
    · rename_i ws hw
      obtain ⟨x, hx, e⟩ := Option.map_eq_some_iff.mp e
      cases e
      rw [hn] at rd1
      cases rd1 with
      | ref hl =>
        obtain ⟨kvs, h1, h2, h3, h4⟩ := rel2.st.ok _ _ _ (pre_get l2 hl) hw
        obtain ⟨v2, g1, g2⟩ := (val_rel h2 h4).2 _ hx
        exact ⟨_, v2, rfl, .inl ⟨kvs, k, .inl h1, rd_key rd2 hk, g1.symm⟩, aft _ H2 loc2 rel2.st g2 (ex1.trans ex2) (l1.trans l2)⟩
    · rename_i ws hw
      obtain ⟨x, hx, e⟩ := Option.map_eq_some_iff.mp e
      cases e
      rw [hn] at rd1
      cases rd1 with
      | ref hl =>
        obtain ⟨od, kvs, h1, h2⟩ := rel2.st.ok _ _ _ (pre_get l2 hl) hw
        obtain ⟨v2, g1, g2⟩ := (val_rel h2.keys h2.vs).2 _ hx
        exact ⟨_, v2, rfl, .inl ⟨kvs, k, .inr ⟨od, h1⟩, rd_key rd2 hk, g1.symm⟩, aft _ H2 loc2 rel2.st g2 (ex1.trans ex2) (l1.trans l2)⟩
    · cases e
  · cases e
/-- a display of three texts -/
def eDisp3 (k1 v1 k2 v2 k3 v3 : Str) : CE := fun _ M => some (.ref M.length, M ++ [.dK [(.str k1, .str v1), (.str k2, .str v2), (.str k3, .str v3)]])
@[simp] theorem eDisp3_eq {σ : Sl} {M : Mem} (k1 v1 k2 v2 k3 v3 : Str) : eDisp3 k1 v1 k2 v2 k3 v3 σ M = some (.ref M.length, M ++ [.dK [(.str k1, .str v1), (.str k2, .str v2), (.str k3, .str v3)]]) := nr rfl
theorem upd_again {H : Hp} {p : Addr} {a b : HO} : upd (upd H p a) p b = upd H p b := by
  funext x
  by_cases h : x = p
  · subst h; rw [upd_same, upd_same]
  · rw [upd_ne h, upd_ne h, upd_ne h]
theorem merge3 {k1 k2 k3 : Str} {v1 v2 v3 : V} (h12 : k1 ≠ k2) (h13 : k1 ≠ k3) (h23 : k2 ≠ k3) : mergeK [] [(.inr k1, v1), (.inr k2, v2), (.inr k3, v3)] = [((.inr k1 : Key), v1), (.inr k2, v2), (.inr k3, v3)] := by
  have e12 : ¬ ((Sum.inr k1 : Key) = Sum.inr k2) := fun z => h12 (Sum.inr.inj z)
  have e13 : ¬ ((Sum.inr k1 : Key) = Sum.inr k3) := fun z => h13 (Sum.inr.inj z)
  have e23 : ¬ ((Sum.inr k2 : Key) = Sum.inr k3) := fun z => h23 (Sum.inr.inj z)
  simp [mergeK, putK, h12, h13, h23]
theorem r_disp3 {k1 v1 k2 v2 k3 v3 : Str} {i1 i2 i3 j1 j2 j3 p1 p2 p3 q1 q2 q3} (h12 : k1 ≠ k2 := by decide +kernel) (h13 : k1 ≠ k3 := by decide +kernel) (h23 : k2 ≠ k3 := by decide +kernel)
    (o1 : KeyOk (.inr k1) := by exact ⟨by decide +kernel, by decide +kernel⟩) (o2 : KeyOk (.inr k2) := by exact ⟨by decide +kernel, by decide +kernel⟩) (o3 : KeyOk (.inr k3) := by exact ⟨by decide +kernel, by decide +kernel⟩)
    (w1 : KeyOk (.inr v1) := by exact ⟨by decide +kernel, by decide +kernel⟩) (w2 : KeyOk (.inr v2) := by exact ⟨by decide +kernel, by decide +kernel⟩) (w3 : KeyOk (.inr v3) := by exact ⟨by decide +kernel, by decide +kernel⟩) :
    EV X (.Dict [some (.Constant (.str k1) i1 p1), some (.Constant (.str k2) i2 p2), some (.Constant (.str k3) i3 p3)] [.Constant (.str v1) j1 q1, .Constant (.str v2) j2 q2, .Constant (.str v3) j3 q3] pos) (eDisp3 k1 v1 k2 v2 k3 v3) :=
  (pe_disp (pps_cons pe_str pe_str (pps_cons pe_str pe_str (pps_cons pe_str pe_str pps_nil))) rfl rfl (by simp) (by simp)).mono fun σV H Q ⟨loc, σ, M, w, M', rel, e, aft⟩ => by
    cases e
    intro p hp
    refine ⟨upd_same, [(.inr k1, .str v1), (.inr k2, .str v2), (.inr k3, .str v3)], rfl, by simp, ?_⟩
    rw [upd_again, merge3 h12 h13 h23]
    refine aft _ _ (loc ++ [p]) (rel.st.new hp ⟨_, upd_same, rfl, fun q hq => ?_, .cons (.str _ w1.1 w1.2) (.cons (.str _ w2.1 w2.2) (.cons (.str _ w3.1 w3.2) .nil))⟩) (.ref (last_get rel.st.len.symm)) (.new hp) (List.prefix_append _ _)
    rcases List.mem_cons.mp hq with rfl | hq
    · exact o1
    rcases List.mem_cons.mp hq with rfl | hq
    · exact o2
    rw [List.mem_singleton] at hq
    rw [hq]; exact o3
end
end BF

set_option Elab.async false
set_option linter.all false
set_option autoImplicit false
set_option maxRecDepth 100000
/-! Dicts whose keys are nested tuples. -/
namespace BF
open PySem PySem.Spec
open PyProof.Rows L2
/-- a tuple as such a key -/
def keyT (w : W) : Option NestedKey := match w with
  | .tup ws => match keyNs ws with
    | some ks => if (NestedKey.tup ks).depth ≤ 8 then some (.tup ks) else none
    | none => none
  | _ => none
theorem keyT_some {w : W} {k : NestedKey} (h : keyT w = some k) : keyN w = some k ∧ k.depth ≤ 8 ∧ ∃ ws, w = .tup ws := by
  unfold keyT at h
  split at h
  · split at h
    · rename_i ks hk
      split at h
      · rename_i hd
        cases h
        exact ⟨by rw [keyN, hk]; rfl, hd, _, rfl⟩
      · cases h
    · cases h
  · cases h
/-- what stands at the key -/
def valN (ws : List (W × W)) (k : NestedKey) : Option W := (ws.find? fun p => decide (keyN p.1 = some k)).map (·.2)
/-- in its place, or at the end -/
def putN (ws : List (W × W)) (k : NestedKey) (x w : W) : List (W × W) :=
  if (valN ws k).isSome = true then ws.map fun p => if keyN p.1 = some k then (p.1, w) else p else ws ++ [(x, w)]
def valE (es : NE) (k : NestedKey) : Option V := (es.find? fun e => decide (e.1 = k)).map (·.2.2)
def putE (es : NE) (k : NestedKey) (b : Addr) (v : V) : NE :=
  if (valE es k).isSome = true then es.map fun e => if e.1 = k then (e.1, e.2.1, v) else e else es ++ [(k, b, v)]
theorem paired_get? {α β : Type} {G : α → β → Prop} {l₁ : List α} {l₂ : List β} (h : Paired G l₁ l₂) {i : Nat} {b : β} (e : l₂[i]? = some b) : ∃ a, l₁[i]? = some a ∧ G a b := by
  induction h generalizing i with
  | nil => simp at e
  | cons r t ih =>
    cases i with
    | zero => simp only [List.getElem?_cons_zero, Option.some.injEq] at e; subst e; exact ⟨_, rfl, r⟩
    | succ i => simp only [List.getElem?_cons_succ] at e ⊢; exact ih e
section
variable {X : Cx} {pins : List (Addr × Obj)} {σ : L2.St} {H : Hp} {s : Shared} {loc : List Addr}
mutual
theorem nest_is (I : Inv X pins σ H s) : ∀ {w : W} {v : V} {u : Value} {k : NestedKey}, Rd X.KW H loc v w → keyN w = some k → RelV v u → NestedIs s.heap k u
  | .non, _, _, _, r, e, q => by cases r; cases e; cases q; exact .none
  | .bl b, _, _, _, r, e, q => by cases r; cases e; cases q; exact .bool rfl
  | .int i, _, _, _, r, e, q => by cases r; cases e; obtain ⟨t, rfl⟩ := q; exact .int i t
  | .str x, _, _, _, r, e, q => by cases r; cases e; obtain ⟨t, rfl⟩ := q; exact .text x t
  | .tup ws, _, _, _, r, e, q => by
    cases r with
    | tup sq rs =>
      rw [keyN] at e
      obtain ⟨ks, hk, rfl⟩ := Option.map_eq_some_iff.mp e
      cases (show _ = Value.ref _ from q)
      obtain ⟨its, rv, ⟨o, ho, hc, n, hd⟩, _⟩ := I.tuple sq
      exact .tup ho hc hd (by rw [List.toList_toArray]; exact nest_all I rs hk rv)
  | .ref _, _, _, _, r, e, q => by cases e
theorem nest_all (I : Inv X pins σ H s) : ∀ {ws : List W} {vs : List V} {us : List Value} {ks : List NestedKey}, Rds X.KW H loc vs ws → keyNs ws = some ks → Vals vs us → NestedAll s.heap ks us
  | [], _, _, _, r, e, q => by cases r; cases e; cases q; exact .nil
  | w :: ws, _, _, _, r, e, q => by
    cases r with
    | cons r1 r2 =>
      cases q with
      | cons q1 q2 =>
        rw [keyNs] at e
        split at e
        · rename_i k ks h1 h2
          cases e
          exact .cons (nest_is I r1 h1 q1) (nest_all I r2 h2 q2)
        · cases e
end
theorem nest_key (I : Inv X pins σ H s) {w : W} {v : V} {u : Value} {k : NestedKey} (r : Rd X.KW H loc v w) (h : keyT w = some k) (q : RelV v u) : ∃ a, v = .ref a ∧ u = .ref a ∧ (nestedKind X.prog X.w).is s.heap k a := by
  obtain ⟨h1, h2, ws, rfl⟩ := keyT_some h
  have n := nest_is I r h1 q
  cases r with
  | @tup a xs _ sq rs =>
    cases (show _ = Value.ref _ from q)
    exact ⟨a, rfl, rfl, n, h2⟩
theorem nest_dict (I : Inv X pins σ H s) {es : NE} {ws : List (W × W)} {a : Addr} (n : NestOk X.KW H loc es ws) (e : L2.Rd H a (nestO X.w a es)) :
    es.length ≤ sizeLine ∧ (a == sysModules) = false ∧ ∃ xs, NP es xs ∧ s.heap.DictOfH (nestedKind X.prog X.w) a xs := by
  have ob : ObjOk X.prog X.w H s.heap a (nestO X.w a es) := rd_of I.hok e
  obtain ⟨⟨z, hd, xs, np, o, en, ep, h1, h2, h3, h4, h5⟩, _⟩ := ob
  refine ⟨z, hd, xs, np, o, en, ep, h1, h2, h3, h4, fun x hx => ?_, h5⟩
  obtain ⟨i, hi⟩ := List.getElem?_of_mem hx
  obtain ⟨q, hq, e1, e2, _⟩ := paired_get? np hi
  have k1 : (es.map fun e => some e.1)[i]? = some (some q.1) := by rw [List.getElem?_map, hq]; rfl
  have k2 : (es.map fun e => V.ref e.2.1)[i]? = some (.ref q.2.1) := by rw [List.getElem?_map, hq]; rfl
  obtain ⟨w, hw, rw'⟩ := n.ks.get' k2
  rw [n.keys, List.getElem?_map] at k1
  rw [List.getElem?_map] at hw
  cases hp : ws[i]? with
  | none => rw [hp] at hw; cases hw
  | some p =>
    rw [hp] at k1 hw
    have k3 : keyN p.1 = some q.1 := Option.some.inj k1
    have k4 : p.1 = w := Option.some.inj hw
    rw [← k4] at rw'
    have := nest_is I rw' k3 (u := .ref q.2.1) rfl
    rw [e1, e2] at this
    exact ⟨this, by rw [← e1]; exact n.dep q (List.mem_of_getElem? hq)⟩
theorem np_val {es : NE} {xs : List (NestedKey × Addr × Value)} (r : NP es xs) (k : NestedKey) : RelO (valE es k) ((atKey xs k).map (·.2)) := by
  unfold valE atKey
  induction r with
  | nil => trivial
  | @cons p q ps qs h t ih =>
    obtain ⟨e1, e2, e3⟩ := h
    by_cases e : p.1 = k
    · rw [List.find?_cons_of_pos (by simpa using e), List.find?_cons_of_pos (by rw [← e1]; simpa using e)]
      exact e3
    · rw [List.find?_cons_of_neg (by simpa using e), List.find?_cons_of_neg (by rw [← e1]; simpa using e)]
      exact ih
theorem np_put {es : NE} {xs : List (NestedKey × Addr × Value)} (r : NP es xs) (k : NestedKey) (b : Addr) {v : V} {u : Value} (q : RelV v u) : NP (putE es k b v) (storedH xs k b u) := by
  unfold putE storedH
  have e : (valE es k).isSome = (atKey xs k).isSome := by
    have := np_val r k
    rw [this.isSome_eq, Option.isSome_map]
  rw [e]
  split
  · rename_i hz
    clear e hz
    induction r with
    | nil => exact .nil
    | @cons p x ps qs h t ih =>
      rw [List.map_cons, List.map_cons]
      refine .cons ?_ ih
      obtain ⟨e1, e2, e3⟩ := h
      unfold putAt
      by_cases e : p.1 = k
      · rw [if_pos e, if_pos (by rw [← e1]; exact e)]; exact ⟨e1, e2, q⟩
      · rw [if_neg e, if_neg (by rw [← e1]; exact e)]; exact ⟨e1, e2, e3⟩
  · exact Paired.snoc r ⟨rfl, rfl, q⟩
theorem ok_val {es : NE} {ws : List (W × W)} {K : KW} (n : NestOk K H loc es ws) (k : NestedKey) : (valN ws k = none → valE es k = none) ∧ ∀ w, valN ws k = some w → ∃ v, valE es k = some v ∧ Rd K H loc v w := by
  have h1 := n.keys
  have h4 := n.vs
  clear n
  unfold valN valE
  induction es generalizing ws with
  | nil =>
    cases ws with
    | nil => exact ⟨fun _ => rfl, fun w h => (by cases h)⟩
    | cons _ _ => cases h1
  | cons e es ih =>
    cases ws with
    | nil => cases h1
    | cons p ws =>
      simp only [List.map_cons, List.cons.injEq] at h1 h4
      cases h4 with
      | cons r1 r2 =>
        by_cases he : e.1 = k
        · have hp : keyN p.1 = some k := by rw [← h1.1, he]
          rw [List.find?_cons_of_pos (by simpa using hp), List.find?_cons_of_pos (by simpa using he)]
          exact ⟨fun z => (by cases z), fun w z => (by cases z; exact ⟨_, rfl, r1⟩)⟩
        · have hp : ¬ keyN p.1 = some k := by rw [← h1.1]; simpa using he
          rw [List.find?_cons_of_neg (by simpa using hp), List.find?_cons_of_neg (by simpa using he)]
          exact ih h1.2 r2
theorem rds_map2 {K : KW} {es : NE} {ws : List (W × W)} {k : NestedKey} {v : V} {w : W} (r : Rd K H loc v w) (hk : es.map (fun e => some e.1) = ws.map (fun p => keyN p.1)) (h : Rds K H loc (es.map fun e => e.2.2) (ws.map (·.2))) :
    Rds K H loc ((es.map fun e => if e.1 = k then (e.1, e.2.1, v) else e).map fun e => e.2.2) ((ws.map fun p => if keyN p.1 = some k then (p.1, w) else p).map (·.2)) := by
  induction es generalizing ws with
  | nil =>
    cases ws with
    | nil => exact .nil
    | cons _ _ => cases hk
  | cons e es ih =>
    cases ws with
    | nil => cases hk
    | cons p ws =>
      simp only [List.map_cons, List.cons.injEq] at hk h ⊢
      cases h with
      | cons r1 r2 =>
        refine .cons ?_ (ih hk.2 r2)
        by_cases he : e.1 = k
        · rw [if_pos he, if_pos (by rw [← hk.1, he])]; exact r
        · rw [if_neg he, if_neg (by rw [← hk.1]; simpa using he)]; exact r1
theorem ok_put {K : KW} {es : NE} {ws : List (W × W)} {k : NestedKey} {b : Addr} {v : V} {x w : W} (n : NestOk K H loc es ws) (hx : keyN x = some k) (hd : k.depth ≤ 8) (rx : Rd K H loc (.ref b) x) (rv : Rd K H loc v w) : NestOk K H loc (putE es k b v) (putN ws k x w) := by
  have e : (valE es k).isSome = (valN ws k).isSome := by
    obtain ⟨a1, a2⟩ := ok_val n k
    cases h : valN ws k with
    | none => rw [a1 h]; rfl
    | some y => obtain ⟨v, hv, _⟩ := a2 y h; rw [hv]; rfl
  unfold putE putN
  rw [e]
  split
  · have e1 : (fun e : NestedKey × Addr × V => (if e.1 = k then (e.1, e.2.1, v) else e).1) = fun e => e.1 := by funext e; split <;> rfl
    have e2 : (fun e : NestedKey × Addr × V => (if e.1 = k then (e.1, e.2.1, v) else e).2.1) = fun e => e.2.1 := by funext e; split <;> rfl
    have e3 : (fun p : W × W => (if keyN p.1 = some k then (p.1, w) else p).1) = fun p => p.1 := by funext p; split <;> rfl
    refine ⟨?_, fun q hq => ?_, ?_, rds_map2 rv n.keys n.vs⟩
    · rw [List.map_map, List.map_map]
      have := n.keys
      refine Eq.trans (List.map_congr_left fun e _ => ?_) (this.trans (List.map_congr_left fun p _ => ?_))
      · exact congrArg some (congrFun e1 e)
      · exact congrArg keyN (congrFun e3 p).symm
    · obtain ⟨q0, hq0, rfl⟩ := List.mem_map.mp hq
      have := n.dep q0 hq0
      split <;> exact this
    · have := n.ks
      rw [List.map_map, List.map_map]
      rw [show ((fun e : NestedKey × Addr × V => V.ref e.2.1) ∘ fun e => if e.1 = k then (e.1, e.2.1, v) else e) = fun e => V.ref e.2.1 from funext fun e => congrArg V.ref (congrFun e2 e)]
      rw [show ((fun p : W × W => p.1) ∘ fun p => if keyN p.1 = some k then (p.1, w) else p) = fun p => p.1 from e3]
      exact this
  · refine ⟨?_, fun q hq => ?_, ?_, ?_⟩
    · rw [List.map_append, List.map_append, n.keys]
      simp only [List.map_cons, List.map_nil, hx]
    · rcases List.mem_append.mp hq with hq | hq
      · exact n.dep q hq
      · rw [List.mem_singleton] at hq; subst hq; exact hd
    · rw [List.map_append, List.map_append]
      exact n.ks.append (.cons rx .nil)
    · rw [List.map_append, List.map_append]
      exact n.vs.append (.cons rv .nil)
theorem putE_length (es : NE) (k : NestedKey) (b : Addr) (v : V) : (putE es k b v).length ≤ es.length + 1 := by
  unfold putE
  split <;> simp
theorem nest_new {P : Program} {w : World} {H' : Hp} {h' : Heap} {a : Addr} {es : NE} {xs : List (NestedKey × Addr × Value)} (z : es.length ≤ sizeLine) (hd : (a == sysModules) = false) (np : NP es xs) (dd : h'.DictOfH (nestedKind P w) a xs) : ObjOk P w H' h' a (nestO w a es) := by
  obtain ⟨o, en, ep, h1, h2, h3, h4, _, h5⟩ := dd
  exact ⟨⟨z, hd, xs, np, o, en, ep, h1, h2, h3, h4, h5⟩, ⟨o, h1⟩, fun g1 g2 ⟨z, hd, xs, np, o, en, ep, h1, h2, h3, h4, h5⟩ k => ⟨z, hd, xs, np, o, en, ep, k _ h1, h2, h3, h4, h5⟩⟩
end
end BF

set_option Elab.async false
set_option linter.all false
set_option autoImplicit false
set_option maxRecDepth 100000
/-! Dicts whose keys are nested tuples: the rules. -/
namespace BF
open PySem PySem.Spec
open PyProof.Rows L2
/-- what the dict at a holds at the key y -/
def NGet (K : KW) (H : Hp) (a : Addr) (y : V) (o : Option V) : Prop := ∃ loc es ws x k, L2.Rd H a (nestO K.wd a es) ∧ NestOk K H loc es ws ∧ Rd K H loc y x ∧ keyT x = some k ∧ o = valE es k
/-- a is such a dict -/
def NIs (K : KW) (H : Hp) (a : Addr) : Prop := ∃ loc es ws, L2.Rd H a (nestO K.wd a es) ∧ NestOk K H loc es ws
section
variable {X : Cx} {pins : List (Addr × Obj)} {σ : L2.St} {H : Hp} {s : Shared} {a : Addr} {y v d : V} {u r : Value} {o : Option V} {E : Value → Shared → Prop}
theorem nget_at (I : Inv X pins σ H s) (g : NGet X.KW H a y o) (ry : RelV y u) : ∃ b k xs, u = .ref b ∧ (nestedKind X.prog X.w).is s.heap k b ∧ (a == sysModules) = false ∧ s.heap.DictOfH (nestedKind X.prog X.w) a xs ∧ RelO o ((atKey xs k).map (·.2)) := by
  obtain ⟨loc, es, ws, x, k, h1, h2, h3, h4, rfl⟩ := g
  obtain ⟨b, _, rfl, hk⟩ := nest_key I h3 h4 ry
  obtain ⟨_, hd, xs, np, dd⟩ := nest_dict I h2 h1
  exact ⟨b, k, xs, rfl, hk, hd, dd, np_val np k⟩
theorem room_nest {A : Around} (hu : A.units + 64 < cLine) : (nestedKind X.prog X.w).room A.in1 := by
  show A.units + 1 + 8 < cLine
  omega
theorem n_getItem {Q : Value → Shared → Prop} (hu : X.A.units + 64 < cLine) (I : Inv X pins σ H s) (g : NGet X.KW H a y (some v)) (ry : RelV y u) (h : ∀ w' s', Inv X pins σ H s' → RelV v w' → Q w' s') :
    s.TypeIs (.ref a) "dict" ∧ wpAny (model X.prog X.w) X.A (getItem (.ref a) u) Q E s := by
  obtain ⟨b, k, xs, rfl, hk, hd, dd, ro⟩ := nget_at I g ry
  obtain ⟨w', hw, rw'⟩ := RelO.some_of ro
  obtain ⟨p, hp, hp2⟩ := Option.map_eq_some_iff.mp hw
  refine ⟨dd.typeIs, wpAny_getItem_heap (room_nest hu) hk dd hp ?_⟩
  rw [hp2]
  exact h w' _ (I.tok _) rw'
def rNIn (K : KW) : R2 := fun x z H Q => ∃ a o, z = .ref a ∧ NGet K H a x o ∧ Q (.bl o.isSome) H
def rNNotIn (K : KW) : R2 := fun x z H Q => ∃ a o, z = .ref a ∧ NGet K H a x o ∧ Q (.bl (!o.isSome)) H
theorem op_nin (hu : X.A.units + 64 < cLine) : OpR X (compareOp .In) (rNIn X.KW) := by
  intro pins s σ H x z v u Q I rx rz h
  obtain ⟨a, o, rfl, g, q⟩ := h
  cases (show u = Value.ref a from rz)
  obtain ⟨b, k, xs, rfl, hk, hd, dd, ro⟩ := nget_at I g rx
  refine wpAny_in_heap (room_nest hu) hk hd dd ⟨.bl o.isSome, H, I.tok _, ?_, q⟩
  have := ro.isSome_eq
  rw [Option.isSome_map] at this
  rw [this]
  rfl
theorem op_nnotin (hu : X.A.units + 64 < cLine) : OpR X (compareOp .NotIn) (rNNotIn X.KW) := by
  intro pins s σ H x z v u Q I rx rz h
  obtain ⟨a, o, rfl, g, q⟩ := h
  cases (show u = Value.ref a from rz)
  obtain ⟨b, k, xs, rfl, hk, hd, dd, ro⟩ := nget_at I g rx
  refine wpAny_notIn_heap (room_nest hu) hk hd dd ⟨.bl (!o.isSome), H, I.tok _, ?_, q⟩
  have := ro.isSome_eq
  rw [Option.isSome_map] at this
  rw [this]
  rfl
/-- a[y] = v -/
def rNPut (K : KW) : TSet := fun x y v H Q => ∃ a es k b ws loc z, x = .ref a ∧ y = .ref b ∧ H a = some (nestO K.wd a es) ∧ NestOk K H loc es ws ∧ Rd K H loc y z ∧ keyT z = some k ∧ es.length < sizeLine ∧ Q (upd H a (nestO K.wd a (putE es k b v)))
theorem o_nput (hu : X.A.units + 64 < cLine) : PSet X (rNPut X.KW) := by
  intro pins s σ H o i v ov iv u Q I ro ri rv h
  obtain ⟨a, es, k, b, ws, loc, z, rfl, rfl, e, n, rz, hz, hl, q⟩ := h
  cases (show ov = Value.ref a from ro)
  cases (show iv = Value.ref b from ri)
  obtain ⟨b', eb, eb2, hk⟩ := nest_key I rz hz (u := .ref b) rfl
  cases eb
  obtain ⟨hz2, hd, xs, np, dd⟩ := nest_dict I n (.inl e)
  have hlx : xs.length ≤ sizeLine := by rw [← Paired.length np]; exact hz2
  refine wpAny_setItem_heap (hsz := hlx) (room_nest hu) hk dd fun h' dd' hs => ⟨_, ?_, q⟩
  have hl2 : (putE es k b v).length ≤ sizeLine := by have := putE_length es k b v; omega
  have he : ∃ q, h'.get? a = some q := let ⟨q, _, _, hq, _⟩ := dd'; ⟨q, hq⟩
  exact d_write I (by rw [e]; exact True.intro) hs he (nest_new hl2 hd (np_put np k b rv) dd')
/-- a.get(y, d) -/
theorem n_get2 {Q : Value → Shared → Prop} (hu : X.A.units + 64 < cLine) (I : Inv X pins σ H s) (g : NGet X.KW H a y o) (ry : RelV y u) (rd : RelV d r) (h : ∀ w' s', Inv X pins σ H s' → RelV (o.getD d) w' → Q w' s') :
    wpAny (model X.prog X.w) X.A (call (.builtin "dict.get") [.ref a, u, r]) Q E s := by
  obtain ⟨b, k, xs, rfl, hk, hd, dd, ro⟩ := nget_at I g ry
  exact call_meetsIn PySem.F.slot_dict_get dd.typeIs PySem.F.entry_dict_get (PySem.F.args_dict_get_3 _ _ _) (meetsH_dict_get_default (nestedKind X.prog X.w) a b hd r) ⟨room_nest hu, k, xs, hk, dd, h _ _ (I.tok _) (ro.getD rd)⟩
theorem n_get1 {Q : Value → Shared → Prop} (hu : X.A.units + 64 < cLine) (I : Inv X pins σ H s) (g : NGet X.KW H a y o) (ry : RelV y u) (h : ∀ w' s', Inv X pins σ H s' → RelV (o.getD .non) w' → Q w' s') :
    wpAny (model X.prog X.w) X.A (call (.builtin "dict.get") [.ref a, u]) Q E s := by
  obtain ⟨b, k, xs, rfl, hk, hd, dd, ro⟩ := nget_at I g ry
  exact call_meetsIn PySem.F.slot_dict_get dd.typeIs PySem.F.entry_dict_get (PySem.F.args_dict_get_2 _ _) (meetsH_dict_get (nestedKind X.prog X.w) a b hd) ⟨room_nest hu, k, xs, hk, dd, h _ _ (I.tok _) (ro.getD rfl)⟩
theorem nis_at (I : Inv X pins σ H s) (d : NIs X.KW H a) : s.TypeIs (.ref a) "dict" ∧ (∀ b, Value.ref a = .ref b → ∃ ob, s.heap.get? b = some ob ∧ ob.dict = none) := by
  obtain ⟨loc, es, ws, h1, h2⟩ := d
  obtain ⟨_, hd, xs, np, dd⟩ := nest_dict I h2 h1
  refine ⟨dd.typeIs, fun b q => ?_⟩
  cases q
  obtain ⟨ob, _, _, g1, g2, _⟩ := dd
  exact ⟨ob, g1, g2.2.1⟩
end

/-! ### the plain operations -/
/-- the entries of such a dict, walked or not -/
def nestAt (M : Mem) (n : Nat) : Option (List (W × W)) := match M[n]? with
  | some (.dT .nest ws) => some ws
  | some (.dT .lockN ws) => some ws
  | _ => none
def gGetN (M : Mem) (x y : W) : Option (W × Mem) := match x, keyT y with
  | .ref n, some k => ((nestAt M n).bind fun ws => valN ws k).map fun w => (w, M)
  | _, _ => none
def gInN (M : Mem) (x y : W) : Option (W × Mem) := match y, keyT x with
  | .ref n, some k => (nestAt M n).map fun ws => (.bl (valN ws k).isSome, M)
  | _, _ => none
def gNotInN (M : Mem) (x y : W) : Option (W × Mem) := match y, keyT x with
  | .ref n, some k => (nestAt M n).map fun ws => (.bl (!(valN ws k).isSome), M)
  | _, _ => none
def putNM (M : Mem) (o x w : W) : Option Mem := match o, keyT x with
  | .ref n, some k => match M[n]? with
    | some (.dT .nest ws) => if ws.length < 16777216 then some (M.set n (.dT .nest (putN ws k x w))) else none
    | _ => none
  | _, _ => none
/-- o.get(k, d) -/
def eGetN2 (o k d : CE) : CE := fun σ M => (o σ M).bind fun p => match p.1 with
  | .ref n => if (nestAt p.2 n).isSome = true then (k σ p.2).bind fun q => (d σ q.2).bind fun r => match keyT q.1 with
    | some kk => (nestAt r.2 n).map fun ws => ((valN ws kk).getD r.1, r.2)
    | none => none
    else none
  | _ => none
/-- o.get(k) -/
def eGetN1 (o k : CE) : CE := fun σ M => (o σ M).bind fun p => match p.1 with
  | .ref n => if (nestAt p.2 n).isSome = true then (k σ p.2).bind fun q => match keyT q.1 with
    | some kk => (nestAt q.2 n).map fun ws => ((valN ws kk).getD .non, q.2)
    | none => none
    else none
  | _ => none
def eDictN : CE := fun _ M => some (.ref M.length, M ++ [.dT .nest []])
@[simp] theorem eDictN_eq {σ : Sl} {M : Mem} : eDictN σ M = some (.ref M.length, M ++ [.dT .nest []]) := nr rfl
/-- {k: v} -/
def eNDisp (k v : CE) : CE := fun σ M => (k σ (M ++ [.dT .nest []])).bind fun p => (v σ p.2).bind fun q => match keyT p.1 with
  | some kk => match q.2[M.length]? with
    | some (.dT .nest []) => some (.ref M.length, q.2.set M.length (.dT .nest [(p.1, q.1)]))
    | _ => none
  | none => none
section
variable {K : KW} {H : Hp} {loc : List Addr} {M : Mem}
theorem nestAt_ok (s : Store K H loc M) {n : Nat} {a : Addr} {ws : List (W × W)} (ha : loc[n]? = some a) (h : nestAt M n = some ws) : ∃ es, L2.Rd H a (nestO K.wd a es) ∧ NestOk K H loc es ws := by
  unfold nestAt at h
  split at h
  · rename_i ws' hw
    cases h
    obtain ⟨es, h1, h2⟩ := s.ok n a _ ha hw
    exact ⟨es, .inl h1, h2⟩
  · rename_i ws' hw
    cases h
    obtain ⟨o, es, h1, h2⟩ := s.ok n a _ ha hw
    exact ⟨es, .inr ⟨o, h1⟩, h2⟩
  · cases h
theorem nget_of (s : Store K H loc M) {n : Nat} {a : Addr} {ws : List (W × W)} {y : V} {x : W} {k : NestedKey} (ha : loc[n]? = some a) (h : nestAt M n = some ws) (ry : Rd K H loc y x) (hk : keyT x = some k) :
    ∃ o, NGet K H a y o ∧ (valN ws k = none → o = none) ∧ ∀ w, valN ws k = some w → ∃ v, o = some v ∧ Rd K H loc v w := by
  obtain ⟨es, h1, h2⟩ := nestAt_ok s ha h
  obtain ⟨h3, h4⟩ := ok_val h2 k
  exact ⟨valE es k, ⟨loc, es, ws, x, k, h1, h2, ry, hk, rfl⟩, h3, h4⟩
theorem nget_isSome {o : Option V} {w : Option W} (h1 : w = none → o = none) (h2 : ∀ x, w = some x → ∃ v, o = some v ∧ Rd K H loc v x) : o.isSome = w.isSome := by
  cases w with
  | none => rw [h1 rfl]; rfl
  | some x => obtain ⟨v, rfl, _⟩ := h2 x rfl; rfl
theorem nget_getD {o : Option V} {w : Option W} {d : V} {e : W} (h1 : w = none → o = none) (h2 : ∀ x, w = some x → ∃ v, o = some v ∧ Rd K H loc v x) (h3 : Rd K H loc d e) : Rd K H loc (o.getD d) (w.getD e) := by
  cases w with
  | none => rw [h1 rfl]; exact h3
  | some x => obtain ⟨v, rfl, r⟩ := h2 x rfl; exact r
theorem l_inN : Lift2 K (rNIn K) gInN := by
  intro H loc M x y v u w M' Q s rx ry e aft
  unfold gInN at e
  split at e
  · rename_i n k hk
    obtain ⟨ws, hw, e⟩ := Option.map_eq_some_iff.mp e
    cases e
    cases ry with
    | ref ha =>
      obtain ⟨o, g, g1, g2⟩ := nget_of s ha hw rx hk
      refine ⟨_, o, rfl, g, ?_⟩
      rw [nget_isSome g1 g2]
      exact aft _ H loc s (.bl _) .refl (List.prefix_refl _)
  · cases e
theorem l_notInN : Lift2 K (rNNotIn K) gNotInN := by
  intro H loc M x y v u w M' Q s rx ry e aft
  unfold gNotInN at e
  split at e
  · rename_i n k hk
    obtain ⟨ws, hw, e⟩ := Option.map_eq_some_iff.mp e
    cases e
    cases ry with
    | ref ha =>
      obtain ⟨o, g, g1, g2⟩ := nget_of s ha hw rx hk
      refine ⟨_, o, rfl, g, ?_⟩
      rw [nget_isSome g1 g2]
      exact aft _ H loc s (.bl _) .refl (List.prefix_refl _)
  · cases e
theorem p_nput : LiftP K (rNPut K) putNM := by
  intro H loc M x y z o i v M' Q s rx ry rz e h
  unfold putNM at e
  split at e
  · rename_i n k hk
    split at e
    · rename_i ws hw
      split at e
      · rename_i hl
        cases e
        cases rx with
        | @ref a _ ha =>
          obtain ⟨es, h1, h2⟩ := s.ok n a _ ha hw
          obtain ⟨kn, kd, us, rfl⟩ := keyT_some hk
          cases ry with
          | @tup b xs _ sq rs =>
            have hle : es.length = ws.length := by
              have := congrArg List.length h2.keys
              simpa using this
            refine ⟨a, es, k, b, ws, loc, .tup us, rfl, rfl, h1, h2, .tup sq rs, hk, by rw [hle]; exact hl, ?_⟩
            have ex : Ext K H (upd H a (nestO K.wd a (putE es k b v))) := .upd h1 trivial
            refine h _ loc (s.put ha hw rfl rfl ⟨_, upd_same, (ok_put h2 kn kd (.tup sq rs) rz).mono ex (List.prefix_refl _)⟩) ex (List.prefix_refl _)
      · cases e
    · cases e
  · cases e
end
section
variable {X : Cx} {a b c : Expr} {ca cb cc : CE} {pos apos cpos : Pos}
theorem r_getN (hu : X.A.units + 64 < cLine) (ha : EV X a ca) (hb : EV X b cb) (hs : NoSl b) : EV X (.Subscript a b pos) (e2 gGetN ca cb) := ⟨fun pins s σV H Q I ⟨loc, σ, M, w, M', rel, e, aft⟩ => by
  obtain ⟨p, hp, e⟩ := bind_some e
  obtain ⟨q, hq, e⟩ := bind_some e
  refine subD_of PySem.F.slot_dict_getitem.lookup hs (thn (ha.run pins s σV H (fun x H1 => TC X.KW cb σV H1 fun y H2 => ∃ a v, x = .ref a ∧ NGet X.KW H2 a y (some v) ∧ Q v H2) I ?_) fun u s1 ⟨x, H1, I1, rx, q1⟩ => thn (hb.run pins s1 σV H1 _ I1 q1) fun iv s2 ⟨y, H2, I2, ry, a, v, ex, g, q2⟩ => ?_)
  · refine run1 rel hp fun v H1 loc1 rel1 rd1 ex1 l1 => run1 rel1 hq fun u H2 loc2 rel2 rd2 ex2 l2 => ?_
    unfold gGetN at e
    split at e
    · rename_i n k hn hk
      obtain ⟨z, hz, e⟩ := Option.map_eq_some_iff.mp e
      obtain ⟨ws, hw, hz⟩ := bind_some hz
      cases e
      rw [hn] at rd1
      cases rd1 with
      | ref hl =>
        obtain ⟨o, g, g1, g2⟩ := nget_of rel2.st (pre_get l2 hl) hw rd2 hk
        obtain ⟨v, rfl, rv⟩ := g2 _ hz
        exact ⟨_, v, rfl, g, aft _ H2 loc2 rel2.st rv (ex1.trans ex2) (l1.trans l2)⟩
    · cases e
  · subst ex
    obtain rfl : u = Value.ref a := rx
    exact n_getItem hu I2 g ry fun w' s3 I3 rw' => ⟨v, H2, I3, rw', q2⟩⟩
theorem r_getN2 (hu : X.A.units + 64 < cLine) (ha : EV X a ca) (hb : EV X b cb) (hc : EV X c cc) (m : M2 X a "get" apos b c cpos := by exact ⟨by rfl, by rfl, by rfl, by rfl⟩) : EV X (.Call (.Attribute a "get" apos) [b, c] [] cpos) (eGetN2 ca cb cc) := ⟨fun pins s σV H Q I ⟨loc, σ, M, w, M', rel, e, aft⟩ => by
  obtain ⟨p, hp, e⟩ := bind_some e
  refine wpAny_Call_method m.base m.few m.line PySem.F.plainAttrs_dict PySem.F.slot_dict_get PySem.F.type_dict_get (thn (ha.run pins s σV H (fun x H1 => ∃ a, x = .ref a ∧ NIs X.KW H1 a ∧ TC X.KW cb σV H1 fun y H2 => TC X.KW cc σV H2 fun z H3 => ∃ o, NGet X.KW H3 a y o ∧ Q (o.getD z) H3) I ?_) fun u s1 ⟨x, H1, I1, rx, a, ex, d, q1⟩ => ?_)
  · refine run1 rel hp fun v H1 loc1 rel1 rd1 ex1 l1 => ?_
    split at e
    · rename_i n hn
      split at e
      · rename_i hz
        obtain ⟨ws0, hw0⟩ := Option.isSome_iff_exists.mp hz
        rw [hn] at rd1
        cases rd1 with
        | @ref ad _ hl =>
          obtain ⟨es, h1, h2⟩ := nestAt_ok rel1.st hl hw0
          obtain ⟨q, hq, e⟩ := bind_some e
          obtain ⟨r, hr, e⟩ := bind_some e
          refine ⟨ad, rfl, ⟨loc1, es, ws0, h1, h2⟩, run1 rel1 hq fun y H2 loc2 rel2 rd2 ex2 l2 => run1 rel2 hr fun z H3 loc3 rel3 rd3 ex3 l3 => ?_⟩
          split at e
          · rename_i kk hk
            obtain ⟨ws, hw, e⟩ := Option.map_eq_some_iff.mp e
            cases e
            obtain ⟨o, g, g1, g2⟩ := nget_of rel3.st (pre_get l3 (pre_get l2 hl)) hw (rd2.mono ex3 l3) hk
            exact ⟨o, g, aft _ H3 loc3 rel3.st (nget_getD g1 g2 rd3) ((ex1.trans ex2).trans ex3) ((l1.trans l2).trans l3)⟩
          · cases e
      · cases e
    · cases e
  · subst ex
    obtain rfl : u = Value.ref a := rx
    obtain ⟨t1, t2⟩ := nis_at I1 d
    refine ⟨t1, t2, ?_⟩
    rw [m.trees]
    refine Calls.callWith_builtin rfl (Calls.evalArgs_plain (Calls.spliced_cons (thn (hb.run pins s1 σV H1 _ I1 q1) fun iv s2 ⟨y, H2, I2, ry, q2⟩ =>
      Calls.spliced_cons (thn (hc.run pins s2 σV H2 _ I2 q2) fun fv s3 ⟨z, H3, I3, rz, ov, g, q3⟩ => Calls.spliced_nil ?_))))
    exact n_get2 hu I3 g ry rz fun w' s4 I4 rw' => ⟨_, H3, I4, rw', q3⟩⟩
theorem r_getN1 (hu : X.A.units + 64 < cLine) (ha : EV X a ca) (hb : EV X b cb) (m : M1 X a "get" apos b cpos := by exact ⟨by rfl, by rfl, by rfl, by rfl⟩) : EV X (.Call (.Attribute a "get" apos) [b] [] cpos) (eGetN1 ca cb) := ⟨fun pins s σV H Q I ⟨loc, σ, M, w, M', rel, e, aft⟩ => by
  obtain ⟨p, hp, e⟩ := bind_some e
  refine wpAny_Call_method m.base m.few m.line PySem.F.plainAttrs_dict PySem.F.slot_dict_get PySem.F.type_dict_get (thn (ha.run pins s σV H (fun x H1 => ∃ a, x = .ref a ∧ NIs X.KW H1 a ∧ TC X.KW cb σV H1 fun y H2 => ∃ o, NGet X.KW H2 a y o ∧ Q (o.getD .non) H2) I ?_) fun u s1 ⟨x, H1, I1, rx, a, ex, d, q1⟩ => ?_)
  · refine run1 rel hp fun v H1 loc1 rel1 rd1 ex1 l1 => ?_
    split at e
    · rename_i n hn
      split at e
      · rename_i hz
        obtain ⟨ws0, hw0⟩ := Option.isSome_iff_exists.mp hz
        rw [hn] at rd1
        cases rd1 with
        | @ref ad _ hl =>
          obtain ⟨es, h1, h2⟩ := nestAt_ok rel1.st hl hw0
          obtain ⟨q, hq, e⟩ := bind_some e
          refine ⟨ad, rfl, ⟨loc1, es, ws0, h1, h2⟩, run1 rel1 hq fun y H2 loc2 rel2 rd2 ex2 l2 => ?_⟩
          split at e
          · rename_i kk hk
            obtain ⟨ws, hw, e⟩ := Option.map_eq_some_iff.mp e
            cases e
            obtain ⟨o, g, g1, g2⟩ := nget_of rel2.st (pre_get l2 hl) hw rd2 hk
            exact ⟨o, g, aft _ H2 loc2 rel2.st (nget_getD g1 g2 .non) (ex1.trans ex2) (l1.trans l2)⟩
          · cases e
      · cases e
    · cases e
  · subst ex
    obtain rfl : u = Value.ref a := rx
    obtain ⟨t1, t2⟩ := nis_at I1 d
    refine ⟨t1, t2, ?_⟩
    rw [m.trees]
    refine Calls.callWith_builtin rfl (Calls.evalArgs_plain (Calls.spliced_cons (thn (hb.run pins s1 σV H1 _ I1 q1) fun iv s2 ⟨y, H2, I2, ry, ov, g, q2⟩ => Calls.spliced_nil ?_)))
    exact n_get1 hu I2 g ry fun w' s4 I4 rw' => ⟨_, H2, I4, rw', q2⟩⟩
theorem nest_empty (h : Heap) {w : World} {H' : Hp} {P : Program} (hb : sysModules < h.objs.size) : ObjOk P w H' (h.push { cls := .type "dict", data := .dict #[] }) h.objs.size (nestO w h.objs.size []) :=
  nest_new (Nat.zero_le _) (beq_eq_false_iff_ne.mpr (Ne.symm (Nat.ne_of_lt hb))) .nil (Heap.DictOfH.new h)
theorem new_nest {K : KW} {H : Hp} {loc : List Addr} {M : Mem} {q : Addr} (s : Store K H loc M) (hq : H q = none) : Store K (upd H q (nestO K.wd q [])) (loc ++ [q]) (M ++ [.dT .nest []]) :=
  s.new hq ⟨[], upd_same, ⟨rfl, fun _ h => (by cases h), .nil, .nil⟩⟩
theorem r_dictN : EV X (.Dict [] [] pos) eDictN := ⟨fun pins s σV H Q I ⟨loc, σ, M, w, M', rel, e, aft⟩ => by
  cases e
  have hn := I.hok.fresh (Nat.le_refl s.heap.objs.size)
  refine wpAny_Dict_empty ⟨.ref s.heap.objs.size, _, I.laid (a := s.heap.objs.size) (o := nestO X.w s.heap.objs.size []) (t' := s.toks) (fun _ _ q => Heap.get?_push_of_some _ q) (Nat.le_refl _) (nest_empty s.heap I.big), rfl, ?_⟩
  exact aft _ _ (loc ++ [s.heap.objs.size]) (new_nest rel.st hn) (.ref (last_get rel.st.len.symm)) (.new hn) (List.prefix_append _ _)⟩
theorem r_ndisp (hu : X.A.units + 64 < cLine) (ha : EV X a ca) (hb : EV X b cb) (hz : (evalEachOpt [some a] X.env).zip ((evalEach [b] X.env).map fun v => do let x ← v; standAt pos; pure x) = (pairTrees [some a] [b] X.env pos).map fun p => (some p.1, p.2) := by rfl) :
    EV X (.Dict [some a] [b] pos) (eNDisp ca cb) := ⟨fun pins s σV H Q I ⟨loc, σ, M, w, M', rel, e, aft⟩ => by
  have hn := I.hok.fresh (Nat.le_refl s.heap.objs.size)
  have I1 := I.laid (a := s.heap.objs.size) (o := nestO X.w s.heap.objs.size []) (h' := s.heap.push { cls := .type "dict", data := .dict #[] }) (t' := s.toks) (fun _ _ q => Heap.get?_push_of_some _ q) (Nat.le_refl _) (nest_empty s.heap I.big)
  have rel1 := rel.move (new_nest rel.st hn) (.new hn) (List.prefix_append _ [s.heap.objs.size])
  have hlast : (loc ++ [s.heap.objs.size])[M.length]? = some s.heap.objs.size := last_get rel.st.len.symm
  obtain ⟨p, hp, e⟩ := bind_some e
  obtain ⟨q, hq, e⟩ := bind_some e
  split at e
  · rename_i kk hk
    split at e
    · rename_i hM
      cases e
      rw [arm_eval_Dict, hz, dictDisplay_pairs _ (by intro z; cases z) (by show 1 < 17; decide)]
      refine wpAny_bind (wpAny_standAt (wpAny_bind (wpAny_subDictH (knd := nestedKind X.prog X.w) (show X.A.units + 8 < cLine by omega) (by show 1 ≤ 15; decide) ?_)))
      refine pairTrees_cons_walk (thn (ha.run pins _ σV _ (fun x H1 => TC X.KW cb σV H1 fun y H2 => ∃ loc2 b, Store X.KW H2 loc2 q.2 ∧ loc2[M.length]? = some s.heap.objs.size ∧ x = .ref b ∧ Rd X.KW H2 loc2 x p.1 ∧ Rd X.KW H2 loc2 y q.1 ∧ Ext X.KW H H2 ∧ loc <+: loc2) I1 ?_) fun u s1 ⟨x, H1, I1', rx, q1⟩ => thn (hb.run pins s1 σV H1 _ I1' q1) fun w2 s2 ⟨y, H2, I2, ry, q2⟩ => pairTrees_nil_walk ?_)
      · refine run1 rel1 hp fun v H1 loc1 rel2 rd1 ex1 l1 => run1 rel2 hq fun u H2 loc2 rel3 rd2 ex2 l2 => ?_
        obtain ⟨_, _, us, hus⟩ := keyT_some hk
        have rd1' := rd1.mono ex2 l2
        rw [hus] at rd1 rd1'
        cases rd1 with
        | @tup b xs _ sq rs =>
          refine ⟨loc2, b, rel3.st, pre_get (l1.trans l2) hlast, rfl, by rw [hus]; exact rd1', rd2, (Ext.new hn).trans (ex1.trans ex2), (List.prefix_append _ _).trans (l1.trans l2)⟩
      · obtain ⟨loc2, b, st2, hl2, rfl, rd1, rd2, exA, lA⟩ := q2
        cases (show u = Value.ref b from rx)
        obtain ⟨es, h1, h2⟩ := st2.ok _ _ _ hl2 hM
        have es0 : es = [] := by
          have := congrArg List.length h2.keys
          simpa using this
        subst es0
        obtain ⟨_, hd, xs, np, dd⟩ := nest_dict I2 h2 (.inl h1)
        cases np
        obtain ⟨b', eb, eb2, hki⟩ := nest_key I2 rd1 hk (u := .ref b) rfl
        cases eb
        refine ⟨[(kk, b, w2)], ⟨rfl, rfl, hki, trivial⟩, dd, fun h' tk dd' hs => wpAny_pure ⟨.ref s.heap.objs.size, upd H2 s.heap.objs.size (nestO X.w s.heap.objs.size [(kk, b, y)]), ?_, rfl, ?_⟩⟩
        · have he : ∃ q, h'.get? s.heap.objs.size = some q := let ⟨q, _, _, hq, _⟩ := dd'; ⟨q, hq⟩
          refine d_write I2 (by rw [h1]; exact True.intro) hs he (nest_new (by show 1 ≤ sizeLine; decide) hd (.cons ⟨rfl, rfl, ry⟩ .nil) dd')
        · obtain ⟨kn, kd, us, hus⟩ := keyT_some hk
          have ex : Ext X.KW H2 (upd H2 s.heap.objs.size (nestO X.w s.heap.objs.size [(kk, b, y)])) := .upd h1 trivial
          have ok := (ok_put h2 kn kd rd1 rd2).mono ex (List.prefix_refl _)
          exact aft _ _ loc2 (st2.put hl2 hM rfl rfl ⟨[(kk, b, y)], upd_same, ok⟩) (.ref hl2) (exA.trans ex) lA
    · cases e
  · cases e⟩
end
end BF

set_option Elab.async false
set_option linter.all false
set_option autoImplicit false
set_option maxRecDepth 100000
/-! Walks of dicts; d[k] = v with numbers and texts as keys; sorted(d). -/
namespace BF
open PySem PySem.Spec
open PyProof.Rows L2
/-- a dict is locked, and open again -/
def lkO : MO → Option MO
  | .dK ws => some (.dT .lockF ws)
  | .dT .nest ws => some (.dT .lockN ws)
  | _ => none
def unO : MO → Option MO
  | .dT .lockF ws => some (.dK ws)
  | .dT .lockN ws => some (.dT .nest ws)
  | _ => none
def unM (n : Nat) (M : Mem) : Option Mem := (M[n]?.bind unO).map fun mo => M.set n mo
/-- the memory with the dict locked that c tells, and its id -/
def lkM (c : CE) (σ : Sl) (M : Mem) : Option (Nat × Mem) := match c σ M with
  | some (.ref n, _) => (M[n]?.bind lkO).map fun mo => (n, M.set n mo)
  | _ => none
def eLk (c e : CE) : CE := fun σ M => (lkM c σ M).bind fun l => (e σ l.2).bind fun p => (unM l.1 p.2).map fun M' => (p.1, M')
def sLk (c : CE) (b : CS) : CS := fun σ M => (lkM c σ M).bind fun l => (b σ l.2).bind fun o => match o with
  | .nx σ' M' => (unM l.1 M').map fun M2 => .nx σ' M2
  | .rt w M' => (unM l.1 M').map fun M2 => .rt w M2
  | .bk σ' M' => (unM l.1 M').map fun M2 => .bk σ' M2
  | .ct σ' M' => (unM l.1 M').map fun M2 => .ct σ' M2
/-- the keys of a locked dict -/
def iKeyF (c : CE) : CI := fun σ M => (c σ M).bind fun p => match p.1 with
  | .ref n => match p.2[n]? with
    | some (.dT .lockF ws) => some (ws.map (·.1), gdT, p.2)
    | _ => none
  | _ => none
def iKeyN (c : CE) : CI := fun σ M => (c σ M).bind fun p => match p.1 with
  | .ref n => match p.2[n]? with
    | some (.dT .lockN ws) => some (ws.map (·.1), gdT, p.2)
    | _ => none
  | _ => none
section
variable {K : KW} {H : Hp} {loc : List Addr} {M : Mem} {n : Nat} {a : Addr} {mo mo' : MO}
theorem lk_spec (h : MOk K H loc a mo) (hl : lkO mo = some mo') : ∃ u, H a = some u ∧ Mut (some u) ∧ isMut mo = true ∧ (∀ od, MOk K (upd H a (.frz od u)) loc a mo') := by
  cases mo with
  | lst _ => cases hl
  | ro _ => cases hl
  | dK ws =>
    cases hl
    obtain ⟨kvs, h1, h2, h3, h4⟩ := h
    exact ⟨_, h1, trivial, rfl, fun od => ⟨od, kvs, upd_same, h2, h3, h4.mono (.upd h1 trivial) (List.prefix_refl _)⟩⟩
  | dT m ws =>
    cases m with
    | nest =>
      cases hl
      obtain ⟨es, h1, h2⟩ := h
      exact ⟨_, h1, trivial, rfl, fun od => ⟨od, es, upd_same, h2.mono (.upd h1 trivial) (List.prefix_refl _)⟩⟩
    | lockF => cases hl
    | lockN => cases hl
    | tab => cases hl
theorem ext_unlock {o : Obj} {u : HO} (h : H a = some (.frz o u)) (m : Mut (some u)) : ∀ b xs, SqT K H b xs → SqT K (upd H a u) b xs := fun b xs q => by
  rcases q with (q | ⟨v, q⟩) | q
  · refine .inl (.inl ?_)
    rw [upd_ne fun e => ?_]
    · exact q
    · subst e; rw [h] at q; cases q
  · refine .inl (.inr ⟨v, ?_⟩)
    rw [upd_ne fun e => ?_]
    · exact q
    · subst e; rw [h] at q; cases q; exact m
  · exact .inr q
mutual
theorem Rd.moveT {H' : Hp} (e : ∀ b xs, SqT K H b xs → SqT K H' b xs) : ∀ {v : V} {w : W}, Rd K H loc v w → Rd K H' loc v w
  | _, _, .non => .non
  | _, _, .bl b => .bl b
  | _, _, .int i => .int i
  | _, _, .str x h h2 => .str x h h2
  | _, _, .tup h r => .tup (e _ _ h) (Rds.moveT e r)
  | _, _, .ref h => .ref h
theorem Rds.moveT {H' : Hp} (e : ∀ b xs, SqT K H b xs → SqT K H' b xs) : ∀ {vs : List V} {ws : List W}, Rds K H loc vs ws → Rds K H' loc vs ws
  | _, _, .nil => .nil
  | _, _, .cons r rs => .cons (Rd.moveT e r) (Rds.moveT e rs)
end
theorem NestOk.moveT {H' : Hp} {es : NE} {ws : List (W × W)} (e : ∀ b xs, SqT K H b xs → SqT K H' b xs) (h : NestOk K H loc es ws) : NestOk K H' loc es ws := ⟨h.keys, h.dep, h.ks.moveT e, h.vs.moveT e⟩
theorem FlatOk.moveT {H' : Hp} {es : List (Key × V)} {ws : List (W × W)} (e : ∀ b xs, SqT K H b xs → SqT K H' b xs) (h : FlatOk K H loc es ws) : FlatOk K H' loc es ws := ⟨h.keys, h.ok, h.vs.moveT e⟩
/-- other things stand while a lock is taken off -/
theorem MOk.unlock {b : Addr} {o : Obj} {u : HO} (h : H a = some (.frz o u)) (m : Mut (some u)) (hu : ∀ xs, u ≠ .lst xs) (hb : b ≠ a ∨ isOwn mo = false) (ok : MOk K H loc b mo) : MOk K (upd H a u) loc b mo := by
  have e := ext_unlock (K := K) h m
  cases mo with
  | lst ws =>
    obtain ⟨xs, h1, h2⟩ := ok
    have hb : b ≠ a := hb.elim id fun z => (by cases z)
    exact ⟨xs, by rw [upd_ne hb]; exact h1, h2.moveT e⟩
  | ro ws =>
    obtain ⟨xs, h1, h2⟩ := ok
    refine ⟨xs, ?_, h2.moveT e⟩
    rcases h1 with ⟨v, h1⟩ | h1
    · refine .inl ⟨v, ?_⟩
      rw [upd_ne fun z => ?_]
      · exact h1
      · subst z; rw [h] at h1; cases h1; exact hu _ rfl
    · exact .inr h1
  | dK ws =>
    obtain ⟨kvs, h1, h2, h3, h4⟩ := ok
    have hb : b ≠ a := hb.elim id fun z => (by cases z)
    exact ⟨kvs, by rw [upd_ne hb]; exact h1, h2, h3, h4.moveT e⟩
  | dT q ws =>
    have hc : b ≠ a := hb.elim id fun z => (by cases z)
    cases q with
    | nest => obtain ⟨es, h1, h2⟩ := ok; exact ⟨es, by rw [upd_ne hc]; exact h1, h2.moveT e⟩
    | lockF => obtain ⟨o, es, h1, h2⟩ := ok; exact ⟨o, es, by rw [upd_ne hc]; exact h1, h2.moveT e⟩
    | lockN => obtain ⟨o, es, h1, h2⟩ := ok; exact ⟨o, es, by rw [upd_ne hc]; exact h1, h2.moveT e⟩
    | tab => obtain ⟨o, es, h1, h2⟩ := ok; exact ⟨o, es, by rw [upd_ne hc]; exact h1, h2.keys, h2.ok, h2.vs.moveT e⟩
theorem un_spec {o : Obj} {u : HO} (h : H a = some (.frz o u)) (m : Mut (some u)) (ok : MOk K H loc a mo) (hl : unO mo = some mo') : MOk K (upd H a u) loc a mo' := by
  have e := ext_unlock (K := K) h m
  cases mo with
  | lst _ => cases hl
  | ro _ => cases hl
  | dK _ => cases hl
  | dT q ws =>
    cases q with
    | nest => cases hl
    | tab => cases hl
    | lockF =>
      cases hl
      obtain ⟨o', kvs, h1, h2⟩ := ok
      rw [h] at h1; cases h1
      exact ⟨kvs, upd_same, h2.keys, h2.ok, h2.vs.moveT e⟩
    | lockN =>
      cases hl
      obtain ⟨o', es, h1, h2⟩ := ok
      rw [h] at h1; cases h1
      exact ⟨es, upd_same, h2.moveT e⟩
theorem un_own (hl : unO mo = some mo') : isOwn mo = true ∧ isOwn mo' = true := by
  cases mo with
  | lst _ => cases hl
  | ro _ => cases hl
  | dK _ => cases hl
  | dT q ws => cases q <;> cases hl <;> exact ⟨rfl, rfl⟩
theorem Store.unlock {M' : Mem} {o : Obj} {u : HO} (s : Store K H loc M) (ha : loc[n]? = some a) (h : H a = some (.frz o u)) (m : Mut (some u)) (hu : ∀ xs, u ≠ .lst xs) (e : unM n M = some M') : Store K (upd H a u) loc M' := by
  obtain ⟨mo', h1, rfl⟩ := Option.map_eq_some_iff.mp e
  obtain ⟨mo, h2, h3⟩ := bind_some h1
  obtain ⟨o1, o2⟩ := un_own h3
  have hn : n < M.length := (List.getElem?_eq_some_iff.mp h2).1
  refine ⟨by simp [s.len], fun i b q g1 g2 => ?_, fun i j b q r g1 g2 g3 g4 z1 z2 => ?_⟩
  · by_cases hi : n = i
    · subst hi
      rw [ha] at g1; cases g1
      rw [List.getElem?_set_self hn] at g2; cases g2
      exact un_spec h m (s.ok n a mo ha h2) h3
    · rw [List.getElem?_set_ne hi] at g2
      refine MOk.unlock h m hu ?_ (s.ok i b q g1 g2)
      by_cases hb : b = a
      · subst hb
        right
        cases z : isOwn q with
        | false => rfl
        | true => exact absurd (s.apart n i b mo q ha g1 h2 g2 o1 z) hi
      · exact .inl hb
  · have wt : ∀ {x : Nat} {y : MO}, (M.set n mo')[x]? = some y → isOwn y = true → ∃ y', M[x]? = some y' ∧ isOwn y' = true := fun {x y} q z => by
      by_cases hx : n = x
      · subst hx; exact ⟨mo, h2, o1⟩
      · rw [List.getElem?_set_ne hx] at q; exact ⟨y, q, z⟩
    obtain ⟨y1, w1, w2⟩ := wt g3 z1
    obtain ⟨y2, w3, w4⟩ := wt g4 z2
    exact s.apart i j b y1 y2 g1 g2 w1 w3 w2 w4
/-- what is taken: the store with the lock, and what comes of it -/
theorem Store.lock {c : CE} {σ : Sl} {l : Nat × Mem} (s : Store K H loc M) (e : lkM c σ M = some l) : ∃ a u, loc[l.1]? = some a ∧ H a = some u ∧ Mut (some u) ∧ (∀ xs, u ≠ .lst xs) ∧ ∀ od, Store K (upd H a (.frz od u)) loc l.2 ∧ Ext K H (upd H a (.frz od u)) := by
  unfold lkM at e
  split at e
  · rename_i n M0 hc
    obtain ⟨mo', h1, rfl⟩ := Option.map_eq_some_iff.mp e
    obtain ⟨mo, h2, h3⟩ := bind_some h1
    obtain ⟨a, ha, ok⟩ := s.at h2
    obtain ⟨u, hu, mu, mm, q⟩ := lk_spec ok h3
    refine ⟨a, u, ha, hu, mu, fun xs z => ?_, fun od => ⟨s.put0 ha h2 mm (q od), .upd hu mu⟩⟩
    subst z
    cases mo with
    | lst _ => cases h3
    | ro _ => cases h3
    | dK ws => obtain ⟨kvs, g1, _⟩ := ok; rw [hu] at g1; cases g1
    | dT m ws =>
      cases m with
      | nest => obtain ⟨es, g1, _⟩ := ok; rw [hu] at g1; cases g1
      | tab => cases h3
      | lockF => cases h3
      | lockN => cases h3
  · cases e
theorem ext_back {H' : Hp} {od : Obj} {u : HO} (hu : H a = some u) (mu : Mut (some u)) (ex : Ext K (upd H a (.frz od u)) H') : H' a = some (.frz od u) ∧ Ext K H (upd H' a u) := by
  have h1 : H' a = some (.frz od u) := ex.frz _ _ _ upd_same
  refine ⟨h1, fun b xs q => ext_unlock (K := K) h1 mu b xs (ex.tup _ _ ((Ext.upd hu mu).tup _ _ q)), fun b o v q => ?_⟩
  have hb : b ≠ a := fun z => by
    subst z
    rw [hu] at q; cases q; exact mu
  rw [upd_ne hb]
  exact ex.frz _ _ _ (by rw [upd_ne hb]; exact q)
end
section
variable {X : Cx} {e : Expr} {st : Stmt} {c ce : CE} {cs : CS}
theorem r_lock (c : CE) (h : EV X e ce) : EV X e (eLk c ce) := (pe_lock h).mono fun σV H Q ⟨loc, σ, M, w, M', rel, ev, aft⟩ => by
  obtain ⟨l, hl, ev⟩ := bind_some ev
  obtain ⟨p, hp, ev⟩ := bind_some ev
  obtain ⟨M2, hM, ev⟩ := Option.map_eq_some_iff.mp ev
  cases ev
  obtain ⟨a, u, ha, hu, mu, nl, q⟩ := rel.st.lock hl
  refine ⟨a, u, hu, mu, fun od => ?_⟩
  obtain ⟨st1, ex1⟩ := q od
  refine ⟨loc, σ, l.2, p.1, p.2, ⟨st1, rel.len, fun i w hi => ?_⟩, hp, fun v H' loc' s' r' ex l' => ?_⟩
  · obtain ⟨v, g1, g2⟩ := rel.sl i w hi
    exact ⟨v, g1, g2.mono ex1 (List.prefix_refl _)⟩
  · obtain ⟨h1, exB⟩ := ext_back hu mu ex
    exact ⟨h1, aft v _ loc' (s'.unlock (pre_get l' ha) h1 mu nl hM) (r'.moveT (ext_unlock h1 mu)) exB l'⟩
theorem s_lock (c : CE) (h : ES X st cs) : ES X st (sLk c cs) := (ps_lock h).mono fun D σV H ⟨loc, σ, M, o, rel, ev, aft⟩ => by
  obtain ⟨l, hl, ev⟩ := bind_some ev
  obtain ⟨o1, ho, ev⟩ := bind_some ev
  obtain ⟨a, u, ha, hu, mu, nl, q⟩ := rel.st.lock hl
  refine ⟨a, u, hu, mu, fun od => ?_⟩
  obtain ⟨st1, ex1⟩ := q od
  have sl : ∀ (i : Nat) (w : W), σ[i]? = some (some w) → ∃ v, σV[i]? = some (some v) ∧ Rd X.KW (upd H a (.frz od u)) loc v w := fun i w hi => by
    obtain ⟨v, g1, g2⟩ := rel.sl i w hi
    exact ⟨v, g1, g2.mono ex1 (List.prefix_refl _)⟩
  refine ⟨loc, σ, l.2, o1, ⟨st1, rel.len, sl⟩, ho, ?_⟩
  have move : ∀ {σ' : Sl} {M' M2 : Mem} {σV' : L2.St} {H' : Hp} {loc' : List Addr}, unM l.1 M' = some M2 → Rel X.KW loc' σ' M' σV' H' → Ext X.KW (upd H a (.frz od u)) H' → loc <+: loc' → H' a = some (.frz od u) ∧ Rel X.KW loc' σ' M2 σV' (upd H' a u) ∧ Ext X.KW H (upd H' a u) := fun {σ' M' M2 σV' H' loc'} hM r ex l' => by
    obtain ⟨h1, exB⟩ := ext_back hu mu ex
    exact ⟨h1, ⟨r.st.unlock (pre_get l' ha) h1 mu nl hM, r.len, fun i w hi => (by
      obtain ⟨v, g1, g2⟩ := r.sl i w hi
      exact ⟨v, g1, g2.moveT (ext_unlock h1 mu)⟩)⟩, exB⟩
  cases o1 with
  | nx σ' M' =>
    obtain ⟨M2, hM, ev⟩ := Option.map_eq_some_iff.mp ev
    cases ev
    intro σV' H' loc' r ex l'
    obtain ⟨h1, r2, exB⟩ := move hM r ex l'
    exact ⟨h1, aft σV' _ loc' r2 exB l'⟩
  | bk σ' M' =>
    obtain ⟨M2, hM, ev⟩ := Option.map_eq_some_iff.mp ev
    cases ev
    intro σV' H' loc' r ex l'
    obtain ⟨h1, r2, exB⟩ := move hM r ex l'
    exact ⟨h1, aft σV' _ loc' r2 exB l'⟩
  | ct σ' M' =>
    obtain ⟨M2, hM, ev⟩ := Option.map_eq_some_iff.mp ev
    cases ev
    intro σV' H' loc' r ex l'
    obtain ⟨h1, r2, exB⟩ := move hM r ex l'
    exact ⟨h1, aft σV' _ loc' r2 exB l'⟩
  | rt w M' =>
    obtain ⟨M2, hM, ev⟩ := Option.map_eq_some_iff.mp ev
    cases ev
    intro v H' loc' s' r' ex l'
    obtain ⟨h1, exB⟩ := ext_back hu mu ex
    exact ⟨h1, aft v _ loc' (s'.unlock (pre_get l' ha) h1 mu nl hM) (r'.moveT (ext_unlock h1 mu)) exB l'⟩
end

/-! ### walks -/
/-- the keys of the locked dict at d, keyed by nested tuples -/
def ItkN (w : World) (d : Addr) (o : Obj) (es : NE) : It :=
  ⟨fun i H => H d = some (.frz o (nestO w d es)) ∧ i < es.length, fun i H x H' => H' = H ∧ ∃ e, es[i]? = some e ∧ x = .ref e.2.1, fun i H => H d = some (.frz o (nestO w d es)) ∧ es.length ≤ i⟩
section
variable {X : Cx} {pins : List (Addr × Obj)} {σ : L2.St} {H : Hp} {s : Shared} {d : Addr} {o : Obj} {es : NE}
theorem frzN (I : Inv X pins σ H s) (h : H d = some (.frz o (nestO X.w d es))) : (d == sysModules) = false ∧ s.heap.get? d = some o ∧ o.ExactDict ∧ ∃ (en : Array DictEntry) (ep : Nat), o.data = .dict en ep ∧ en.size = es.length ∧
    ∀ (i : Nat) (e : NestedKey × Addr × V), es[i]? = some e → ∃ t : DictEntry, en[i]? = some t ∧ t.key = .ref e.2.1 := by
  obtain ⟨hd, ⟨z, hs, xs, np, o', en, ep, h1, h2, h3, h4, h5⟩, _⟩ := I.hok d _ h
  rw [hd] at h1
  cases h1
  have hl : en.size = xs.length := by rw [← Array.length_toList, h4, List.length_map]
  refine ⟨hs, hd, h2, en, ep, h3, by rw [hl]; exact (Paired.length np).symm, fun i e he => ?_⟩
  obtain ⟨x, hx, e1, e2, _⟩ := paired_get np he
  refine ⟨entryN X.w x, ?_, by rw [e2]; rfl⟩
  rw [← Array.getElem?_toList, h4, List.getElem?_map, hx]; rfl
end
theorem turn_keysN {P : Program} {w : World} {K : PySem.W.Frag} {tg : Expr} {d : Addr} {o : Obj} {en : Array DictEntry} {ep : Nat} {es : NE} (it : Addr) (hod : o.data = .dict en ep) : Turn P w K tg (ItkN w d o es) [it] it (fun i h => h.IsKeyIter it d i es.length ep) where
  mem := by simp
  obj := fun i h st b hb => by
    obtain rfl : b = it := by simpa using hb
    obtain ⟨oi, e1, e2, e3⟩ := st
    exact ⟨oi, e1, fun v q => by rw [e3] at q; cases q⟩
  keep := fun i h h' st k => st.at fun q e => k it (by simp) q e
  item := by
    intro X hP hw hK hc i pins s σ H E I hf st hg
    subst hP hw hK
    obtain ⟨hd, hi⟩ := hg
    obtain ⟨f0, f1, f2, f3, f4, f5⟩ := hf it (by simp)
    obtain ⟨_, g1, g2, en', ep', g3, g4, g5⟩ := frzN I hd
    obtain ⟨rfl, rfl⟩ := dict_ep hod g3
    obtain ⟨e, he⟩ : ∃ e, es[i]? = some e := ⟨_, List.getElem?_eq_getElem hi⟩
    obtain ⟨t, ht, hk⟩ := g5 i e he
    refine next_key_item st g1 g3 g4 ht fun h' st' sb => ?_
    obtain ⟨oi, e1, e2, e3⟩ := id st'
    refine ⟨t.key, rfl, go_of (s := { s with heap := h' }) e1 e2 e3 (by decide) ⟨.ref e.2.1, H, I.turned (t' := s.toks) (fun b ob hb q => (sb.2 b hb).trans q) f0 f1 f3 f4 f5, hk, ⟨rfl, e, he, rfl⟩, st', fun b hb => (hf b hb).1⟩⟩
  done := by
    intro X hP hw hK hc i pins s σ H E I hf st hg
    subst hP hw hK
    obtain ⟨hd, hi⟩ := hg
    obtain ⟨f0, f1, f2, f3, f4, f5⟩ := hf it (by simp)
    obtain ⟨_, g1, g2, en', ep', g3, g4, _⟩ := frzN I hd
    obtain ⟨rfl, rfl⟩ := dict_ep hod g3
    exact next_key_end (I.ok.hd hc) st g1 g3 g4 hi fun h' eb => ⟨rfl, I.turned (t' := s.toks) (fun b ob hb q => eb b ob hb q) f0 f1 f3 f4 f5⟩
  self := fun A i s Q E st h => wpAny_pyIter_keyiter st h
def iKeysN (w : World) (td : TE) : TI := fun σ H R => td σ H fun x H1 => ∃ d o es, x = .ref d ∧ H1 d = some (.frz o (nestO w d es)) ∧ R (ItkN w d o es) H1
section
variable {X : Cx} {tg e : Expr} {td : TE} {ce : CE}
theorem pi_keysN (he : PE X e td) : PI X tg e (iKeysN X.w td) := by
  refine ⟨fun pins s σ H R I h => ?_⟩
  refine thn (he.run pins s σ H _ I h) fun u s1 ⟨x, H1, I1, rx, d, o, es, ex, hd, q⟩ => ?_
  subst ex
  obtain rfl : u = Value.ref d := rx
  obtain ⟨hs, g1, g2, en, ep, g3, g4, _⟩ := frzN I1 hd
  refine iter_keys hs g1 g2 g3 (pi_one (tk := s1.toks) I1 _ (turn_keysN _ g3) ⟨_, Heap.get?_push_size _ rfl, rfl, ?_⟩ q)
  rw [g4] <;> rfl
theorem walk_of_keysN {K : KW} {H : Hp} {loc : List Addr} {d : Addr} {o : Obj} {es : NE} {ws : List (W × W)} (hd : H d = some (.frz o (nestO K.wd d es))) (n : NestOk K H loc es ws) : WalkW K H loc (ItkN K.wd d o es) (ws.map (·.1)) gdT :=
  fun i H1 loc1 M s ex l _ => by
    have hl : es.length = ws.length := by have := congrArg List.length n.keys; simpa using this
    refine ⟨fun w hw => ?_, fun hi => ⟨ex.frz _ _ _ hd, by rw [hl]; simpa using hi⟩⟩
    obtain ⟨v, h1, h2⟩ := n.ks.get hw
    rw [List.getElem?_map] at h1
    obtain ⟨e, he, rfl⟩ := Option.map_eq_some_iff.mp h1
    refine ⟨⟨ex.frz _ _ _ hd, (List.getElem?_eq_some_iff.mp he).1⟩, fun x H2 y => ?_⟩
    obtain ⟨rfl, e', he', rfl⟩ := y
    rw [he] at he'; cases he'
    exact ⟨h2.mono ex l, s, .refl⟩
theorem walk_of_keysF {K : KW} {H : Hp} {loc : List Addr} {d : Addr} {o : Obj} {kvs : List (Key × V)} {ws : List (W × W)} (hd : H d = some (.frz o (.dK kvs))) (n : FlatOk K H loc kvs ws) : WalkW K H loc (Itk d o kvs) (ws.map (·.1)) gdT :=
  fun i H1 loc1 M s ex l _ => by
    have hl : kvs.length = ws.length := by have := congrArg List.length n.keys; simpa using this
    refine ⟨fun w hw => ?_, fun hi => ⟨ex.frz _ _ _ hd, by rw [hl]; simpa using hi⟩⟩
    rw [← n.keys, List.getElem?_map] at hw
    obtain ⟨p, hp, rfl⟩ := Option.map_eq_some_iff.mp hw
    refine ⟨⟨ex.frz _ _ _ hd, (List.getElem?_eq_some_iff.mp hp).1⟩, fun x H2 y => ?_⟩
    obtain ⟨rfl, k, v, he', rfl⟩ := y
    rw [hp] at he'; cases he'
    refine ⟨?_, s, .refl⟩
    have := n.ok _ (List.mem_of_getElem? hp)
    cases k with
    | inl i => exact .int i
    | inr z => exact .str z this.1 this.2
theorem i_keyN (h : EV X e ce) : EI X tg e (iKeyN ce) := (pi_keysN h).mono fun σV H R ⟨loc, σ, M, ws, gd, M', rel, ev, aft⟩ => by
  obtain ⟨p, hp, ev⟩ := bind_some ev
  refine run1 rel hp fun v H1 loc1 rel1 rd1 ex1 l1 => ?_
  split at ev
  · rename_i n hn
    rw [hn] at rd1
    cases rd1 with
    | @ref a _ ha =>
      split at ev
      · rename_i zs hz
        cases ev
        obtain ⟨o, es, h1, h2⟩ := rel1.st.ok n a _ ha hz
        exact ⟨a, o, es, rfl, h1, aft _ H1 loc1 rel1.st ex1 l1 (walk_of_keysN h1 h2)⟩
      · cases ev
  · cases ev
theorem i_keyF (h : EV X e ce) : EI X tg e (iKeyF ce) := (pi_keys h).mono fun σV H R ⟨loc, σ, M, ws, gd, M', rel, ev, aft⟩ => by
  obtain ⟨p, hp, ev⟩ := bind_some ev
  refine run1 rel hp fun v H1 loc1 rel1 rd1 ex1 l1 => ?_
  split at ev
  · rename_i n hn
    rw [hn] at rd1
    cases rd1 with
    | @ref a _ ha =>
      split at ev
      · rename_i zs hz
        cases ev
        obtain ⟨o, kvs, h1, h2⟩ := rel1.st.ok n a _ ha hz
        exact ⟨a, o, rfl, .inl ⟨kvs, h1, aft _ H1 loc1 rel1.st ex1 l1 (walk_of_keysF h1 h2)⟩⟩
      · cases ev
  · cases ev
end
end BF

set_option Elab.async false
set_option linter.all false
set_option autoImplicit false
set_option maxRecDepth 100000
/-! d[k] = v, sorted(d), max of three, x in a list. -/
namespace BF
open PySem PySem.Spec
open PyProof.Rows L2
theorem hu65 {k : Nat} {A : Around} (hr : Room k A) : A.units + 65 < cLine := by have := hr.un; omega
def putF (M : Mem) (o x w : W) : Option Mem := match o, keyOf x with
  | .ref n, some k => match M[n]? with
    | some (.dK ws) => if ws.length < 16777216 then some (M.set n (.dK (putW ws k w))) else none
    | _ => none
  | _, _ => none
def rDPut : TSet := fun x y v H Q => ∃ a kvs k, x = .ref a ∧ y = kV k ∧ H a = some (.dK kvs) ∧ kvs.length < sizeLine ∧ Q (upd H a (.dK (putK kvs k v)))
theorem o_dput {X : Cx} (hu : X.A.units + 1 < cLine) : PSet X rDPut := by
  intro pins s σ H o i v ov iv u Q I ro ri rv h
  obtain ⟨a, kvs, k, rfl, rfl, e, hl, q⟩ := h
  cases (show ov = Value.ref a from ro)
  exact d_setItem hu I (DPut.k e hl) ri rv fun s' I' => ⟨_, I', q⟩
section
variable {K : KW} {H : Hp} {loc : List Addr}
theorem key_any {kvs : List (Key × V)} {ws : List (W × W)} (h : kvs.map (fun p => keyW p.1) = ws.map (·.1)) (k : Key) : (kvs.any fun kv => decide (kv.1 = k)) = ws.any fun p => decide (keyOf p.1 = some k) := by
  induction kvs generalizing ws with
  | nil =>
    cases ws with
    | nil => rfl
    | cons _ _ => cases h
  | cons p kvs ih =>
    cases ws with
    | nil => cases h
    | cons q ws =>
      simp only [List.map_cons, List.cons.injEq] at h
      rw [List.any_cons, List.any_cons, ih h.2, ← h.1, keyOf_keyW]
      congr 1
      exact decide_eq_decide.mpr ⟨fun z => by rw [z], fun z => Option.some.inj z⟩
theorem put_rel {kvs : List (Key × V)} {ws : List (W × W)} {k : Key} {v : V} {w : W} (hk : kvs.map (fun p => keyW p.1) = ws.map (·.1)) (h : Rds K H loc (kvs.map (·.2)) (ws.map (·.2))) (r : Rd K H loc v w) :
    (putK kvs k v).map (fun p => keyW p.1) = (putW ws k w).map (·.1) ∧ Rds K H loc ((putK kvs k v).map (·.2)) ((putW ws k w).map (·.2)) := by
  unfold putK putW
  rw [key_any hk k]
  split
  · rename_i hz
    clear hz
    induction kvs generalizing ws with
    | nil =>
      cases ws with
      | nil => exact ⟨rfl, .nil⟩
      | cons _ _ => cases hk
    | cons p kvs ih =>
      cases ws with
      | nil => cases hk
      | cons q ws =>
        simp only [List.map_cons, List.cons.injEq] at hk h
        cases h with
        | cons r1 r2 =>
          obtain ⟨i1, i2⟩ := ih hk.2 r2
          have e : keyOf q.1 = some p.1 := by rw [← hk.1, keyOf_keyW]
          simp only [List.map_cons, e, Option.some.injEq]
          by_cases z : p.1 = k
          · rw [if_pos z, if_pos z]
            exact ⟨List.cons_eq_cons.mpr ⟨hk.1, i1⟩, .cons r i2⟩
          · rw [if_neg z, if_neg z]
            exact ⟨List.cons_eq_cons.mpr ⟨hk.1, i1⟩, .cons r1 i2⟩
  · rw [List.map_append, List.map_append, List.map_append, List.map_append, hk]
    exact ⟨rfl, h.append (.cons r .nil)⟩
theorem putK_ok {kvs : List (Key × V)} {k : Key} {v : V} (h : ∀ p ∈ kvs, KeyOk p.1) (hk : KeyOk k) : ∀ p ∈ putK kvs k v, KeyOk p.1 := by
  unfold putK
  split
  · intro p hp
    obtain ⟨q, hq, rfl⟩ := List.mem_map.mp hp
    have := h q hq
    split <;> exact this
  · intro p hp
    rcases List.mem_append.mp hp with hp | hp
    · exact h p hp
    · rw [List.mem_singleton] at hp; subst hp; exact hk
theorem rd_keyOk {v : V} {w : W} {k : Key} (r : Rd K H loc v w) (h : keyOf w = some k) : KeyOk k := by
  cases r with
  | int i => cases h; trivial
  | str x h1 h2 => cases h; exact ⟨h1, h2⟩
  | _ => cases h
theorem p_dput : LiftP K rDPut putF := by
  intro H loc M x y z o i v M' Q s rx ry rz e h
  unfold putF at e
  split at e
  · rename_i n k hk
    split at e
    · rename_i ws hw
      split at e
      · rename_i hl
        cases e
        cases rx with
        | @ref a _ ha =>
          obtain ⟨kvs, h1, h2, h3, h4⟩ := s.ok n a _ ha hw
          have hle : kvs.length = ws.length := by have := congrArg List.length h2; simpa using this
          refine ⟨a, kvs, k, rfl, rd_key ry hk, h1, by rw [hle]; exact hl, ?_⟩
          have ex : Ext K H (upd H a (.dK (putK kvs k v))) := .upd h1 trivial
          obtain ⟨q1, q2⟩ := put_rel (k := k) h2 h4 rz
          exact h _ loc (s.put ha hw rfl rfl ⟨_, upd_same, q1, putK_ok h3 (rd_keyOk ry hk), q2.mono ex (List.prefix_refl _)⟩) ex (List.prefix_refl _)
      · cases e
    · cases e
  · cases e
/-- sorted(d), the keys ascending as they stand -/
def pSortD : Fn := fun ws M => match ws with
  | [.ref n] => match M[n]? with
    | some (.dK kvs) => match asInts (kvs.map (·.1)) with
      | some ks => if ks.length < 64 ∧ ks.Pairwise (· ≤ ·) then some (.ref M.length, M ++ [.lst (ks.map W.int)]) else none
      | none => none
    | _ => none
  | _ => none
def rSortD : List V → Hp → VK → Prop := fun xs H Q => ∃ (a : Addr) (kvs : List (Key × V)) (ks : List Int), xs = [.ref a] ∧ L2.Rd H a (.dK kvs) ∧ kvs.map (·.1) = ks.map Sum.inl ∧ ks.length < 64 ∧
    ∀ (ys : List Int) (p : Addr), ys.Perm ks → ys.Pairwise (· ≤ ·) → H p = none → Q (.ref p) (upd H p (.lst (ys.map V.int)))
theorem cr_sortD {X : Cx} (hc : X.calm = true) : CallR X (.builtin "sorted") rSortD := call_sortedDI hc
theorem keysI : ∀ {kvs : List (Key × V)} {ks : List Int}, kvs.map (fun p => keyW p.1) = ks.map W.int → kvs.map (·.1) = ks.map Sum.inl
  | [], [], _ => rfl
  | [], _ :: _, h => by cases h
  | _ :: _, [], h => by cases h
  | p :: kvs, k :: ks, h => by
    simp only [List.map_cons, List.cons.injEq] at h ⊢
    refine ⟨?_, keysI h.2⟩
    have := h.1
    cases hp : p.1 with
    | inl i => rw [hp] at this; cases this; rfl
    | inr z => rw [hp] at this; cases this
theorem n_sortD : LiftN K rSortD pSortD := by
  intro H loc M ws vs w M' Q s r e aft
  unfold pSortD at e
  split at e
  · split at e
    · rename_i zs hz
      split at e
      · rename_i ks hks
        split at e
        · rename_i hc
          cases e
          match vs, r with
          | [_], .cons (.ref (a := a) hn) .nil =>
            obtain ⟨kvs, h1, h2, h3, h4⟩ := s.ok _ _ _ hn hz
            refine ⟨a, kvs, ks, rfl, .inl h1, keysI (by rw [h2, asInts_some hks]), hc.1, fun ys p hp hs hH => ?_⟩
            have e1 : ys = ks := List.Perm.eq_of_pairwise (fun a b _ _ h1 h2 => Int.le_antisymm h1 h2) hs hc.2 hp
            subst e1
            exact aft_lst s (rds_ints ys) hH aft
        · cases e
      · cases e
    · cases e
  · cases e
/-- max of three -/
def pMax3 : Fn := fun ws M => match ws with
  | [.int i, .int j, .int k] => some (.int (if (if i < j then j else i) < k then k else (if i < j then j else i)), M)
  | _ => none
@[simp] theorem pMax3_eq {M : Mem} (i j k : Int) : pMax3 [.int i, .int j, .int k] M = some (.int (if (if i < j then j else i) < k then k else (if i < j then j else i)), M) := nr rfl
theorem n_max3 : LiftN K (rNuC3 nuMax3) pMax3 := by
  intro H loc M ws vs w M' Q s r e aft
  unfold pMax3 at e
  split at e
  · rename_i i j k
    cases e
    match vs, r with
    | [_, _, _], .cons (.int _) (.cons (.int _) (.cons (.int _) .nil)) =>
      refine ⟨_, _, _, V.int (if (if i < j then j else i) < k then k else (if i < j then j else i)), rfl, ?_, aft _ H loc s (.int _) .refl (List.prefix_refl _)⟩
      have h2 : ∀ a b : Int, nuMax2 (.int a) (.int b) = some (.int (if a < b then b else a)) := fun a b => by
        show some (if decide (a < b) = true then V.int b else V.int a) = _
        by_cases h : a < b <;> simp [h]
      show (nuMax2 (.int i) (.int j)).bind _ = _
      rw [h2, Option.bind_some, h2]
  · cases e
/-! ### in a list -/
def gInD (M : Mem) (x y : W) : Option (W × Mem) := match toD M 64 x, toD M 64 y with
  | some d, some (.list ds) => some (.bl (ds.any fun z => PyData.eqv z d), M)
  | _, _ => none
def gNotInD (M : Mem) (x y : W) : Option (W × Mem) := match toD M 64 x, toD M 64 y with
  | some d, some (.list ds) => some (.bl (!ds.any fun z => PyData.eqv z d), M)
  | _, _ => none
theorem in_aux {M : Mem} {x y : W} {v u : V} {d : PyData} {ds : List PyData} (s : Store K H loc M) (rx : Rd K H loc v x) (ry : Rd K H loc u y) (h1 : toD M 64 x = some d) (h2 : toD M 64 y = some (.list ds)) :
    Dp K H v d ∧ Dp K H u (.list ds) ∧ SeqAt.shaped d = true ∧ SeqAt.shaped (.list ds) = true := by
  obtain ⟨g1, g2, g3⟩ := toD_ok s 64 v x d rx h1
  obtain ⟨g4, g5, g6⟩ := toD_ok s 64 u y _ ry h2
  exact ⟨g1, g4, by rw [SeqAt.shaped, g2, decide_eq_true g3]; rfl, by rw [SeqAt.shaped, g5, decide_eq_true g6]; rfl⟩
theorem l_inD : Lift2 K (rInD K) gInD := by
  intro H loc M x y v u w M' Q s rx ry e aft
  unfold gInD at e
  split at e
  · rename_i d ds h1 h2
    cases e
    obtain ⟨g1, g2, g3, g4⟩ := in_aux s rx ry h1 h2
    exact ⟨d, ds, g1, g2, g3, g4, aft _ H loc s (.bl _) .refl (List.prefix_refl _)⟩
  · cases e
theorem l_notInD : Lift2 K (rNotInD K) gNotInD := by
  intro H loc M x y v u w M' Q s rx ry e aft
  unfold gNotInD at e
  split at e
  · rename_i d ds h1 h2
    cases e
    obtain ⟨g1, g2, g3, g4⟩ := in_aux s rx ry h1 h2
    exact ⟨d, ds, g1, g2, g3, g4, aft _ H loc s (.bl _) .refl (List.prefix_refl _)⟩
  · cases e
end
open Enc in
theorem any_enc {α : Type} [Enc α] [DecidableEq α] (hd : dep α ≤ 63) (a : α) : ∀ as : List α, ((as.map fun b => dP (enc b)).any fun z => PyData.eqv z (dP (enc a))) = decide (a ∈ as)
  | [] => rfl
  | b :: as => by
    rw [List.map_cons, List.any_cons, any_enc hd a as, eqv_P 63 _ _ (okW_mono _ _ (ok b) 63 hd) (okW_mono _ _ (ok a) 63 hd), Bool.eq_iff_iff, Bool.or_eq_true, eqE, decide_eq_true_eq, decide_eq_true_eq, List.mem_cons]
    exact ⟨fun h => h.elim (fun z => .inl z.symm) .inr, fun h => h.elim (fun z => .inl z.symm) .inr⟩
open Enc in
theorem gInD_enc {α : Type} [Enc α] [DecidableEq α] (M : Mem) (n : Nat) (as : List α) (a : α) (h : M[n]? = some (.lst (as.map enc))) (hd : dep α ≤ 63 := by decide) : gInD M (enc a) (.ref n) = some (.bl (decide (a ∈ as)), M) := by
  unfold gInD
  rw [toD_lst M n as (.inl h) hd, toD_P M 64 _ (okW_mono _ _ (ok a) 64 (by omega))]
  simp only [any_enc hd]
open Enc in
theorem gNotInD_enc {α : Type} [Enc α] [DecidableEq α] (M : Mem) (n : Nat) (as : List α) (a : α) (h : M[n]? = some (.lst (as.map enc))) (hd : dep α ≤ 63 := by decide) : gNotInD M (enc a) (.ref n) = some (.bl (!decide (a ∈ as)), M) := by
  unfold gNotInD
  rw [toD_lst M n as (.inl h) hd, toD_P M 64 _ (okW_mono _ _ (ok a) 64 (by omega))]
  simp only [any_enc hd]
end BF

set_option Elab.async false
set_option linter.all false
set_option autoImplicit false
set_option maxRecDepth 100000
/-! enumerate of lists and of tuples. -/
namespace BF
open PySem PySem.Spec
open PyProof.Rows L2
set_option maxHeartbeats 1000000 in
theorem enum_new {v : Value} {o : Obj} {H : Heap → Prop} (B : Begins v o H) : Meets (Builtin.«enumerate.__new__» ⟨[.type "enumerate", v], []⟩) (fun _ R s => H s.heap ∧ R (.ok (.ret (.ref (s.heap.push o).objs.size))) { s with heap := (s.heap.push o).push { cls := .type "enumerate", data := .fields #[.none, .bool false, .ref s.heap.objs.size, rawInt 0, .none, .none] } }) :=
  .of_wp fun prog w A R s h => by
    obtain ⟨hp, g, d, tk, os⟩ := s
    obtain ⟨h1, h2⟩ := h
    have h3 := sub_enumerate
    have it0 : ∀ {A' : Around} {E Q : Value → Shared → Prop}, Q (.ref hp.objs.size) ⟨hp.push o, g, d, tk, os⟩ → wpAny (model prog w) A' (pyIter v) Q E ⟨hp, g, d, tk, os⟩ := fun q => B.iter prog w _ _ _ _ h1 q
    wp_walk using it0
    refine wpAny_stack_any fun st => wpAny_pure ?_
    split
    · rename_i c _ _ _ _ _
      cases (c == Value.type "enumerate") <;> (wp_walk using it0; exact ⟨_, rfl, h2⟩)
    · wp_walk using it0
      exact ⟨_, rfl, h2⟩
theorem enum_call {prog : Program} {w : World} {A : Around} {E : Value → Shared → Prop} {s : Shared} {v : Value} {o : Obj} {H : Heap → Prop} {Q : Value → Shared → Prop} (B : Begins v o H) (h1 : H s.heap)
    (h : ∀ h', IsEnum h' (s.heap.objs.size + 1) s.heap.objs.size 0 .none → h'.get? s.heap.objs.size = some o → (∀ b q, s.heap.get? b = some q → h'.get? b = some q) → Q (.ref (s.heap.objs.size + 1)) { s with heap := h' }) :
    wpAny (model prog w) A (call (.type "enumerate") [v]) Q E s := by
  refine callType_new F.called_enumerate (by decide) (F.typeCall_enumerate_1 _) (F.newCall_enumerate_1 _) (fun obj => F.args_object_init_2 obj _) F.entry_enumerate_new (enum_new B) ⟨h1, ?_⟩
  have hz : (s.heap.push o).objs.size = s.heap.objs.size + 1 := Heap.size_push ..
  show _ ∧ _
  rw [hz]
  have he := Heap.get?_push_size (s.heap.push o) (o := { cls := .type "enumerate", data := .fields #[.none, .bool false, .ref s.heap.objs.size, rawInt 0, .none, .none] }) rfl
  rw [hz] at he
  exact ⟨⟨_, he, rfl⟩, h _ he (Heap.get?_push_of_some _ (Heap.get?_push_size _ B.free)) fun b q x => Heap.get?_push_of_some _ (Heap.get?_push_of_some _ x)⟩
/-- the tuple at a, each item in a new pair -/
def IteT (K : PySem.W.Frag) (a : Addr) : It :=
  ⟨fun i H => ∃ (xs : List V) (x : V), SqT K H a xs ∧ xs[i]? = some x, fun i H v H' => ∃ T x, v = .ref T ∧ H T = none ∧ H' = upd H T (.tup [.int (i : Nat), x]) ∧ ∀ xs, SqT K H a xs → xs[i]? = some x, fun i H => ∃ xs : List V, SqT K H a xs ∧ xs.length ≤ i⟩
theorem turn_enumT {P : Program} {w : World} {K : PySem.W.Frag} {elts : List Expr} {kk : Nat} {tpos : Pos} (a e it : Addr) :
    Turn P w K (.Tuple elts kk tpos) (IteT K a) [e, it] e (fun i h => (∃ old, IsEnum h e it ((i : Nat) : Int) old) ∧ h.IsTupleIter it a i ∧ e ≠ it ∧ a ≠ it ∧ a ≠ e) where
  mem := by simp
  obj := fun i h st b hb => by
    obtain ⟨⟨old, he⟩, ⟨o, g1, g2, g3⟩, _⟩ := st
    rcases List.mem_cons.mp hb with rfl | hb
    · exact ⟨_, he, fun v q => nomatch q⟩
    · rw [List.mem_singleton] at hb
      subst hb
      exact ⟨o, g1, fun v q => by rw [g3] at q; cases q⟩
  keep := fun i h h' st k => ⟨let ⟨old, he⟩ := st.1; ⟨old, k e (by simp) _ he⟩, st.2.1.at fun o q => k it (by simp) o q, st.2.2⟩
  item := by
    intro X hP hw hK hc i pins s σ H E I hf st hg
    subst hP hw hK
    obtain ⟨⟨old, he⟩, hit, hne, ha1, ha2⟩ := st
    obtain ⟨xs, x, hq, hx⟩ := hg
    obtain ⟨its, rv, p, hz⟩ := I.tuple hq
    obtain ⟨u, hu, ru⟩ := rv.get hx
    have hlt : i < its.toArray.size := by have := (List.getElem?_eq_some_iff.mp hu).1; simpa using this
    have l1 : e < s.heap.objs.size := Heap.lt_size he
    have l2 : it < s.heap.objs.size := by obtain ⟨_, q, _⟩ := hit; exact Heap.lt_size q
    refine wpAny_pyNext_enum_itemD (Draws.tuple (prog := X.prog) (w := X.w) (A := X.A.in1) (I.ok.hd hc) it a ha1 its.toArray) he ⟨hit, p⟩ hlt hne (fun hm => ?_) fun y h' tk hy ho hst hT hsz hk => ?_
    · rcases List.mem_cons.mp hm with q | hm
      · exact hne q
      · exact ha2 (List.mem_singleton.mp hm).symm
    have ey : y = u := by
      have : its.toArray[i]? = some u := by simpa using hu
      rw [this] at hy; exact (Option.some.inj hy).symm
    subst ey
    refine ⟨_, rfl, wpAny_letOwnedTupleGo_enum (s := { s with heap := h', toks := tk + 1 }) ho fun h'' he' sb => ?_⟩
    have hT2 : h''.get? s.heap.objs.size = some { cls := .type "tuple", data := .seq #[.int i tk, y] } := (sb.2 _ (Nat.ne_of_gt l1)).trans hT
    have new : ObjOk X.prog X.w (upd H s.heap.objs.size (.tup [.int (i : Nat), x])) h'' s.heap.objs.size (.tup [.int (i : Nat), x]) := ⟨by show 2 ≤ sizeLine; decide, [.int i tk, y], .cons ⟨_, rfl⟩ (.cons ru .nil), ⟨_, hT2, rfl, _, rfl⟩⟩
    have I1 := I.turnedNew (t' := tk + 1) (ch := [e, it]) (fun b ob hb q => (sb.2 b (fun z => hb (by simp [z]))).trans (hk b ob (fun z => hb (by simp [z])) (fun z => hb (by simp [z])) q)) hf (Nat.le_refl _) new
    refine ⟨.ref s.heap.objs.size, _, I1, rfl, ⟨_, x, rfl, I.hok.fresh (Nat.le_refl _), rfl, fun ys hy => by rw [I.tuple_inj hy hq]; exact hx⟩, ⟨⟨y, ?_⟩, hst.1.at fun o q => (sb.2 it (Ne.symm hne)).trans q, hne, ha1, ha2⟩, fun b hb => ?_⟩
    · have e1 : ((i + 1 : Nat) : Int) = (i : Int) + 1 := by omega
      rw [e1]; exact he'
    · have hb' : b < s.heap.objs.size := by
        rcases List.mem_cons.mp hb with z | hb
        · rw [z]; exact l1
        · rw [List.mem_singleton.mp hb]; exact l2
      rw [upd_ne (Nat.ne_of_lt hb')]
      exact (hf b hb).1
  done := by
    intro X hP hw hK hc i pins s σ H E I hf st hg
    subst hP hw hK
    obtain ⟨⟨old, he⟩, hit, hne, ha1, ha2⟩ := st
    obtain ⟨xs, hq, hx⟩ := hg
    obtain ⟨its, rv, p, hz⟩ := I.tuple hq
    obtain ⟨f0, f1, f2, f3, f4, f5⟩ := hf it (by simp)
    have hl := rv.length
    have hT : s.TypeIs (.ref e) "enumerate" := ⟨_, he, rfl⟩
    unfold pyNext
    refine wpAny_bind (wpAny_attempt (wpAny_callSpecial?_slot (name := Str.ofString "__next__") hT F.slot_enumerate_next (wpAny_call_entry F.slot_enumerate_next hT F.entry_enumerate_next ?_ (F.args_enumerate_next_1 _))))
    show wpAny _ _ (field (.ref e) 2 >>= _) _ _ _
    refine wpAny_bind (wpAny_field he rfl (x := .ref it) rfl ?_)
    refine wpAny_bind (wpAny_nextOf_tuple_end (I.ok.hd hc) hit p (Array.getElem?_eq_none (by simp; omega)) fun h' x he' hx' => ?_)
    obtain ⟨o, ho, hcl⟩ := hx'
    exact wpAny_bind (wpAny_isInstance (T := "StopIteration") (b := true) ⟨o, ho, hcl⟩ isSubtype_stop (wpAny_pure ⟨rfl, I.turned (t' := s.toks) (fun b o hb q => he' b o hb q) f0 f1 f3 f4 f5⟩))
  self := fun A i s Q E st h => let ⟨⟨_, he⟩, _⟩ := st; wpAny_pyIter_enum he h
def iEnumTT (K : PySem.W.Frag) (ta : TA) : TI := fun σ H R => ta σ H fun vs H1 => ∃ a xs, vs = [.ref a] ∧ SqT K H1 a xs ∧ R (IteT K a) H1
theorem pi_enumT {X : Cx} {e : Expr} {ta : TA} {p pos tpos : Pos} {elts : List Expr} {kk : Nat} (hg : Gl X "enumerate") (hm : X.mg "enumerate" = none) (ha : PA X [e] ta) (hs : starEach [e] X.env = [(false, eval e X.env)] := by rfl) :
    PI X (.Tuple elts kk tpos) (.Call (.Name "enumerate" p) [e] [] pos) (iEnumTT X.K ta) := by
  refine ⟨fun pins s σ H R I h => Call_ (ld_blt I hg hm boot_enumerate (PyProof.Rows.callWith_type1 (thn (ha.run pos pins s σ H _ I h) fun us s1 ⟨vs, H1, I1, r1, q1⟩ => ?_) hs rfl))⟩
  obtain ⟨a, xs, ex, hq, q⟩ := q1
  subst ex
  cases r1 with
  | cons r rr =>
    cases rr
    cases r
    obtain ⟨its, rv, p', hz⟩ := I1.tuple hq
    have la : a < s1.heap.objs.size := by obtain ⟨o, ho, _⟩ := id p'; exact Heap.lt_size ho
    refine enum_call (begins_tuple a its.toArray) p' fun h' he hit hk => wpAny_pyIter_enum he ?_
    refine ⟨s1.heap.objs.size + 1, [s1.heap.objs.size + 1, s1.heap.objs.size], _, _, H1, rfl, I1.kept (t' := s1.toks) hk, turn_enumT a (s1.heap.objs.size + 1) s1.heap.objs.size, ⟨⟨.none, he⟩, ⟨_, hit, rfl, rfl⟩, Nat.succ_ne_self _, Nat.ne_of_lt la, Nat.ne_of_lt (Nat.lt_succ_of_lt la)⟩, fun b hb => ?_, q⟩
    have hle : s1.heap.objs.size ≤ b := by
      rcases List.mem_cons.mp hb with z | hb
      · rw [z]; exact Nat.le_add_right _ _
      · rw [List.mem_singleton.mp hb]; exact Nat.le_refl _
    exact I1.fpOk hle (I1.hok.fresh hle)
theorem enumW_get {ws : List W} {i : Nat} {w : W} (h : (enumW ws)[i]? = some w) : ∃ x, ws[i]? = some x ∧ w = .tup [.int (i : Nat), x] := by
  unfold enumW at h
  rw [List.getElem?_map, List.getElem?_zipIdx] at h
  cases q : ws[i]? with
  | none => rw [q] at h; cases h
  | some x => rw [q] at h; cases h; exact ⟨x, rfl, by simp⟩
theorem enumW_length (ws : List W) : (enumW ws).length = ws.length := by simp [enumW]
section
variable {K : KW} {H : Hp} {loc : List Addr}
theorem walk_of_enumT {a : Addr} {xs : List V} {ws : List W} (sq : SqT K H a xs) (r : Rds K H loc xs ws) : WalkW K H loc (IteT K a) (enumW ws) gdT :=
  fun i H1 loc1 M s ex l _ => ⟨fun w hw => by
    obtain ⟨x, hx, rfl⟩ := enumW_get hw
    obtain ⟨v, h1, h2⟩ := r.get hx
    refine ⟨⟨xs, v, ex.tup _ _ sq, h1⟩, fun y H2 q => ?_⟩
    obtain ⟨T, v', rfl, hT, rfl, f⟩ := q
    have e1 := f xs (ex.tup _ _ sq)
    rw [h1] at e1; cases e1
    have ex2 : Ext K H1 (upd H1 T (.tup [.int (i : Nat), v])) := .new hT
    exact ⟨.tup (SqT.of upd_same) (.cons (.int _) (.cons (h2.mono (ex.trans ex2) l) .nil)), s.newT hT, ex2⟩, fun hl => ⟨xs, ex.tup _ _ sq, by rw [r.length]; rw [enumW_length] at hl; exact hl⟩⟩
theorem walk_of_enumL {a : Addr} {n : Nat} {ws : List W} (hn : loc[n]? = some a) : WalkW K H loc (Ite K a) (enumW ws) (fun M' => decide (M'[n]? = some (.lst ws))) :=
  fun i H1 loc1 M s ex l hg => by
    have hg := of_decide_eq_true hg
    obtain ⟨xs, h1, r⟩ := s.ok n a _ (pre_get l hn) hg
    refine ⟨fun w hw => ?_, fun hl => ⟨xs, SqL.of h1, by rw [r.length]; rw [enumW_length] at hl; exact hl⟩⟩
    obtain ⟨x, hx, rfl⟩ := enumW_get hw
    obtain ⟨v, h2, h3⟩ := r.get hx
    refine ⟨⟨xs, v, SqL.of h1, h2⟩, fun y H2 q => ?_⟩
    obtain ⟨T, v', rfl, hT, rfl, f⟩ := q
    have e1 := f xs (SqL.of h1)
    rw [h2] at e1; cases e1
    have ex2 : Ext K H1 (upd H1 T (.tup [.int (i : Nat), v])) := .new hT
    exact ⟨.tup (SqT.of upd_same) (.cons (.int _) (.cons (h3.mono ex2 (List.prefix_refl _)) .nil)), s.newT hT, ex2⟩
end
section
variable {X : Cx} {e : Expr} {ce : CE} {p pos tpos : Pos} {elts : List Expr} {kk : Nat}
theorem i_enumT (hg : Gl X "enumerate") (hm : X.mg "enumerate" = none) (h : EA X [e] [ce]) (hs : starEach [e] X.env = [(false, eval e X.env)] := by rfl) : EI X (.Tuple elts kk tpos) (.Call (.Name "enumerate" p) [e] [] pos) (iEnumT ce) :=
  (pi_enumT hg hm h hs).mono fun σV H R ⟨loc, σ, M, ws, gd, M', rel, ev, aft⟩ => by
    obtain ⟨q, hq, ev⟩ := bind_some ev
    refine runA (p := ([q.1], q.2)) rel (by simp only [eArgs, hq, Option.bind_some]) fun vs H1 loc1 rel1 rd1 ex1 l1 => ?_
    split at ev
    · rename_i zs hz
      cases ev
      rw [hz] at rd1
      match vs, rd1 with
      | [_], .cons (.tup (a := a) (xs := xs) sq rs) .nil => exact ⟨a, xs, rfl, sq, aft _ H1 loc1 rel1.st ex1 l1 (walk_of_enumT sq rs)⟩
    · cases ev
theorem i_enumL (hg : Gl X "enumerate") (hm : X.mg "enumerate" = none) (h : EA X [e] [ce]) (hs : starEach [e] X.env = [(false, eval e X.env)] := by rfl) : EI X (.Tuple elts kk tpos) (.Call (.Name "enumerate" p) [e] [] pos) (iEnumL ce) :=
  (pi_enum hg hm h hs).mono fun σV H R ⟨loc, σ, M, ws, gd, M', rel, ev, aft⟩ => by
    obtain ⟨q, hq, ev⟩ := bind_some ev
    refine runA (p := ([q.1], q.2)) rel (by simp only [eArgs, hq, Option.bind_some]) fun vs H1 loc1 rel1 rd1 ex1 l1 => ?_
    split at ev
    · rename_i n hn
      split at ev
      · rename_i zs hz
        cases ev
        rw [hn] at rd1
        match vs, rd1 with
        | [_], .cons (.ref (a := a) ha) .nil =>
          obtain ⟨xs, h1, _⟩ := rel1.st.ok n a _ ha hz
          exact ⟨a, xs, rfl, SqL.of h1, aft _ H1 loc1 rel1.st ex1 l1 (walk_of_enumL ha)⟩
      · cases ev
    · cases ev
end
end BF

set_option Elab.async false
set_option linter.all false
set_option autoImplicit false
set_option maxRecDepth 100000
/-! Slices of texts, reversals, lengths of texts among others, in a tuple. -/
namespace BF
open PySem PySem.Spec
open PyProof.Rows L2
section
variable {prog : Program} {w : World} {A : Around} {E : Value → Shared → Prop} {s : Shared}
theorem rev_applied {sl : Addr} {vl vu vs : Value} {n : Nat} {Q : Int × Int × Nat → Shared → Prop} (hs : s.heap.IsSliceOf sl vl vu vs) (pl : IsPart vl none) (pu : IsPart vu none) (ps : IsPart vs (some (-1)))
    (h : Q ((n : Int) - 1, -1, n) s) : wpAny (model prog w) A (Builtin.Slice.sliceApplied (.ref sl) (pure (n : Int))) Q E s := by
  obtain ⟨os, hos, hcs, hds⟩ := id hs
  unfold Builtin.Slice.sliceApplied Builtin.Slice.sliceFields
  refine wpAny_bind (wpAny_bind (wpAny_field hos hds (x := vl) rfl (wpAny_bind (wpAny_field hos hds (x := vu) rfl (wpAny_bind (wpAny_field hos hds (x := vs) rfl (wpAny_pure ?_)))))))
  refine wpAny_bind (HT.slicePart_ ps ?_)
  show wpAny _ _ (if ((-1 : Int) == 0) = true then _ else _) _ _ s
  rw [if_neg (by decide)]
  refine wpAny_bind (HT.slicePart_ pl (wpAny_bind (HT.slicePart_ pu (wpAny_bind (wpAny_pure ?_)))))
  show wpAny _ _ (match Builtin.Slice.sliceAdjust none none (-1) (n : Int) with | (lo, hi) => pure (lo, (-1 : Int), Builtin.Slice.slicePlaces lo hi (-1))) _ _ s
  have e1 : Builtin.Slice.sliceAdjust none none (-1) (n : Int) = ((n : Int) - 1, -1) := by
    unfold Builtin.Slice.sliceAdjust
    simp
  rw [e1]
  have e2 : Builtin.Slice.slicePlaces ((n : Int) - 1) (-1) (-1) = n := by
    unfold Builtin.Slice.slicePlaces
    simp
    omega
  show wpAny _ _ (pure ((n : Int) - 1, (-1 : Int), Builtin.Slice.slicePlaces ((n : Int) - 1) (-1) (-1))) _ _ s
  rw [e2]
  exact wpAny_pure h
theorem rev_pick (xs : Array Value) : ((List.range xs.size).filterMap fun (k : Nat) => xs[(((xs.size : Int) - 1) + (k : Int) * -1).toNat]?).toArray = xs.toList.reverse.toArray := by
  have e : ((List.range xs.size).filterMap fun (k : Nat) => xs[(((xs.size : Int) - 1) + (k : Int) * -1).toNat]?) = ((List.range xs.size).map fun k => xs.size - 1 - k).filterMap (xs[·]?) := by
    rw [List.filterMap_map]
    congr 1
    funext k
    have : (((xs.size : Int) - 1) + (k : Int) * -1).toNat = xs.size - 1 - k := by omega
    simp only [Function.comp, this]
  rw [e, PySem.W.krv_range, List.filterMap_reverse, PySem.W.krv_all]
theorem tuple_rev {t sl : Addr} {items : Array Value} {vl vu vs : Value} {Q : Value → Shared → Prop} (ht : IsTup s.heap t items) (hs : s.heap.IsSliceOf sl vl vu vs) (pl : IsPart vl none) (pu : IsPart vu none) (ps : IsPart vs (some (-1)))
    (h : Q (.ref s.heap.objs.size) { s with heap := s.heap.push { cls := .type "tuple", data := .seq items.toList.reverse.toArray } }) (hsz : items.size ≤ sizeLine) : wpAny (model prog w) A (getItem (.ref t) (.ref sl)) Q E s := by
  have fits : sizeOk (.seq items.toList.reverse.toArray) := by
    show items.toList.reverse.toArray.size ≤ sizeLine
    rw [List.size_toArray, List.length_reverse, Array.length_toList]
    exact hsz
  obtain ⟨os, hos, hcs, hds⟩ := id hs
  have hTs : s.TypeIs (.ref sl) "slice" := ⟨os, hos, hcs⟩
  unfold getItem
  try with_reducible refine wpAny_holding ?_
  first | refine wpAny_bind (wpAny_pure ?_) | skip
  refine wpAny_bind (wpAny_sequenceKey ht.typeIs (by decide) ?_)
  refine wpAny_bind (wpAny_callSpecial?_slot (name := Str.ofString "__getitem__") ht.typeIs PyProof.Rows.slot_tuple_getitem
    (wpAny_call_entry PyProof.Rows.slot_tuple_getitem ht.typeIs PyProof.Rows.entry_tuple_getitem ?_ (PyProof.Rows.args_tuple_getitem _ _)))
  show wpAny _ _ (Builtin.Tuple.tupleItemsOf (.ref t) >>= _) _ _ s
  refine wpAny_bind (PyProof.Rows.tupleItemsOf_ ht ?_)
  refine wpAny_bind (wpAny_typeOf hTs ?_)
  rw [if_pos (by decide)]
  refine wpAny_bind (rev_applied hs pl pu ps ?_)
  have no : ¬ ((((items.size : Int) - 1) == 0 && (-1 : Int) == 1 && items.size == items.size) = true) := by simp
  show wpAny _ _ (if (((items.size : Int) - 1) == 0 && (-1 : Int) == 1 && items.size == items.size) = true then _ else _) _ _ s
  rw [if_neg no, rev_pick]
  first
    | exact wpAny_bind (m := Builtin.Tuple.tupleExact _) (wpAny_newObj_type (wpAny_pure ⟨_, rfl, wpAny_pure h⟩) fits)
    | exact wpAny_bind (m := Builtin.Tuple.tupleExact _) (wpAny_newObj_type (wpAny_bind (wpAny_pure (wpAny_pure ⟨_, rfl, wpAny_pure h⟩))) fits)
    | exact wpAny_bind (wpAny_bind (m := Builtin.Tuple.tupleExact _) (wpAny_newObj_type (wpAny_pure (wpAny_pure ⟨_, rfl, wpAny_pure h⟩)) fits))
    | exact wpAny_bind (wpAny_bind (m := Builtin.Tuple.tupleExact _) (wpAny_newObj_type (wpAny_pure ⟨_, rfl, wpAny_pure h⟩) fits))
end
section
variable {X : Cx}
def tRevA (K : PySem.W.Frag) (te : TE) : TE := fun σ H Q => te σ H fun x H1 => ∃ a xs, x = .ref a ∧ ((SqL K H1 a xs ∧ ∀ p, H1 p = none → Q (.ref p) (upd H1 p (.lst xs.reverse))) ∨ (SqT K H1 a xs ∧ ∀ p, H1 p = none → Q (.ref p) (upd H1 p (.tup xs.reverse))))
theorem vals_back {vs : List V} {us : List Value} (r : Vals vs us) : Vals vs.reverse us.reverse := r.reverse
theorem pe_revA {e : Expr} {te : TE} {k : Nat} {p1 p2 p3 pos : Pos} (he : PE X e te) : PE X (.Subscript e (.Slice none none (some (.UnaryOp .USub (.Constant (.int 1) k p1) p2)) p3) pos) (tRevA X.K te) := by
  refine ⟨fun pins s σ H Q I h => ?_⟩
  refine Subscript_ (thn (he.run pins s σ H _ I h) fun v s1 ⟨x, H1, I1, r1, q1⟩ => ?_)
  obtain ⟨a, xs, ex, q1⟩ := q1
  subst ex
  cases r1
  have hst : PO X (some (.UnaryOp .USub (.Constant (.int 1) k p1) p2)) (tPart (tUn (rU fun i => .int (-i)) (tC (.int 1)))) := po_some (pe_un un_neg pe_int)
  refine wpAny_Slice (thn (po_none.run pins s1 σ H1 (fun o H2 => o = none ∧ H2 = H1) I1 ⟨rfl, rfl⟩) fun vl s2 ⟨l, H2, I2, pl, el, e2⟩ => ?_)
  subst el e2
  refine thn (po_none.run pins s2 σ H2 (fun o H3 => o = none ∧ H3 = H2) I2 ⟨rfl, rfl⟩) fun vu s3 ⟨u, H3, I3, pu, eu, e3⟩ => ?_
  subst eu e3
  refine thn (hst.run pins s3 σ H3 (fun o H4 => o = some (-1) ∧ H4 = H3) I3 ⟨1, rfl, -1, rfl, rfl, rfl⟩) fun vs s4 ⟨o, H4, I4, ps, eo, e4⟩ => ?_
  subst eo e4
  have I5 : Inv X pins σ H4 { s4 with heap := s4.heap.push { cls := .type "slice", data := .fields #[vl, vu, vs] } } := I4.kept (t' := s4.toks) fun b ob q => Heap.get?_push_of_some _ q
  show wpAny (model X.prog X.w) X.A (subscriptTail e (.Slice none none (some (.UnaryOp .USub (.Constant (.int 1) k p1) p2)) p3) (.ref a) (.ref s4.heap.objs.size)) (EP X pins σ Q) X.xe { s4 with heap := s4.heap.push { cls := .type "slice", data := .fields #[vl, vu, vs] } }
  rcases q1 with ⟨hx, q⟩ | ⟨hx, q⟩
  · obtain ⟨its, r, ht, hz⟩ := I5.list hx
    have hlen := r.length
    refine tail_any (ops := [.ref a, .ref s4.heap.objs.size]) ht.isList.typeIs (PySem.slot_list_getitem.lookup) ?_ (by with_unfolding_all rfl)
    refine wpAny_getItem_list_slice ht.isList (Heap.IsSliceOf.new _ vl vu vs) pl pu ps (by decide) ?_ (by rw [List.size_toArray]; omega)
    rw [PySem.W.krv_pick]
    refine ⟨.ref _, _, I5.laid (t' := s4.toks) (o := .lst xs.reverse) (fun b ob q => Heap.get?_push_of_some _ q) (Nat.le_refl _) ?_, rfl, q _ (I5.hok.fresh (Nat.le_refl _))⟩
    exact ⟨by rw [List.length_reverse]; exact hz, _, 0, vals_back r, Heap.get?_push_size _ rfl⟩
  · obtain ⟨its, r, ht, hz⟩ := I5.tuple hx
    have hlen := r.length
    refine tail_any (ops := [.ref a, .ref s4.heap.objs.size]) ht.typeIs (PyProof.Rows.slot_tuple_getitem.lookup) ?_ (by with_unfolding_all rfl)
    refine tuple_rev ht (Heap.IsSliceOf.new _ vl vu vs) pl pu ps ?_ (by rw [List.size_toArray]; omega)
    refine ⟨.ref _, _, I5.laid (t' := s4.toks) (o := .tup xs.reverse) (fun b ob q => Heap.get?_push_of_some _ q) (Nat.le_refl _) ?_, rfl, q _ (I5.hok.fresh (Nat.le_refl _))⟩
    exact ⟨by rw [List.length_reverse]; exact hz, _, vals_back r, IsTup.new _ _⟩
end

/-! ### in the rules' words -/
def gRev (M : Mem) (x : W) : Option (W × Mem) := match x with
  | .tup a => some (.tup a.reverse, M)
  | .ref n => match M[n]? with
    | some (.lst a) => some (.ref M.length, M ++ [.lst a.reverse])
    | _ => none
  | _ => none
@[simp] theorem gRev_tup {M : Mem} (a : List W) : gRev M (.tup a) = some (.tup a.reverse, M) := nr rfl
@[simp] theorem gRev_ref {M : Mem} (n : Nat) : gRev M (.ref n) = match M[n]? with
    | some (.lst a) => some (.ref M.length, M ++ [.lst a.reverse])
    | _ => none := nr rfl
section
variable {K : KW}
theorem Rds.app {H : Hp} {loc : List Addr} : ∀ {vs us : List V} {ws zs : List W}, Rds K H loc vs ws → Rds K H loc us zs → Rds K H loc (vs ++ us) (ws ++ zs)
  | [], _, [], _, _, h => h
  | _ :: _, _, _ :: _, _, .cons a b, h => .cons a (b.app h)
end
section
variable {X : Cx} {a e : Expr} {ca ce : CE} {pos : Pos}
theorem r_rev {k : Nat} {p1 p2 p3 : Pos} (ha : EV X a ca) : EV X (.Subscript a (.Slice none none (some (.UnaryOp .USub (.Constant (.int 1) k p1) p2)) p3) pos) (e1 gRev ca) :=
  (pe_revA ha).mono fun σV H Q ⟨loc, σ, M, w, M', rel, e, aft⟩ => by
    obtain ⟨p, hp, e⟩ := bind_some e
    refine run1 rel hp fun v H1 loc1 rel1 rd1 ex1 l1 => ?_
    unfold gRev at e
    split at e
    · rename_i zs hz
      cases e
      rw [hz] at rd1
      cases rd1 with
      | @tup q xs ws sq rs => exact ⟨q, xs, rfl, .inr ⟨sq, fun c hc => aft_tup rel1.st rs.rev hc (aft.after ex1 l1)⟩⟩
    · rename_i n hz
      rw [hz] at rd1
      cases rd1 with
      | @ref q n hn =>
        split at e
        · rename_i ws hw
          cases e
          obtain ⟨xs, q1, q2⟩ := rel1.st.ok _ _ _ hn hw
          exact ⟨q, xs, rfl, .inl ⟨SqL.of q1, fun c hc => aft_lst rel1.st q2.rev hc (aft.after ex1 l1)⟩⟩
        · cases e
    · cases e
end
/-! ### slices of texts -/
def cutT (z : Str) (lo hi : Option Int) : Str := ⟨(cutW z.cps.toList lo hi).toArray⟩
theorem cutT_eq (z : Str) (lo hi : Option Int) : cutT z lo hi = cutS z lo hi := by
  unfold cutT cutS cutW
  rw [sIx_eq, sIx_eq, Array.length_toList]
  rfl
def gSlS (M : Mem) (x : W) (lo hi : Option Int) : Option (W × Mem) := match x with
  | .str z => some (.str (cutT z lo hi), M)
  | _ => none
@[simp] theorem gSlS_str {M : Mem} (z : Str) (lo hi : Option Int) : gSlS M (.str z) lo hi = some (.str (cutT z lo hi), M) := nr rfl
theorem cutT_mem {z : Str} {lo hi : Option Int} : ∀ c ∈ (cutT z lo hi).cps.toList, c ∈ z.cps.toList := by
  intro c hc
  unfold cutT cutW at hc
  simp only at hc
  exact List.mem_of_mem_drop (List.mem_of_mem_take hc)
theorem strOk_iff (z : Str) : PyData.strOk z = true ↔ ∀ c ∈ z.cps.toList, c < 0x110000 := by
  unfold PyData.strOk
  rw [← Array.all_toList, List.all_eq_true]
  exact ⟨fun h c hc => of_decide_eq_true (h c hc), fun h c hc => decide_eq_true (h c hc)⟩
def eSlS (e : CE) (lo hi : Option CE) : CE := fun σ M => (e σ M).bind fun p => (ePart lo σ p.2).bind fun q => (ePart hi σ q.2).bind fun r => gSlS r.2 p.1 q.1 r.1
@[simp] theorem eSlS_eq {σ : Sl} {M : Mem} (e : CE) (lo hi : Option CE) : eSlS e lo hi σ M = (e σ M).bind fun p => (ePart lo σ p.2).bind fun q => (ePart hi σ q.2).bind fun r => gSlS r.2 p.1 q.1 r.1 := nr rfl
section
variable {K : KW}
theorem l_slS : LiftS K rSlS gSlS := by
  intro H loc M x v lo hi w M' Q s rx e aft
  unfold gSlS at e
  split at e
  · rename_i z
    cases e
    cases rx with
    | str _ h1 h2 =>
      refine ⟨z, rfl, by rw [sizeLine_eq]; exact h2, ?_⟩
      rw [← cutT_eq]
      refine aft _ H loc s (.str _ ?_ ?_) .refl (List.prefix_refl _)
      · rw [strOk_iff] at h1 ⊢
        exact fun c hc => h1 c (cutT_mem c hc)
      · rw [cutT_eq]
        exact Nat.le_trans (cutS_length z lo hi) h2
  · cases e
end
section
variable {X : Cx} {a : Expr} {ca : CE} {pos : Pos}
theorem r_slS {lo hi : Option Expr} {cl ch : Option CE} {p2 : Pos} (ha : EV X a ca) (h1 : EO X lo cl) (h2 : EO X hi ch) : EV X (.Subscript a (.Slice lo hi none p2) pos) (eSlS ca cl ch) :=
  (pe_slice sl_str ha h1 h2).mono fun σV H Q ⟨loc, σ, M, w, M', rel, e, aft⟩ => by
    obtain ⟨p, hp, e⟩ := bind_some e
    obtain ⟨q, hq, e⟩ := bind_some e
    obtain ⟨t, ht, e⟩ := bind_some e
    refine run1 rel hp fun v H1 loc1 rel1 rd1 ex1 l1 => ?_
    refine ⟨loc1, σ, p.2, q.1, q.2, rel1, hq, fun H2 loc2 s2 ex2 l2 => ?_⟩
    have rel2 := rel1.move s2 ex2 l2
    refine ⟨loc2, σ, q.2, t.1, t.2, rel2, ht, fun H3 loc3 s3 ex3 l3 => ?_⟩
    exact l_slS H3 loc3 t.2 p.1 v q.1 t.1 w M' Q s3 (rd1.mono (ex2.trans ex3) (l2.trans l3)) e (aft.after ((ex1.trans ex2).trans ex3) ((l1.trans l2).trans l3))
end
/-! ### in a tuple -/
def rInU (K : PySem.W.Frag) : R2 := fun x y H Q => ∃ d ds, Dp K H x d ∧ Dp K H y (.tuple ds) ∧ SeqAt.shaped d = true ∧ SeqAt.shaped (.tuple ds) = true ∧ Q (.bl (ds.any fun z => PyData.eqv z d)) H
theorem op_inU {X : Cx} (hu : X.A.units + 65 < cLine) : OpR X (compareOp .In) (rInU X.K) := by
  intro pins s σ H x y v u Q I rx ry h
  obtain ⟨d, ds, hd, he, sd, se, q⟩ := h
  obtain ⟨as, r1⟩ := Dp.reads I d x v hd rx
  obtain ⟨bs, r2⟩ := Dp.reads I (.tuple ds) y u he ry
  exact SeqAt.in_tuple_reads r2 r1 (SeqAt.canLay_of_shaped se) (SeqAt.canLay_of_shaped sd) (room_in_shaped sd hu) ⟨.bl _, H, I, rfl, q⟩
def gInU (M : Mem) (x y : W) : Option (W × Mem) := match toD M 64 x, toD M 64 y with
  | some d, some (.tuple ds) => some (.bl (ds.any fun z => PyData.eqv z d), M)
  | _, _ => none
theorem gInU_eq {M : Mem} (x y : W) : gInU M x y = match toD M 64 x, toD M 64 y with
  | some d, some (.tuple ds) => some (.bl (ds.any fun z => PyData.eqv z d), M)
  | _, _ => none := nr rfl
section
variable {K : KW}
theorem l_inU : Lift2 K (rInU K) gInU := by
  intro H loc M x y v u w M' Q s rx ry e aft
  unfold gInU at e
  split at e
  · rename_i d ds h1 h2
    cases e
    obtain ⟨g1, g2, g3⟩ := toD_ok s 64 v x d rx h1
    obtain ⟨g4, g5, g6⟩ := toD_ok s 64 u y _ ry h2
    exact ⟨d, ds, g1, g4, by rw [SeqAt.shaped, g2, decide_eq_true g3]; rfl, by rw [SeqAt.shaped, g5, decide_eq_true g6]; rfl, aft _ H loc s (.bl _) .refl (List.prefix_refl _)⟩
  · cases e
end
/-! ### insert -/
def mInsert : Fn := fun ws M => match ws with
  | [.ref n, .int i, w] => match M[n]? with
    | some (.lst a) => if a.length < 16777216 ∧ 0 ≤ i ∧ small62 i = true then some (.non, M.set n (.lst (a.take i.toNat ++ [w] ++ a.drop i.toNat))) else none
    | _ => none
  | _ => none
@[simp] theorem mInsert_ref {M : Mem} (n : Nat) (i : Int) (w : W) : mInsert [.ref n, .int i, w] M = match M[n]? with
    | some (.lst a) => if a.length < 16777216 ∧ 0 ≤ i ∧ small62 i = true then some (.non, M.set n (.lst (a.take i.toNat ++ [w] ++ a.drop i.toNat))) else none
    | _ => none := nr rfl
def rInsert : V → List V → Hp → VK → Prop := fun x vs H Q => ∃ (l : Addr) (xs : List V) (i : Int) (y : V), x = .ref l ∧ vs = [.int i, y] ∧ H l = some (.lst xs) ∧ xs.length < sizeLine ∧ 0 ≤ i ∧ i < 2 ^ 63 ∧
    Q .non (upd H l (.lst (xs.take i.toNat ++ [y] ++ xs.drop i.toNat)))
theorem mt_insertW {X : Cx} : MtR X "list.insert" rInsert := mt_insert
section
variable {K : KW}
theorem m_insert : LiftN K (fun vs H Q => ∃ v us, vs = v :: us ∧ rInsert v us H Q) mInsert := by
  intro H loc M ws vs w M' Q s r e aft
  unfold mInsert at e
  split at e
  · match vs, r with
    | [_, _, v], .cons (.ref (a := a) hn) (.cons (.int i) (.cons rv .nil)) =>
      split at e
      · rename_i zs hz
        split at e
        · rename_i hl
          cases e
          obtain ⟨xs, q1, q2⟩ := s.ok _ _ _ hn hz
          obtain ⟨b1, b2⟩ := small62_iff hl.2.2
          exact ⟨_, _, rfl, a, xs, i, v, rfl, rfl, q1, by rw [q2.length, sizeLine_eq]; exact hl.1, hl.2.1, by omega, aft_put s hn hz q1 (((q2.take _).append (.cons rv .nil)).append (q2.drop _)) .non aft⟩
        · cases e
      · cases e
  · cases e
end
end BF

set_option Elab.async false
set_option linter.all false
set_option autoImplicit false
set_option maxRecDepth 100000
/-! Instances of one class: fields, methods, making; len, ==, isinstance by the text's own words; what may raise. -/
namespace BF
open PySem PySem.Spec
open PyProof.Rows L2

/-! ### plain -/
/-- o.f of an instance with the one field f -/
def gFld (f : Str) (M : Mem) (x : W) : Option (W × Mem) := match x with
  | .ref n => match M[n]? with
    | some (.dT .tab [(k, w)]) => if k = .str f then some (w, M) else none
    | _ => none
  | _ => none
@[simp] theorem gFld_ref {f : Str} {M : Mem} (n : Nat) : gFld f M (.ref n) = match M[n]? with
    | some (.dT .tab [(k, w)]) => if k = .str f then some (w, M) else none
    | _ => none := nr rfl
/-- an instance with no field but f -/
def isTab (f : Str) (M : Mem) (x : W) : Bool := match x with
  | .ref n => match M[n]? with
    | some (.dT .tab []) => true
    | some (.dT .tab [(k, _)]) => decide (k = .str f)
    | _ => false
  | _ => false
@[simp] theorem isTab_ref {f : Str} {M : Mem} (n : Nat) : isTab f M (.ref n) = match M[n]? with
    | some (.dT .tab []) => true
    | some (.dT .tab [(k, _)]) => decide (k = .str f)
    | _ => false := nr rfl
def putFld (f : Str) (M : Mem) (x w : W) : Option Mem := match x with
  | .ref n => if isTab f M (.ref n) = true then some (M.set n (.dT .tab [(.str f, w)])) else none
  | _ => none
@[simp] theorem putFld_ref {f : Str} {M : Mem} (n : Nat) (w : W) : putFld f M (.ref n) w = if isTab f M (.ref n) = true then some (M.set n (.dT .tab [(.str f, w)])) else none := nr rfl
/-- o.f = e -/
def sFldW (f : Str) (o e : CE) : CS := fun σ M => (e σ M).bind fun p => (o σ p.2).bind fun q => (putFld f q.2 q.1 p.1).bind fun M' => some (.nx σ M')
@[simp] theorem sFldW_eq {σ : Sl} {M : Mem} (f : Str) (o e : CE) : sFldW f o e σ M = (e σ M).bind fun p => (o σ p.2).bind fun q => (putFld f q.2 q.1 p.1).bind fun M' => some (.nx σ M') := nr rfl
/-- o.m(..) -/
def eMT (f : Str) (F : Fn) (o : CE) (as : List CE) : CE := fun σ M => (o σ M).bind fun p => if isTab f p.2 p.1 = true then (eArgs as σ p.2).bind fun q => F (p.1 :: q.1) q.2 else none
@[simp] theorem eMT_eq {σ : Sl} {M : Mem} (f : Str) (F : Fn) (o : CE) (as : List CE) : eMT f F o as σ M = (o σ M).bind fun p => if isTab f p.2 p.1 = true then (eArgs as σ p.2).bind fun q => F (p.1 :: q.1) q.2 else none := nr rfl
/-- what a def that may raise gives: a value, or the name of an error's class -/
inductive Res where
  | ok (w : W) (M : Mem)
  | er (c : Str) (M : Mem)
abbrev FnX := List W → Mem → Option Res
/-- C(..), by its __init__ -/
def mkX (F : FnX) : FnX := fun ws M => match F (.ref M.length :: ws) (M ++ [.dT .tab []]) with
  | some (.ok .non M') => some (.ok (.ref M.length) M')
  | some (.er c M') => some (.er c M')
  | _ => none
def okX (F : FnX) : Fn := fun ws M => match F ws M with
  | some (.ok w M') => some (w, M')
  | _ => none

/-! ### kept -/
/-- what the text says of the class -/
structure TabC (K : PySem.W.Frag) (mg : Str → Option Value) (f : Str) : Prop where
  cl : Cls K (tabOf mg)
  nF : NoAttr K (tabOf mg) f
  ok : PyData.strOk f = true
  ln : f.length ≤ 16777216
section
variable {K : KW} {H : Hp} {loc : List Addr} {M : Mem}
theorem tab_at {f : Str} {x : W} {v : V} (s : Store K H loc M) (r : Rd K H loc v x) (h : isTab f M x = true) : ∃ a n dx fs ws, x = .ref n ∧ v = .ref a ∧ loc[n]? = some a ∧ M[n]? = some (.dT .tab ws) ∧ H a = some (.ins K.tc dx fs) ∧
    FlatOk K H loc (fs.map fun p => (Sum.inr p.1, p.2)) ws ∧ (∀ m, m ≠ f → fs.lookup m = none) ∧ fs.length ≤ 1 := by
  cases r with
  | @ref a n hn =>
    unfold isTab at h
    simp only at h
    split at h
    · rename_i hw
      obtain ⟨dx, fs, h1, h2⟩ := s.ok _ _ _ hn hw
      have : fs = [] := by
        have e := h2.keys
        rw [List.map_map] at e
        exact List.map_eq_nil_iff.mp e
      subst this
      exact ⟨a, n, dx, [], [], rfl, rfl, hn, hw, h1, h2, fun _ _ => rfl, by simp⟩
    · rename_i k w hw
      have hk := of_decide_eq_true h
      subst hk
      obtain ⟨dx, fs, h1, h2⟩ := s.ok _ _ _ hn hw
      have e := h2.keys
      rw [List.map_map] at e
      match fs, e with
      | [(g, u)], e =>
        simp only [List.map_cons, List.map_nil, Function.comp, keyW, List.cons.injEq, W.str.injEq, and_true] at e
        subst e
        refine ⟨a, n, dx, [(g, u)], _, rfl, rfl, hn, hw, h1, h2, fun m hm => ?_, by simp⟩
        have : (m == g) = false := beq_eq_false_iff_ne.mpr hm
        simp [List.lookup, this]
      | [], e => cases e
      | _ :: _ :: _, e => simp at e
    · cases h
  | _ => cases h
end
section
variable {X : Cx} {e o value : Expr} {f : Str} {ce co : CE} {pos pos' : Pos}
theorem r_fld (T : TabC X.K X.mg f) (he : EV X e ce) (hb : attributeBase e f X.env (eval e X.env) = eval e X.env := by rfl) : EV X (.Attribute e f pos) (e1 (gFld f) ce) :=
  (pe_fld he hb).mono fun σV H Q ⟨loc, σ, M, w, M', rel, ev, aft⟩ => by
    obtain ⟨p, hp, ev⟩ := bind_some ev
    refine run1 rel hp fun v H1 loc1 rel1 rd1 ex1 l1 => ?_
    unfold gFld at ev
    split at ev
    · rename_i n hx
      split at ev
      · rename_i k u hw
        split at ev
        · rename_i hk
          cases ev
          rw [hx] at rd1
          cases rd1 with
          | @ref a n hn =>
            obtain ⟨dx, fs, h1, h2⟩ := rel1.st.ok _ _ _ hn hw
            have ek := h2.keys
            have evs := h2.vs
            rw [List.map_map] at ek evs
            match fs, ek, evs with
            | [(g, v)], ek, evs =>
              simp only [List.map_cons, List.map_nil, Function.comp, keyW, List.cons.injEq, and_true] at ek evs
              rw [hk] at ek
              cases ek
              cases evs with
              | cons rv _ =>
                exact ⟨a, tabOf X.mg, dx, [(f, v)], v, rfl, h1, T.cl, T.nF, by simp [List.lookup], aft _ H1 loc1 rel1.st rv ex1 l1⟩
            | [], ek, _ => cases ek
            | _ :: _ :: _, ek, _ => simp at ek
        · cases ev
      · cases ev
    · cases ev
theorem s_fld (T : TabC X.K X.mg f) (ho : EV X o co) (hv : EV X value ce) (hs : swapsWith value (some (.Attribute o f pos')) pos.line X.env = pure false := by rfl) : ES X (.Assign [.Attribute o f pos'] value pos) (sFldW f co ce) :=
  (ps_fld ho hv hs).mono fun D σV H ⟨loc, σ, M, out, rel, ev, aft⟩ => by
    obtain ⟨p, hp, ev⟩ := bind_some ev
    obtain ⟨q, hq, ev⟩ := bind_some ev
    obtain ⟨M', hM, ev⟩ := bind_some ev
    cases ev
    refine run1 rel hp fun y H1 loc1 rel1 rd1 ex1 l1 => ?_
    refine run1 rel1 hq fun v H2 loc2 rel2 rd2 ex2 l2 => ?_
    unfold putFld at hM
    split at hM
    · rename_i n hx
      split at hM
      · rename_i ht
        cases hM
        rw [hx] at rd2
        obtain ⟨a, n', dx, fs, ws, e1, e2, hn, hw, h1, h2, hl, h3⟩ := tab_at rel2.st rd2 ht
        cases e1
        refine ⟨a, tabOf X.mg, dx, fs, e2, h1, T.cl, T.nF, by omega, ?_⟩
        have ep : L2.putF f y fs = [(f, y)] := by
          match fs, h3, hl with
          | [], _, _ => rfl
          | [(g, z)], _, hl =>
            by_cases hg : g = f
            · subst hg; simp [L2.putF]
            · have := hl g hg
              simp [List.lookup] at this
          | _ :: _ :: _, h3, _ => simp at h3
        rw [ep]
        have ex : Ext X.KW H2 (upd H2 a (.ins (tabOf X.mg) dx [(f, y)])) := .upd h1 trivial
        have rdy : Rd X.KW (upd H2 a (.ins (tabOf X.mg) dx [(f, y)])) loc2 y p.1 := (rd1.mono ex2 l2).mono ex (List.prefix_refl _)
        have st : Store X.KW (upd H2 a (.ins (tabOf X.mg) dx [(f, y)])) loc2 (q.2.set n (.dT .tab [(.str f, p.1)])) :=
          rel2.st.put hn hw rfl rfl ⟨dx, _, upd_same, rfl, fun p hp => by rw [List.mem_singleton.mp hp]; exact ⟨T.ok, T.ln⟩, .cons rdy .nil⟩
        exact aft σV _ loc2 (rel2.move st ex (List.prefix_refl _)) ((ex1.trans ex2).trans ex) (l1.trans l2)
      · cases hM
    · cases hM
end

/-! ### defs that may raise -/
def AftX (K : KW) (mg : Str → Option Value) (H : Hp) (loc : List Addr) (Q : VK) (E : XK) : Res → Prop
  | .ok w M' => Aft K H loc w M' Q
  | .er c M' => ∀ H' loc', Store K H' loc' M' → Ext K H H' → loc <+: loc' → ∃ C, mg c = some (.ref C) ∧ E (.ref C) none H'
def spX (K : KW) (mg : Str → Option Value) (n : Nat) (F : FnX) : Sp := fun vs H Q E => vs.length = n ∧ ∃ loc M ws r, Store K H loc M ∧ Rds K H loc vs ws ∧ F ws M = some r ∧ AftX K mg H loc Q E r
/-- what the text says of an error's class -/
structure ErrC (K : PySem.W.Frag) (mg : Str → Option Value) (c : Str) (C : Addr) : Prop where
  g : mg c = some (.ref C)
  x : PySem.W.excIn K C [.type "ValueError", .type "Exception", .type "BaseException", .type "object"] "ValueError.__new__" = true
  k : PySem.W.keepIn K (.ref C) = true
  b : PySem.W.subIn K (.ref C) (.type "BaseException") = some true
  t : PySem.W.typeIn K (.ref C) = some (.type "type")
/-- the body: if test: raise c("..") / rest -/
def KeepsX (n : Nat) (t : CT) (c : Str) (body : CS) (G : FnX) : Prop := ∀ ws M r, Closed M → (∀ x ∈ ws, x.closed M.length = true) → G ws M = some r → match r with
  | .er c' M' => c' = c ∧ M' = M ∧ t (ws.map some ++ List.replicate (n - ws.length) none) M = some (true, M)
  | .ok w M' => t (ws.map some ++ List.replicate (n - ws.length) none) M = some (false, M) ∧
      (body (ws.map some ++ List.replicate (n - ws.length) none) M = some (.rt w M') ∨ w = .non ∧ ∃ σ', body (ws.map some ++ List.replicate (n - ws.length) none) M = some (.nx σ' M'))
section
variable {P : Program} {w : World} {K : PySem.W.Frag} {mg : Str → Option Value} {base : Heap}
theorem fn_okX {x qual : Str} {st : Stmt} {f : Addr} {fd : FuncData} {N ps : List Str} {k : Nat} {t : CT} {c m : Str} {C : Addr} {body : CS} {G : FnX} {test : Expr} {rest : List Stmt} {j : Nat} {p1 p2 p3 p4 p5 : Pos} (F : Fun K x qual st f fd) (S : FnScope N ps (defScope st)) (e : ErrC K mg c C)
    (hb : defBody st = .If test [.Raise (some (.Call (.Name c p1) [.Constant (.str m) j p2] [] p3)) none p4] [] p5 :: rest)
    (hk : KeepsX N.length t c body G) (hg : ∀ (cdv : Value) (A : Around) (outer : List Env) (s : Shared) (H : Hp) (E : XK), Gl (cxOf (L2N.CX P w) P w K mg base N qual (defScope st) f cdv A outer s H E) c)
    (der : ∀ (cdv : Value) (A : Around) (outer : List Env) (s : Shared) (H : Hp) (E : XK), Room k (A.deeper (envOfC qual (defScope st) s.heap.objs.size f cdv)) →
      ET (cxOf (L2N.CX P w) P w K mg base N qual (defScope st) f cdv A outer s H E).nox test t ∧ ESs (cxOf (L2N.CX P w) P w K mg base N qual (defScope st) f cdv A outer s H E).nox rest body)
    (hdb : (c == ("__debug__" : Str)) = false := by decide) :
    FnOk P w K mg base (L2N.CX P w) (k + 1) f fd ps (spX ⟨K, w, tabOf mg⟩ mg ps.length G) := by
  obtain ⟨oc, od, kV, doc, pm, an, cdv, ct, osl, rfl, lk, hcd⟩ := F.ex
  refine fn_of lk hcd S (fun vs H Q E h => h.1) fun A outer s H vs Q E hr h => ?_
  obtain ⟨d1, d2⟩ := der cdv A outer s H E hr
  rw [hb]
  refine ⟨_, pss_cons (ps_if d1.nox (pss_one (L2N.ps_raise rfl (L2N.takes_of rfl rfl rfl rfl) (L2N.pmk_own PySem.F.excBase_ValueError e.x e.g e.k (raises_own e.b e.t) (hg cdv A outer s H E) hdb))) pss_nil) d2.nox, ?_⟩
  obtain ⟨hl, loc, M, ws, r, st, rd, ev, aft⟩ := h
  have hc := st.closed
  have kk := hk ws M r hc (by rw [← st.len]; exact rd.each) ev
  have rs := rel_start (N := N) st rd
  cases r with
  | er c' M' =>
    obtain ⟨rfl, rfl, ht⟩ := kk
    refine ⟨loc, _, _, true, _, rs, ht, fun H' loc' s' ex l => ?_⟩
    obtain ⟨C', hC, q⟩ := aft H' loc' s' ex l
    rw [e.g] at hC
    cases hC
    exact q
  | ok u M' =>
    obtain ⟨ht, hbody⟩ := kk
    refine ⟨loc, _, _, false, _, rs, ht, fun H' loc' s' ex l => ?_⟩
    show TS' _ body _ _ _
    have rs' := rs.move s' ex l
    rcases hbody with hb | ⟨hu, σ', hb⟩
    · exact ⟨loc', _, M, _, rs', hb, aft.after ex l⟩
    · exact ⟨loc', _, M, _, rs', hb, fun σV' H2 loc2 r2 ex2 l2 => aft .non H2 loc2 r2.st (by rw [hu]; exact .non) (ex.trans ex2) (l.trans l2)⟩
end

/-! ### methods, making -/
def KnownM (P : Program) (w : World) (K : PySem.W.Frag) (mg : Str → Option Value) (base : Heap) (k : Nat) (m : Str) (ps : List Str) (F : Fn) : Prop :=
  ∃ f fd, FnOk P w K mg base CX0 k f fd ps (spF ⟨K, w, tabOf mg⟩ ps.length F) ∧ Meth K (tabOf mg) m f ∧ Binds K fd ps []
def KnownMX (P : Program) (w : World) (K : PySem.W.Frag) (mg : Str → Option Value) (base : Heap) (k : Nat) (m : Str) (ps : List Str) (F : FnX) : Prop :=
  ∃ f fd, FnOk P w K mg base (L2N.CX P w) k f fd ps (spX ⟨K, w, tabOf mg⟩ mg ps.length F) ∧ Meth K (tabOf mg) m f ∧ Binds K fd ps []
section
variable {X : Cx} {e o : Expr} {es : List Expr} {f m : Str} {ce co : CE} {cs : List CE} {pos apos : Pos}
theorem r_mt0 {k : Nat} {x : Str} {F : Fn} {pl : Sem Bool} (T : TabC X.K X.mg f) (G : KnownM X.prog X.w X.K X.mg X.base k m [x] F) (hr : Room k X.A) (ho : EV X o co) (hm : m ≠ f := by decide)
    (ht : eval (.Call (.Attribute o m apos) [] [] pos) X.env = (do
      let ov ← eval o X.env
      standAt apos.atName
      let (f, first) ← holding [ov] (getMethod ov m pl)
      callWith pos f first (backTo pos (starEach [] X.env)) (backToKw pos (keywordEach [] X.env))) := by rfl) : EV X (.Call (.Attribute o m apos) [] [] pos) (eMT f F co []) := by
  obtain ⟨g, fd, G, gm, gb⟩ := G
  refine (pe_meth0 ho T.cl gm G hr gb .nil pass0 ht).mono fun σV H Q ⟨loc, σ, M, w, M', rel, ev, aft⟩ => ?_
  obtain ⟨p, hp, ev⟩ := bind_some ev
  refine run1 rel hp fun v H1 loc1 rel1 rd1 ex1 l1 => ?_
  split at ev
  · rename_i hi
    obtain ⟨a, n, dx, fs, ws, e1, e2, hn, hw, h1, h2, hl, h3⟩ := tab_at rel1.st rd1 hi
    rw [e2] at rd1 ⊢
    exact ⟨a, dx, fs, rfl, h1, hl m hm, rfl, loc1, p.2, [p.1], w, M', rel1.st, .cons rd1 .nil, ev, aft.after ex1 l1⟩
  · cases ev
/-- o.m(..) that may raise -/
def tMtX (C : Addr) (m : Str) (sp : Sp) (E : L2.St → XK) (ta : TE) (t : TA) : TE := fun σ H Q => ta σ H fun x H1 => ∃ a dx fs, x = .ref a ∧ H1 a = some (.ins C dx fs) ∧ fs.lookup m = none ∧ t σ H1 fun vs H2 => sp (x :: vs) H2 Q (E σ)
theorem pe_mtX {CX : CXT} {k : Nat} {C g : Addr} {fd : FuncData} {ps : List Str} {sp : Sp} {E : L2.St → XK} {ta : TE} {t : TA} {pl : Sem Bool} (he : PE X o ta) (c : Cls X.K C) (hm : Meth X.K C m g) (F : FnOk X.prog X.w X.K X.mg X.base CX k g fd ps sp) (hr : Room k X.A) (hb : Binds X.K fd ps []) (hx : ∀ σ, PassesAt CX X σ (E σ)) (ha : PA X (e :: es) t)
    (hst : starEach (e :: es) X.env = (false, eval e X.env) :: starEach es X.env := by rfl) (hpl : (backTo pos (starEach es X.env)).any (·.1) = false := by rfl)
    (ht : eval (.Call (.Attribute o m apos) (e :: es) [] pos) X.env = (do
      let ov ← eval o X.env
      standAt apos.atName
      let (f, first) ← holding [ov] (getMethod ov m pl)
      callWith pos f first (backTo pos (starEach (e :: es) X.env)) (backToKw pos (keywordEach [] X.env))) := by rfl) :
    PE X (.Call (.Attribute o m apos) (e :: es) [] pos) (tMtX C m sp E ta t) := by
  refine ⟨fun pins s σ H Q I h => ?_⟩
  refine PySem.W.methodCall_KW (pl := pl) (thn (he.run pins s σ H _ I h) fun u s1 ⟨x, H1, I1, rx, a, dx, fs, ex, ea, l, q⟩ => ?_) ht
  subst ex
  obtain rfl : u = Value.ref a := rx
  refine getmeth_ok I1 ea c hm l ?_
  refine PySem.W.callWith_K (first := [.ref a]) (h₀ := X.base) I.ok.mod.kin hm.kp (thn (ha.run pos pins s1 σ H1 _ I1 q) fun us s2 ⟨vs, H2, I2, r, q2⟩ => ⟨I2.kIn, ?_⟩) hst hpl
  exact run_fnS (us := .ref a :: us) (vs := .ref a :: vs) F hr hb (hx σ) I2 (.cons rfl r) q2
theorem pe_mtX0 {CX : CXT} {k : Nat} {C g : Addr} {fd : FuncData} {ps : List Str} {sp : Sp} {E : L2.St → XK} {ta : TE} {pl : Sem Bool} (he : PE X o ta) (c : Cls X.K C) (hm : Meth X.K C m g) (F : FnOk X.prog X.w X.K X.mg X.base CX k g fd ps sp) (hr : Room k X.A) (hb : Binds X.K fd ps []) (hx : ∀ σ, PassesAt CX X σ (E σ))
    (ht : eval (.Call (.Attribute o m apos) [] [] pos) X.env = (do
      let ov ← eval o X.env
      standAt apos.atName
      let (f, first) ← holding [ov] (getMethod ov m pl)
      callWith pos f first (backTo pos (starEach [] X.env)) (backToKw pos (keywordEach [] X.env))) := by rfl) :
    PE X (.Call (.Attribute o m apos) [] [] pos) (tMtX C m sp E ta tNil) := by
  refine ⟨fun pins s σ H Q I h => ?_⟩
  refine PySem.W.methodCall_KW (pl := pl) (thn (he.run pins s σ H _ I h) fun u s1 ⟨x, H1, I1, rx, a, dx, fs, ex, ea, l, q⟩ => ?_) ht
  subst ex
  obtain rfl : u = Value.ref a := rx
  refine getmeth_ok I1 ea c hm l ?_
  exact PySem.W.callWith_K0 (first := [.ref a]) I1.kIn hm.kp (run_fnS (us := [.ref a]) (vs := [.ref a]) F hr hb (hx σ) I1 (.cons rfl .nil) q)
/-- an expression that may raise -/
abbrev CEX := Sl → Mem → Option Res
def TCX (K : KW) (mg : Str → Option Value) (W : WX) (c : CEX) : TE := fun σV H Q => ∃ loc σ M r, Rel K loc σ M σV H ∧ c σ M = some r ∧ AftX K mg H loc Q (fun cls d H' => W cls d σV H') r
theorem AftX.after {K : KW} {mg : Str → Option Value} {H H1 : Hp} {loc loc1 : List Addr} {Q : VK} {E : XK} {r : Res} (h : AftX K mg H loc Q E r) (e : Ext K H H1) (l : loc <+: loc1) : AftX K mg H1 loc1 Q E r := by
  cases r with
  | ok w M' => exact Aft.after h e l
  | er c M' => exact fun H' loc' s ex l' => h H' loc' s (e.trans ex) (l.trans l')
/-- o.m(..) -/
def xMT (f : Str) (F : FnX) (o : CE) (as : List CE) : CEX := fun σ M => (o σ M).bind fun p => if isTab f p.2 p.1 = true then (eArgs as σ p.2).bind fun q => F (p.1 :: q.1) q.2 else none
theorem x_mt {k : Nat} {ps : List Str} {F : FnX} {W : WX} {pl : Sem Bool} (T : TabC X.K X.mg f) (G : KnownMX X.prog X.w X.K X.mg X.base k m ps F) (hr : Room k X.A) (tk : L2N.Takes X W) (ho : EV X o co) (ha : EA X (e :: es) cs) (hn : cs.length + 1 = ps.length := by rfl) (hm : m ≠ f := by decide)
    (hst : starEach (e :: es) X.env = (false, eval e X.env) :: starEach es X.env := by rfl) (hpl : (backTo pos (starEach es X.env)).any (·.1) = false := by rfl)
    (ht : eval (.Call (.Attribute o m apos) (e :: es) [] pos) X.env = (do
      let ov ← eval o X.env
      standAt apos.atName
      let (f, first) ← holding [ov] (getMethod ov m pl)
      callWith pos f first (backTo pos (starEach (e :: es) X.env)) (backToKw pos (keywordEach [] X.env))) := by rfl) :
    PE X (.Call (.Attribute o m apos) (e :: es) [] pos) (TCX X.KW X.mg W (xMT f F co cs)) := by
  obtain ⟨g, fd, G, gm, gb⟩ := G
  refine (pe_mtX ho T.cl gm G hr gb (fun σ => L2N.passAt tk σ) ha hst hpl ht).mono fun σV H Q ⟨loc, σ, M, r, rel, ev, aft⟩ => ?_
  obtain ⟨p, hp, ev⟩ := bind_some ev
  refine run1 rel hp fun v H1 loc1 rel1 rd1 ex1 l1 => ?_
  split at ev
  · rename_i hi
    obtain ⟨q, hq, ev⟩ := bind_some ev
    obtain ⟨a, n, dx, fs, ws, e1, e2, hn', hw, h1, h2, hl, h3⟩ := tab_at rel1.st rd1 hi
    rw [e2] at rd1 ⊢
    refine ⟨a, dx, fs, rfl, h1, hl m hm, ?_⟩
    refine runA rel1 hq fun vs H2 loc2 rel2 rd2 ex2 l2 => ?_
    exact ⟨by rw [List.length_cons, rd2.length, eArgs_length hq]; exact hn, loc2, q.2, p.1 :: q.1, r, rel2.st, .cons (rd1.mono ex2 l2) rd2, ev, aft.after (ex1.trans ex2) (l1.trans l2)⟩
  · cases ev
theorem x_mt0 {k : Nat} {x : Str} {F : FnX} {W : WX} {pl : Sem Bool} (T : TabC X.K X.mg f) (G : KnownMX X.prog X.w X.K X.mg X.base k m [x] F) (hr : Room k X.A) (tk : L2N.Takes X W) (ho : EV X o co) (hm : m ≠ f := by decide)
    (ht : eval (.Call (.Attribute o m apos) [] [] pos) X.env = (do
      let ov ← eval o X.env
      standAt apos.atName
      let (f, first) ← holding [ov] (getMethod ov m pl)
      callWith pos f first (backTo pos (starEach [] X.env)) (backToKw pos (keywordEach [] X.env))) := by rfl) :
    PE X (.Call (.Attribute o m apos) [] [] pos) (TCX X.KW X.mg W (xMT f F co [])) := by
  obtain ⟨g, fd, G, gm, gb⟩ := G
  refine (pe_mtX0 ho T.cl gm G hr gb (fun σ => L2N.passAt tk σ) ht).mono fun σV H Q ⟨loc, σ, M, r, rel, ev, aft⟩ => ?_
  obtain ⟨p, hp, ev⟩ := bind_some ev
  refine run1 rel hp fun v H1 loc1 rel1 rd1 ex1 l1 => ?_
  split at ev
  · rename_i hi
    obtain ⟨a, n, dx, fs, ws, e1, e2, hn', hw, h1, h2, hl, h3⟩ := tab_at rel1.st rd1 hi
    rw [e2] at rd1 ⊢
    exact ⟨a, dx, fs, rfl, h1, hl m hm, rfl, loc1, p.2, [p.1], r, rel1.st, .cons rd1 .nil, ev, aft.after ex1 l1⟩
  · cases ev
/-- what the class must have to be made -/
structure MkC (K : PySem.W.Frag) (mg : Str → Option Value) (x : Str) : Prop where
  g : mg x = some (.ref (tabOf mg))
  makes : PySem.W.makesIn K (tabOf mg) = true
  k : PySem.W.keepIn K (.ref (tabOf mg)) = true
def tMkX (C : Addr) (sp : Sp) (E : L2.St → XK) (t : TA) : TE := fun σ H Q => t σ H fun vs H1 => ∀ x dx, H1 x = none → H1 dx = none → dx ≠ x →
  sp (.ref x :: vs) (upd (upd H1 dx (.own x)) x (.ins C dx [])) (fun v H2 => v = .non ∧ Q (.ref x) H2) (E σ)
theorem pe_mkX {CX : CXT} {k : Nat} {C g : Addr} {fd : FuncData} {ps : List Str} {sp : Sp} {E : L2.St → XK} {t : TA} {x : Str} {p : Pos} (Mk : Mk X.K C g) (F : FnOk X.prog X.w X.K X.mg X.base CX k g fd ps sp) (hr : Room (k + 1) X.A) (hg : Gl X x) (hm : X.mg x = some (.ref C)) (hb : Binds X.K fd ps []) (hx : ∀ σ, PassesAt CX X σ (E σ))
    (ha : PA X (e :: es) t) (hdb : (x == ("__debug__" : Str)) = false := by decide) (he : starEach (e :: es) X.env = (false, eval e X.env) :: starEach es X.env := by rfl) (hpl : (backTo pos (starEach es X.env)).any (·.1) = false := by rfl) :
    PE X (.Call (.Name x p) (e :: es) [] pos) (tMkX C sp E t) := by
  refine ⟨fun pins s σ H Q I h => ?_⟩
  refine wpAny_Call_Name_kw (ld_glob I hg hm ?_ hdb)
  refine PySem.W.callWith_K (h₀ := X.base) I.ok.mod.kin Mk.kp (thn (ha.run pos pins s σ H _ I h) fun us s1 ⟨vs, H1, I1, r, q⟩ => ⟨I1.kIn, ?_⟩) he hpl
  have hq := q (s1.heap.objs.size + 1) s1.heap.objs.size (I1.hok.fresh (Nat.le_succ _)) (I1.hok.fresh (Nat.le_refl _)) (Nat.ne_of_lt (Nat.lt_succ_self _))
  have I2 := Inv.made (C := C) I1
  have r2 : Vals (V.ref (s1.heap.objs.size + 1) :: vs) (Value.ref (s1.heap.objs.size + 1) :: us) := .cons rfl r
  have hl : (Value.ref (s1.heap.objs.size + 1) :: us).length = ps.length := by
    have e := r2.length
    rw [F.len _ _ _ _ hq] at e
    exact e.symm
  have b := hb _ (Value.ref (s1.heap.objs.size + 1) :: us) I2.kIn (by rw [List.append_nil]; exact hl)
  rw [List.append_nil] at b
  refine wpAny_call (make_map (f := g) I1.kIn Mk.makes Mk.init (beq_iff_eq.mp Mk.fn) (codeAny_mono (F.run _ X.stack _ _ ⟨Value.ref (s1.heap.objs.size + 1) :: us, []⟩ (Value.ref (s1.heap.objs.size + 1) :: us) _ _ (E σ) (hr.make C us [])
    (I2.env0.make C us []) b r2 hq) fun r s' hq' => ?_))
  cases r with
  | error e => exact hx σ pins _ _ e s' I2 hq'
  | ok fl =>
    cases fl with
    | ret u =>
      obtain ⟨v, H', I3, rv, ev, q3⟩ := I2.after hq'
      subst ev
      exact ⟨rv, ⟨V.ref (s1.heap.objs.size + 1), H', I3, rfl, q3⟩⟩
    | next => exact False.elim hq'
    | brk => exact False.elim hq'
    | cont => exact False.elim hq'
/-- C(..) -/
def xMk (F : FnX) (as : List CE) : CEX := fun σ M => (eArgs as σ M).bind fun q => mkX F q.1 q.2
theorem mk_aux {K : KW} {mg : Str → Option Value} {n : Nat} {F : FnX} {H1 : Hp} {loc1 : List Addr} {M1 : Mem} {vs : List V} {ws : List W} {r : Res} {Q : VK} {E : XK} (hn : ws.length + 1 = n) (st : Store K H1 loc1 M1) (rd : Rds K H1 loc1 vs ws) (ev : mkX F ws M1 = some r) (aft : AftX K mg H1 loc1 Q E r) :
    ∀ x dx, H1 x = none → H1 dx = none → dx ≠ x → spX K mg n F (.ref x :: vs) (upd (upd H1 dx (.own x)) x (.ins K.tc dx [])) (fun v H2 => v = .non ∧ Q (.ref x) H2) E := fun x dx nx ndx nex => by
  have nx' : upd H1 dx (.own x) x = none := by rw [upd_ne (Ne.symm nex)]; exact nx
  have s1 : Store K (upd H1 dx (.own x)) loc1 M1 := st.newT ndx
  have ex1 : Ext K H1 (upd H1 dx (.own x)) := .new ndx
  have ex2 : Ext K (upd H1 dx (.own x)) (upd (upd H1 dx (.own x)) x (.ins K.tc dx [])) := .new nx'
  have s2 : Store K (upd (upd H1 dx (.own x)) x (.ins K.tc dx [])) (loc1 ++ [x]) (M1 ++ [.dT .tab []]) := s1.new nx' ⟨dx, [], upd_same, ⟨rfl, fun p hp => (by cases hp), Rds.nil⟩⟩
  have lx : (loc1 ++ [x])[M1.length]? = some x := by rw [← st.len]; exact List.getElem?_concat_length
  have ex := ex1.trans ex2
  have l : loc1 <+: loc1 ++ [x] := List.prefix_append _ _
  have rds := Rds.cons (Rd.ref (K := K) (H := upd (upd H1 dx (.own x)) x (.ins K.tc dx [])) lx) (rd.mono ex l)
  unfold mkX at ev
  split at ev
  · rename_i M' hF
    cases ev
    refine ⟨by rw [List.length_cons, rd.length]; exact hn, loc1 ++ [x], M1 ++ [.dT .tab []], .ref M1.length :: ws, .ok .non M', s2, rds, hF, fun v H' loc' s' r' e' l' => ?_⟩
    cases r'
    refine ⟨rfl, aft (.ref x) H' loc' s' (.ref ?_) (ex.trans e') (l.trans l')⟩
    exact pre_get l' lx
  · rename_i c M' hF
    cases ev
    exact ⟨by rw [List.length_cons, rd.length]; exact hn, loc1 ++ [x], M1 ++ [.dT .tab []], .ref M1.length :: ws, .er c M', s2, rds, hF, fun H' loc' s' e' l' => aft H' loc' s' (ex.trans e') (l.trans l')⟩
  · cases ev
theorem x_mk {k : Nat} {ps : List Str} {F : FnX} {W : WX} {x : Str} {p : Pos} (T : MkC X.K X.mg x) (G : KnownMX X.prog X.w X.K X.mg X.base k "__init__" ps F) (hr : Room (k + 1) X.A) (hg : Gl X x) (tk : L2N.Takes X W) (ha : EA X (e :: es) cs) (hn : cs.length + 1 = ps.length := by rfl)
    (hdb : (x == ("__debug__" : Str)) = false := by decide) (he : starEach (e :: es) X.env = (false, eval e X.env) :: starEach es X.env := by rfl) (hpl : (backTo pos (starEach es X.env)).any (·.1) = false := by rfl) :
    PE X (.Call (.Name x p) (e :: es) [] pos) (TCX X.KW X.mg W (xMk F cs)) := by
  obtain ⟨g, fd, G, gm, gb⟩ := G
  refine (pe_mkX ⟨T.makes, gm.at_, gm.fn, T.k⟩ G hr hg T.g gb (fun σ => L2N.passAt tk σ) ha hdb he hpl).mono fun σV H Q ⟨loc, σ, M, r, rel, ev, aft⟩ => ?_
  obtain ⟨q, hq, ev⟩ := bind_some ev
  refine runA rel hq fun vs H1 loc1 rel1 rd1 ex1 l1 => ?_
  exact mk_aux (K := X.KW) (by rw [eArgs_length hq]; exact hn) rel1.st rd1 ev (aft.after ex1 l1)
/-- .. where it doesn't raise -/
theorem r_mk {k : Nat} {ps : List Str} {F : FnX} {x : Str} {p : Pos} (T : MkC X.K X.mg x) (G : KnownMX X.prog X.w X.K X.mg X.base k "__init__" ps F) (hr : Room (k + 1) X.A) (hg : Gl X x) (ha : EA X (e :: es) cs) (hn : cs.length + 1 = ps.length := by rfl)
    (hdb : (x == ("__debug__" : Str)) = false := by decide) (he : starEach (e :: es) X.env = (false, eval e X.env) :: starEach es X.env := by rfl) (hpl : (backTo pos (starEach es X.env)).any (·.1) = false := by rfl) :
    EV X (.Call (.Name x p) (e :: es) [] pos) (eN (okX (mkX F)) cs) := by
  obtain ⟨g, fd, G, gm, gb⟩ := G
  refine (pe_mkX (E := fun _ _ _ _ => False) ⟨T.makes, gm.at_, gm.fn, T.k⟩ G hr hg T.g gb (fun σ pins H s e s' I c => by
    obtain ⟨_, _, _, _, _, _, _, _, _, _, _, _, h⟩ := c
    exact h.elim) ha hdb he hpl).mono fun σV H Q ⟨loc, σ, M, w, M', rel, ev, aft⟩ => ?_
  obtain ⟨q, hq, ev⟩ := bind_some ev
  refine runA rel hq fun vs H1 loc1 rel1 rd1 ex1 l1 => ?_
  unfold okX at ev
  split at ev
  · rename_i hm
    cases ev
    exact mk_aux (K := X.KW) (r := .ok w M') (by rw [eArgs_length hq]; exact hn) rel1.st rd1 hm (show Aft _ _ _ _ _ _ from aft.after ex1 l1)
  · cases ev
end
end BF

set_option Elab.async false
set_option linter.all false
set_option autoImplicit false
set_option maxRecDepth 100000
/-! len, ==, isinstance of such instances; texts joined; a list so many times; not in a tuple. -/
namespace BF
open PySem PySem.Spec
open PyProof.Rows L2
section
variable {X : Cx} {e a b : Expr} {f : Str} {ce ca cb : CE} {pos p : Pos}
/-- a def of one's own, called from inside a built-in -/
theorem run_in {k : Nat} {g : Addr} {fd : FuncData} {ps : List Str} {F : Fn} {A : Around} {pins : List (Addr × Obj)} {σ : L2.St} {H : Hp} {s : Shared} {us : List Value} {vs : List V} {Q : VK} {E : Value → Shared → Prop}
    (G : FnOk X.prog X.w X.K X.mg X.base CX0 k g fd ps (spF X.KW ps.length F)) (hb : Binds X.K fd ps []) (hr : Room k A) (hf : A.frames = X.A.frames) (I : Inv X pins σ H s) (r : Vals vs us) (h : spF X.KW ps.length F vs H Q (fun _ _ _ => False)) :
    wpAny (model X.prog X.w) A (call (.ref g) us) (EP X pins σ Q) E s := by
  have hl : us.length = ps.length := by rw [← r.length]; exact G.len _ _ _ _ h
  have b := hb s us I.kIn (by rw [List.append_nil]; exact hl)
  rw [List.append_nil] at b
  have e0 : Env0 X.prog X.w X.K X.mg X.base A X.stack s H := by
    have e := I.env0
    exact ⟨by rw [hf]; exact e.frames, e.mod, e.bs, e.bsz, e.funs, e.frf, e.hok, e.bare⟩
  refine wpAny_call (codeAny_mono (G.run A X.stack s H ⟨us, []⟩ us vs Q (fun _ _ _ => False) hr e0 b r h) fun r s' hq => ?_)
  cases r with
  | error e => exact hq.elim
  | ok fl =>
    cases fl with
    | ret u => exact I.after hq
    | next => exact False.elim hq
    | brk => exact False.elim hq
    | cont => exact False.elim hq
/-- len(o) -/
def pLenT (f : Str) (F : Fn) : Fn := fun ws M => match ws with
  | [x] => if isTab f M x = true then match F [x] M with
      | some (.int i, M') => if 0 ≤ i ∧ small62 i = true then some (.int i, M') else none
      | _ => none
    else none
  | _ => none
theorem pLenT_eq {f : Str} {F : Fn} {M M' : Mem} {x : W} {i : Int} (h : isTab f M x = true) (hF : F [x] M = some (.int i, M')) (h0 : 0 ≤ i) (h1 : small62 i = true) : pLenT f F [x] M = some (.int i, M') := by
  unfold pLenT
  simp only [h, if_true, hF, h0, h1, and_self]
def rLenT (X : Cx) (F : Fn) : List V → Hp → VK → Prop := fun xs H Q => ∃ a dx fs, xs = [.ref a] ∧ H a = some (.ins (tabOf X.mg) dx fs) ∧ spF X.KW 1 F [.ref a] H (fun v H' => ∃ i : Int, v = .int i ∧ 0 ≤ i ∧ i < 2 ^ 63 ∧ Q (.int i) H') (fun _ _ _ => False)
theorem call_lenT {k : Nat} {x : Str} {F : Fn} (G : KnownM X.prog X.w X.K X.mg X.base k "__len__" [x] F) (hr : Room (k + 1) X.A) : CallR X (.builtin "len") (rLenT X F) := by
  intro pins s σ H xs us Q I r h
  obtain ⟨a, dx, fs, rfl, ha, h⟩ := h
  obtain ⟨g, fd, G, gm, gb⟩ := G
  obtain ⟨u, rfl, rx⟩ := vals1 r
  cases rx
  obtain ⟨mA, J, _⟩ := ins_get I.hok ha
  obtain ⟨od, J, _⟩ := J.look
  obtain ⟨m, hF⟩ := I.fr
  refine PySem.W.len_K hF I.ok.mod.kin J gm.at_ gm.fn (wpAny_mono (run_in G gb hr.in1 rfl I r h) (fun v s' hv => ?_) fun _ _ z => z)
  obtain ⟨v', H', I', rv, i, rfl, h0, h1, q⟩ := hv
  obtain ⟨t, rfl⟩ := rv
  exact ⟨⟨h0, h1⟩, .int i, H', I'.tok _, ⟨_, rfl⟩, q⟩
theorem n_lenT {F : Fn} : LiftN X.KW (rLenT X F) (pLenT f F) := by
  intro H loc M ws vs w M' Q s r ev aft
  unfold pLenT at ev
  split at ev
  · rename_i x
    split at ev
    · rename_i hi
      split at ev
      · rename_i i M1 hF
        split at ev
        · rename_i hs
          cases ev
          match vs, r with
          | [v], .cons rv .nil =>
            obtain ⟨a, n, dx, fs, ws, e1, e2, hn, hw, h1, h2, hl, h3⟩ := tab_at s rv hi
            rw [e2] at rv ⊢
            obtain ⟨b1, b2⟩ := small62_iff hs.2
            exact ⟨a, dx, fs, rfl, h1, rfl, loc, M, [x], .int i, M', s, .cons rv .nil, hF, fun v H' loc' s' r' ex l => by
              cases r'
              exact ⟨i, rfl, hs.1, by omega, aft _ H' loc' s' (.int i) ex l⟩⟩
        · cases ev
      · cases ev
    · cases ev
  · cases ev
/-- x == y, x an instance: by its own words -/
structure EqC (K : PySem.W.Frag) (mg : Str → Option Value) : Prop where
  nf : PySem.W.subIn K (.type "tuple") (.ref (tabOf mg)) = some false
def isTupW : W → Bool
  | .tup _ => true
  | _ => false
def gEqT (f : Str) (F : Fn) (M : Mem) (x y : W) : Option (W × Mem) := if (isTab f M x && (isTab f M y || isTupW y)) = true then match F [x, y] M with
    | some (.bl b, M') => some (.bl b, M')
    | _ => none
  else none
theorem gEqT_eq {f : Str} {F : Fn} {M M' : Mem} {x y : W} {b : Bool} (h : (isTab f M x && (isTab f M y || isTupW y)) = true) (hF : F [x, y] M = some (.bl b, M')) : gEqT f F M x y = some (.bl b, M') := by
  unfold gEqT
  rw [if_pos h, hF]
def rEqT (X : Cx) (F : Fn) : R2 := fun x y H Q => ∃ a dx fs, x = .ref a ∧ H a = some (.ins (tabOf X.mg) dx fs) ∧ ((∃ b dy gs, y = .ref b ∧ H b = some (.ins (tabOf X.mg) dy gs)) ∨ ∃ b xs, y = .ref b ∧ SqT X.K H b xs) ∧
  spF X.KW 2 F [x, y] H (fun v H' => ∃ c : Bool, v = .bl c ∧ Q (.bl c) H') (fun _ _ _ => False)
theorem op_eqT {k : Nat} {x y : Str} {F : Fn} (T : EqC X.K X.mg) (G : KnownM X.prog X.w X.K X.mg X.base k "__eq__" [x, y] F) (hr : Room k X.A) : OpR X (compareOp .Eq) (rEqT X F) := by
  intro pins s σ H v1 v2 u1 u2 Q I r1 r2 h
  obtain ⟨a, dx, fs, rfl, ha, hy, h⟩ := h
  obtain ⟨g, fd, G, gm, gb⟩ := G
  cases r1
  obtain ⟨mA, J, _⟩ := ins_get I.hok ha
  obtain ⟨od, J, _⟩ := J.look
  obtain ⟨m, hF⟩ := I.fr
  have fin : wpAny (model X.prog X.w) X.A (call (.ref g) [.ref a, u2]) (PySem.W.CmpBack (EP X pins σ Q)) X.xe s := by
    refine wpAny_mono (run_in (vs := [V.ref a, v2]) (us := [.ref a, u2]) G gb hr rfl I (.cons rfl (.cons r2 .nil)) h) (fun v s' hv => ?_) fun _ _ z => z
    obtain ⟨v', H', I', rv, c, rfl, q⟩ := hv
    cases rv
    exact ⟨.bl c, H', I', rfl, q⟩
  show wpAny (model X.prog X.w) X.A (richCompare .Eq (.ref a) u2) (EP X pins σ Q) X.xe s
  rcases hy with ⟨b, dy, gs, rfl, hb⟩ | ⟨b, xs, rfl, hb⟩
  · cases r2
    obtain ⟨mB, J', _⟩ := ins_get I.hok hb
    obtain ⟨od', J', _⟩ := J'.look
    exact PySem.W.cmp_K (op := .Eq) (tb := .ref (tabOf X.mg)) hr.units0 hF I.ok.mod.kin J J'.type (by simp [PySem.W.notFirst]) gm.at_ gm.fn fin
  · cases r2
    obtain ⟨its, rv, ⟨o, ho, hc, _⟩, _⟩ := I.tuple hb
    have LT : PySem.W.Looks (model X.prog X.w) s.heap (typeOf (.ref b)) (.type "tuple") := fun A Q E s k q => wpAny_typeOf_ref (k _ _ ho) (by rw [hc]; exact q)
    exact PySem.W.cmp_K (op := .Eq) (tb := .type "tuple") hr.units0 hF I.ok.mod.kin J LT (by unfold PySem.W.notFirst; rw [T.nf]; simp) gm.at_ gm.fn fin
theorem l_eqT {F : Fn} : Lift2 X.KW (rEqT X F) (gEqT f F) := by
  intro H loc M x y v u w M' Q s rx ry ev aft
  unfold gEqT at ev
  split at ev
  · rename_i hi
    rw [Bool.and_eq_true, Bool.or_eq_true] at hi
    split at ev
    · rename_i b M1 hF
      cases ev
      obtain ⟨a, n, dx, fs, ws, e1, e2, hn, hw, h1, h2, hl, h3⟩ := tab_at s rx hi.1
      refine ⟨a, dx, fs, e2, h1, ?_, rfl, loc, M, [x, y], .bl b, M', s, .cons rx (.cons ry .nil), hF, fun v H' loc' s' r' ex l => by
        cases r'
        exact ⟨b, rfl, aft _ H' loc' s' (.bl b) ex l⟩⟩
      rcases hi.2 with hy | hy
      · obtain ⟨b, n, dy, gs, ws, e1, e2, hn, hw, h1, h2, hl, h3⟩ := tab_at s ry hy
        exact .inl ⟨b, dy, gs, e2, h1⟩
      · unfold isTupW at hy
        split at hy
        · cases ry with
          | tup sq rs => exact .inr ⟨_, _, rfl, sq⟩
        · cases hy
    · cases ev
  · cases ev
/-- isinstance(x, C), C the class -/
structure IsC (K : PySem.W.Frag) (mg : Str → Option Value) (x : Str) : Prop where
  g : mg x = some (.ref (tabOf mg))
  cl : Cls K (tabOf mg)
  ha : PySem.W.findIn K (.ref (tabOf mg)) "__class__" = some (some (.builtin "object.__class__"))
  hn : PySem.W.specialIn K (.builtin "object.__class__") "__get__" = some (some (.builtin "getset_descriptor.__get__"))
  ht : PySem.W.takesIn K (.builtin "object.__class__") = some true
  hm : PySem.W.mroIn K (tabOf mg) (.type "object") = some true
  hc : (PySem.W.clsIn K (tabOf mg)).isSome = true
  ty : PySem.W.typeIn K (.ref (tabOf mg)) = some (.type "type")
  nf : PySem.W.subIn K (.type "tuple") (.ref (tabOf mg)) = some false
def gIsT (f : Str) (M : Mem) (x : W) : Option (W × Mem) := if isTab f M x = true then some (.bl true, M) else if isTupW x = true then some (.bl false, M) else none
theorem r_isT {x : Str} {p2 : Pos} (T : IsC X.K X.mg x) (hg : Gl X "isinstance") (hm : X.mg "isinstance" = none) (hgx : Gl X x) (ha : EV X e ce) (hv : bootBuiltins "isinstance" = some (.builtin "isinstance") := by decide +kernel) (hd : (x == ("__debug__" : Str)) = false := by decide)
    (he : starEach [e, .Name x p2] X.env = (false, eval e X.env) :: starEach [.Name x p2] X.env := by rfl) (hpl : (backTo pos (starEach [.Name x p2] X.env)).any (·.1) = false := by rfl) :
    EV X (.Call (.Name "isinstance" p) [e, .Name x p2] [] pos) (e1 (gIsT f) ce) :=
  (pe_callB call_isi hg hm hv (pa_cons ha (pa_cons (pe_glob (v := .ref (tabOf X.mg)) hgx T.g rfl hd) pa_nil) he) (by decide) (by decide) he hpl).mono fun σV H Q ⟨loc, σ, M, w, M', rel, ev, aft⟩ => by
    obtain ⟨q, hq, ev⟩ := bind_some ev
    refine run1 rel hq fun v H1 loc1 rel1 rd1 ex1 l1 => ?_
    unfold gIsT at ev
    split at ev
    · rename_i hi
      cases ev
      obtain ⟨a, n, dx, fs, ws, e1, e2, hn, hw, h1, h2, hl, h3⟩ := tab_at rel1.st rd1 hi
      rw [e2]
      refine ⟨.ref a, .ref (tabOf X.mg), .ref (tabOf X.mg), .ref (tabOf X.mg), true, rfl, .own _, .base (.ins h1 T.cl T.ha T.hn T.ht T.hm), ?_, aft _ H1 loc1 rel1.st (.bl _) ex1 l1⟩
      unfold PySem.W.kitOne
      rw [if_pos (by simp)]
    · split at ev
      · rename_i hi
        cases ev
        unfold isTupW at hi
        split at hi
        · rename_i zs hz
          rw [hz] at rd1
          have ty : TyX X.K H1 v (.type "tuple") := tyX_of (K := X.KW) (M := q.2) (w := .tup zs) rel1.st rd1 rfl
          refine ⟨v, .ref (tabOf X.mg), .type "tuple", .ref (tabOf X.mg), false, rfl, .own _, ty, ?_, aft _ H1 loc1 rel1.st (.bl _) ex1 l1⟩
          unfold PySem.W.kitOne
          rw [if_neg (by simp)]
          show (if ((PySem.W.clsIn X.K (tabOf X.mg)).isSome && PySem.W.typeIn X.K (.ref (tabOf X.mg)) == some (.type "type")) = true then PySem.W.subIn X.K (.type "tuple") (.ref (tabOf X.mg)) else none) = some false
          rw [T.hc, T.ty, T.nf]
          simp
        · cases hi
      · cases ev
end
/-! ### a list so many times -/
def gRepL (M : Mem) (x y : W) : Option (W × Mem) := match x, y with
  | .ref n, .int k => match M[n]? with
    | some (.lst a) => if a.length ≤ 1000 ∧ 0 ≤ k ∧ k ≤ 1000 then some (.ref M.length, M ++ [.lst (List.replicate k.toNat a).flatten]) else none
    | _ => none
  | _, _ => none
@[simp] theorem gRepL_ref {M : Mem} (n : Nat) (k : Int) : gRepL M (.ref n) (.int k) = match M[n]? with
    | some (.lst a) => if a.length ≤ 1000 ∧ 0 ≤ k ∧ k ≤ 1000 then some (.ref M.length, M ++ [.lst (List.replicate k.toNat a).flatten]) else none
    | _ => none := nr rfl
theorem l_repL {K : KW} : Lift2 K rRep gRepL := by
  intro H loc M x y v u w M' Q s rx ry ev aft
  unfold gRepL at ev
  split at ev
  · rename_i n k
    split at ev
    · rename_i a hw
      split at ev
      · rename_i hk
        cases ev
        cases ry
        cases rx with
        | @ref q n hn =>
          obtain ⟨xs, q1, q2⟩ := s.ok _ _ _ hn hw
          refine ⟨q, k, xs, rfl, rfl, q1, by omega, by omega, ?_, fun p hp => aft_lst s (rds_rep q2 _) hp aft⟩
          rw [q2.length, sizeLine_eq]
          have : k.toNat ≤ 1000 := by omega
          calc a.length * k.toNat ≤ 1000 * 1000 := Nat.mul_le_mul hk.1 this
            _ ≤ 16777216 := by omega
      · cases ev
    · cases ev
  · cases ev
/-! ### not in a tuple -/
def rNotInU (K : PySem.W.Frag) : R2 := fun x y H Q => ∃ d ds, Dp K H x d ∧ Dp K H y (.tuple ds) ∧ SeqAt.shaped d = true ∧ SeqAt.shaped (.tuple ds) = true ∧ Q (.bl (!ds.any fun z => PyData.eqv z d)) H
theorem op_notInU {X : Cx} (hu : X.A.units + 65 < cLine) : OpR X (compareOp .NotIn) (rNotInU X.K) := by
  intro pins s σ H x y v u Q I rx ry h
  obtain ⟨d, ds, hd, he, sd, se, q⟩ := h
  obtain ⟨as, r1⟩ := Dp.reads I d x v hd rx
  obtain ⟨bs, r2⟩ := Dp.reads I (.tuple ds) y u he ry
  exact SeqAt.notIn_tuple_reads r2 r1 (SeqAt.canLay_of_shaped se) (SeqAt.canLay_of_shaped sd) (room_in_shaped sd hu) ⟨.bl _, H, I, rfl, q⟩
def gNotInU (M : Mem) (x y : W) : Option (W × Mem) := match toD M 64 x, toD M 64 y with
  | some d, some (.tuple ds) => some (.bl (!ds.any fun z => PyData.eqv z d), M)
  | _, _ => none
theorem l_notInU {K : KW} : Lift2 K (rNotInU K) gNotInU := by
  intro H loc M x y v u w M' Q s rx ry e aft
  unfold gNotInU at e
  split at e
  · rename_i d ds h1 h2
    cases e
    obtain ⟨g1, g2, g3⟩ := toD_ok s 64 v x d rx h1
    obtain ⟨g4, g5, g6⟩ := toD_ok s 64 u y _ ry h2
    exact ⟨d, ds, g1, g4, by rw [SeqAt.shaped, g2, decide_eq_true g3]; rfl, by rw [SeqAt.shaped, g5, decide_eq_true g6]; rfl, aft _ H loc s (.bl _) .refl (List.prefix_refl _)⟩
  · cases e
end BF

set_option Elab.async false
set_option linter.all false
set_option autoImplicit false
set_option maxRecDepth 100000
set_option maxHeartbeats 2000000
/-! While an exception is handled: the end of a list's walk, tuples taken apart, list comprehensions. -/
namespace BFH
open PySem PySem.Spec PyProof.Rows HotX
section
variable {prog : Program} {w : World} {A : Around} {E : Value → Shared → Prop} {s : Shared}
theorem list_end_hot {it l x1 : Addr} {i : Nat} {items : Array Value} {Q : Option Value → Shared → Prop} (hot : HotAt A x1 s.heap) (hne : x1 ≠ it)
    (hit : s.heap.IsListIter it l i) (hl : s.heap.IsList l items) (hx : items[i]? = none)
    (hQ : ∀ h', Heap.ExtBut it s.heap h' → Q none { s with heap := h' }) : wpAny (model prog w) A (pyNext (.ref it)) Q E s := by
  obtain ⟨o, ho, hc, hd⟩ := id hit
  obtain ⟨ol, hol, _, nl, hdl⟩ := hl
  obtain ⟨hh, o1, vs1, h1, d1, c1⟩ := hot
  unfold pyNext
  refine wpAny_bind (wpAny_attempt (wpAny_callSpecial?_slot (name := Str.ofString "__next__") hit.typeIs slot_listiter_next
    (wpAny_call_entry slot_listiter_next hit.typeIs entry_listiter_next ?_ (args_listiter_next _))))
  show wpAny _ _ (field (.ref it) 0 >>= _) _ _ s
  refine wpAny_bind (wpAny_field ho hd (x := .ref l) rfl ?_)
  show wpAny _ _ (if (Value.ref l == Value.none) = true then _ else _) _ _ s
  rw [if_neg (show ¬ ((Value.ref l == Value.none) = true) from Bool.false_ne_true)]
  show wpAny _ _ (field (.ref it) 1 >>= _) _ _ s
  refine wpAny_bind (wpAny_field ho hd (x := .int i 0) rfl ?_)
  show wpAny _ _ (seqItems? (.ref l) >>= _) _ _ s
  refine wpAny_bind (wpAny_seqItems hol hdl ?_)
  simp only [Int.toNat_natCast, hx]
  refine wpAny_bind (wpAny_rule (wpAny_bind (wpAny_setField ho hd (by simp) ?_)))
  show wpAny _ _ (newExc (.type "StopIteration") [] >>= _) _ _ _
  refine wpAny_bind ?_
  simp only [newExc, newTuple]
  refine wpAny_bind (wpAny_newObj_type ?_ (by size_fits))
  refine wpAny_bind (m := firstArgMember _ _) (wpAny_of_eq (a := Value.none) (by first | rfl | (simp only [firstArgMember]; rfl)) ?_)
  refine wpAny_newObj_type ?_ (by size_fits)
  have h1' := (Heap.get?_update_other s.heap (Obj.mapFields (·.setIfInBounds 0 Value.none)) (Ne.symm hne)).trans h1
  refine raiseNew_hot ⟨hh, o1, vs1, Heap.get?_push_of_some _ (Heap.get?_push_of_some _ h1'), d1, c1⟩ (Nat.ne_of_lt (Heap.lt_size (Heap.get?_push_of_some _ h1'))) (Heap.get?_push_size _ rfl) rfl (by first | (simp; done) | (simp; omega) | (simp only [Array.size_append]; simp; omega)) ?_
  refine wpAny_bind (wpAny_isInstance (T := "StopIteration") (b := true) ⟨_, Heap.get?_update_self _ (Heap.get?_push_size _ rfl) rfl, rfl⟩ isSubtype_stop ?_)
  refine wpAny_pure (hQ _ fun b ob hb e => ?_)
  have e1 := (Heap.get?_update_other s.heap (Obj.mapFields (·.setIfInBounds 0 Value.none)) (Ne.symm hb)).trans e
  rw [Heap.get?_update_other _ _ (Nat.ne_of_gt (Heap.lt_size (Heap.get?_push_of_some _ e1)))]
  exact Heap.get?_push_of_some _ (Heap.get?_push_of_some _ e1)
theorem tuple_end_hot {it t x1 : Addr} {i : Nat} {items : Array Value} {Q : Option Value → Shared → Prop} (hot : HotAt A x1 s.heap) (hne : x1 ≠ it)
    (hit : IsTupIter s.heap it t i) (ht : IsTup s.heap t items) (hx : items[i]? = none)
    (hQ : ∀ h', Heap.ExtBut it s.heap h' → Q none { s with heap := h' }) : wpAny (model prog w) A (pyNext (.ref it)) Q E s := by
  obtain ⟨o, ho, hc, hd⟩ := id hit
  obtain ⟨ol, hol, _, nl, hdl⟩ := ht
  obtain ⟨hh, o1, vs1, h1, d1, c1⟩ := hot
  unfold pyNext
  refine wpAny_bind (wpAny_attempt (wpAny_callSpecial?_slot (name := Str.ofString "__next__") hit.typeIs slot_tupleiter_next
    (wpAny_call_entry slot_tupleiter_next hit.typeIs entry_tupleiter_next ?_ (args_tupleiter_next _))))
  show wpAny _ _ (field (.ref it) 0 >>= _) _ _ s
  refine wpAny_bind (wpAny_field ho hd (x := .ref t) rfl ?_)
  show wpAny _ _ (if (Value.ref t == Value.none) = true then _ else _) _ _ s
  rw [if_neg (show ¬ ((Value.ref t == Value.none) = true) from Bool.false_ne_true)]
  show wpAny _ _ (field (.ref it) 1 >>= _) _ _ s
  refine wpAny_bind (wpAny_field ho hd (x := .int i 0) rfl ?_)
  show wpAny _ _ (seqItems? (.ref t) >>= _) _ _ s
  refine wpAny_bind (wpAny_seqItems hol hdl ?_)
  simp only [Int.toNat_natCast, hx]
  refine wpAny_bind (wpAny_rule (wpAny_bind (wpAny_setField ho hd (by simp) ?_)))
  show wpAny _ _ (newExc (.type "StopIteration") [] >>= _) _ _ _
  refine wpAny_bind ?_
  simp only [newExc, newTuple]
  refine wpAny_bind (wpAny_newObj_type ?_ (by size_fits))
  refine wpAny_bind (m := firstArgMember _ _) (wpAny_of_eq (a := Value.none) (by first | rfl | (simp only [firstArgMember]; rfl)) ?_)
  refine wpAny_newObj_type ?_ (by size_fits)
  have h1' := (Heap.get?_update_other s.heap (Obj.mapFields (·.setIfInBounds 0 Value.none)) (Ne.symm hne)).trans h1
  refine raiseNew_hot ⟨hh, o1, vs1, Heap.get?_push_of_some _ (Heap.get?_push_of_some _ h1'), d1, c1⟩ (Nat.ne_of_lt (Heap.lt_size (Heap.get?_push_of_some _ h1'))) (Heap.get?_push_size _ rfl) rfl (by first | (simp; done) | (simp; omega) | (simp only [Array.size_append]; simp; omega)) ?_
  refine wpAny_bind (wpAny_isInstance (T := "StopIteration") (b := true) ⟨_, Heap.get?_update_self _ (Heap.get?_push_size _ rfl) rfl, rfl⟩ isSubtype_stop ?_)
  refine wpAny_pure (hQ _ fun b ob hb e => ?_)
  have e1 := (Heap.get?_update_other s.heap (Obj.mapFields (·.setIfInBounds 0 Value.none)) (Ne.symm hb)).trans e
  rw [Heap.get?_update_other _ _ (Nat.ne_of_gt (Heap.lt_size (Heap.get?_push_of_some _ e1)))]
  exact Heap.get?_push_of_some _ (Heap.get?_push_of_some _ e1)
theorem unpack_hot {t x1 : Addr} {items : Array Value} {Q : List Value → Shared → Prop} (hot : HotAt A x1 s.heap) (ht : IsTup s.heap t items)
    (hQ : ∀ h', Heap.ExtBut s.heap.objs.size s.heap h' → Q items.toList { s with heap := h' }) : wpAny (model prog w) A (unpackItems (.ref t) items.size none) Q E s := by
  have hlt : t ≠ s.heap.objs.size := by obtain ⟨o, ho, _⟩ := ht; exact Nat.ne_of_lt (Heap.lt_size ho)
  obtain ⟨hh, o1, vs1, h1, d1, c1⟩ := hot
  have hne : x1 ≠ s.heap.objs.size := Nat.ne_of_lt (Heap.lt_size h1)
  unfold unpackItems
  refine wpAny_bind ?_
  unfold notIterableAtAll
  refine wpAny_bind (wpAny_specialOf ht.typeIs slot_tuple_iter.lookup ?_)
  refine wpAny_pure ?_
  simp only [Bool.false_eq_true, if_false]
  refine wpAny_bind (wpAny_holding (iter_tuple ht ?_))
  refine wpAny_bind (wpAny_holding (draw_tuple hlt items.size 0 _ _ ⟨_, Heap.get?_push_size _ rfl, rfl, rfl⟩ (ht.push _) (by omega) fun h₁ hit₁ hs₁ => ?_))
  have hall : List.take items.size (List.drop 0 items.toList) = items.toList := by
    rw [List.drop_zero]; exact List.take_of_length_le (by simp)
  rw [hall]
  rw [if_neg (by simp)]
  have ht₁ : IsTup h₁ t items := (ht.push _).extBut hs₁.extBut hlt
  refine wpAny_bind (wpAny_holding (tuple_end_hot (x1 := x1) ⟨hh, o1, vs1, hs₁.extBut x1 _ hne (Heap.get?_push_of_some _ h1), d1, c1⟩ hne hit₁ ht₁ (by simp) fun h₂ he₂ => ?_))
  simp only [Option.isSome_none, Bool.false_eq_true, if_false]
  exact wpAny_pure (hQ h₂ fun b o hb e => he₂ b o hb (hs₁.extBut b o hb (Heap.get?_push_of_some _ e)))
theorem assign_hot {env : Env} {elts : List Expr} {x1} {pos : Pos} {t a1 : Addr} {items : Array Value} {Q : Unit → Shared → Prop} (hot : HotAt A a1 s.heap) (ht : IsTup s.heap t items)
    (hn : (assignEach elts env).length = items.size) (hstar : (assignEach elts env).findIdx? (·.1) = none)
    (h : ∀ h', Heap.ExtBut s.heap.objs.size s.heap h' → wpAny (model prog w) A (assignInOrder ((assignEach elts env).map (·.2)) items.toList) Q E { s with heap := h' }) :
    wpAny (model prog w) A (assign (.Tuple elts x1 pos) env (.ref t)) Q E s := by
  rw [assign_Tuple]
  refine wpAny_bind (wpAny_standAt ?_)
  unfold unpack
  rw [hn, hstar]
  exact wpAny_bind (wpAny_holding (unpack_hot hot ht h))
end
end BFH
namespace BFH
open PySem PySem.Spec PyProof.Rows HotX L2
/-- in this context an exception is handled, and stands in the heap -/
def HotS (X : Cx) : Prop := ∀ (pins : List (Addr × Obj)) (σ : L2.St) (H : Hp) (s : Shared), Inv X pins σ H s → ∃ x1, HotAt X.A x1 s.heap ∧ H x1 = none ∧ x1 ≠ X.env.locals ∧ x1 ∉ X.fs
theorem HotS.of {X : Cx} (h : L2H.HotC X) : HotS X := fun pins σ H s I => by
  obtain ⟨p, ⟨hh, v1, e1, c1⟩, hp⟩ := h
  have P1 := I.pin p (List.mem_append_left _ hp)
  exact ⟨p.1, ⟨hh, p.2, v1, P1.1, e1, c1⟩, P1.2.1, P1.2.2.1, P1.2.2.2.1⟩
/-- .. in the block of a comprehension -/
theorem HotS.blk {X : Cx} {p : Addr × Obj} {s : Shared} {H : Hp} {scope : Scope} {ce : Env} {fp : List Addr} (hot : L2H.Hot1 X.A p) (hg : s.heap.get? p.1 = some p.2) (hn : H p.1 = none) (nfs : p.1 ∉ frs X.stack) (nfp : p.1 ∉ fp) (hl : s.heap.objs.size ≤ ce.locals) : HotS (X.blk s H scope ce fp) := fun pins σ H' s' I => by
  obtain ⟨hh, v1, e1, c1⟩ := hot
  exact ⟨p.1, ⟨hh, p.2, v1, I.base.keep _ _ hg hn nfs nfp, e1, c1⟩, I.base.free _ _ hg hn nfp, Nat.ne_of_lt (Nat.lt_of_lt_of_le (Heap.lt_size hg) hl), nfs⟩
theorem pg_tupH {X : Cx} {es : List Expr} {k : Nat} {t : TGs} {n : Nat} {pos : Pos} (hc : HotS X) (h : PGs X es t)
    (hn : (assignEach es X.env).length = n := by rfl) (hst : (assignEach es X.env).findIdx? (·.1) = none := by rfl) : PG X (.Tuple es k pos) (gTup X.K n t) := by
  refine ⟨fun pins s σ H v u Q I r hw => ?_⟩
  obtain ⟨a, xs, e1, hq, hl, hw⟩ := hw
  subst e1
  cases r
  obtain ⟨its, rv, ht, hz⟩ := I.tuple hq
  obtain ⟨x1, hot, _⟩ := hc pins σ H s I
  refine assign_hot hot ht (by simp [hn, ← hl, rv.length]) hst fun h' hx => ?_
  have I1 : Inv X pins σ H { s with heap := h' } := I.kept (t' := s.toks) fun b o e => hx b o (Nat.ne_of_lt (Heap.lt_size e)) e
  exact h.run pins _ σ H xs _ Q I1 (by simpa using rv) hw
/-- a turn over a list -/
theorem item_hot {X : Cx} {tg : Expr} {a it : Addr} {i : Nat} {pins : List (Addr × Obj)} {s : Shared} {σ : L2.St} {H : Hp} {E : Value → Shared → Prop} (I : Inv X pins σ H s) (hf : FpOk X pins H it) (st : s.heap.IsListIter it a i) (hg : (Itl X.K a).go i H) :
    wpAny (model X.prog X.w) X.A (pyNext (.ref it)) (fun r s1 => ∃ u, r = some u ∧
      wpAny (model X.prog X.w) X.A (letOwnedTupleGo tg (.ref it) u) (fun _ s2 => ∃ x H', Inv X pins σ H' s2 ∧ RelV x u ∧ (Itl X.K a).yld i H x H' ∧ s2.heap.IsListIter it a (i + 1) ∧ H' it = none) E s1) E s := by
  obtain ⟨xs, x, hq, hx⟩ := hg
  obtain ⟨its, rv, p, hz⟩ := I.list hq
  obtain ⟨u, hu, ru⟩ := rv.get hx
  obtain ⟨f0, f1, f2, f3, f4, f5⟩ := hf
  refine wpAny_pyNext_list_item st p.isList (x := u) (by simpa using hu) fun h' st' sb => ?_
  have I1 : Inv X pins σ H { s with heap := h' } := I.turned (t' := s.toks) (fun b o hb e => (sb.2 b hb).trans e) f0 f1 f3 f4 f5
  obtain ⟨o, e, c, d⟩ := id st'
  exact ⟨u, rfl, go_of (s := { s with heap := h' }) e c d (by decide) ⟨x, H, I1, ru, ⟨rfl, fun ys hy => by rw [I.list_inj hy hq]; exact hx⟩, st', f0⟩⟩
theorem done_hot {X : Cx} {a it : Addr} {i : Nat} {pins : List (Addr × Obj)} {s : Shared} {σ : L2.St} {H : Hp} {E : Value → Shared → Prop} {x1 : Addr} (hot : HotAt X.A x1 s.heap) (hne : x1 ≠ it) (I : Inv X pins σ H s) (hf : FpOk X pins H it) (st : s.heap.IsListIter it a i) (hg : (Itl X.K a).stop i H) :
    wpAny (model X.prog X.w) X.A (pyNext (.ref it)) (fun r s1 => r = none ∧ Inv X pins σ H s1) E s := by
  obtain ⟨xs, hq, hx⟩ := hg
  obtain ⟨its, rv, p, hz⟩ := I.list hq
  obtain ⟨f0, f1, f2, f3, f4, f5⟩ := hf
  have hl := rv.length
  exact list_end_hot hot hne st p.isList (by simp; omega) fun h' eb => ⟨rfl, I.turned (t' := s.toks) (fun b o hb e => eb b o hb e) f0 f1 f3 f4 f5⟩
/-- a list comprehension over a list, where the exception p is handled -/
theorem lc_hot {X : Cx} {p : Addr × Obj} {pins : List (Addr × Obj)} {s : Shared} {σ : L2.St} {H : Hp} {Q : VK} {elt tg iter : Expr} {ifs : List Expr} {scope : Scope} {own : List (Str × Nat)} {pos pos' : Pos} {tl : TE} {g : TG} {tt : TT} {te : TE} {use : Option (Value → Sem Unit)} {Qf : Value → Shared → Prop}
    (hp1 : L2H.Hot1 X.A p) (hpn : p ∈ X.pn) (hN : X.N.Nodup) (I : Inv X pins σ H s) (hi : PE X iter tl) (ok : BlkOk X.N X.env.scope scope own)
    (hg : ∀ (s : Shared) (H : Hp) (C : Addr) (cl : List (Str × Addr)) (fp : List Addr), HotS (X.blk s H scope (compEnvC scope cl C X.env) fp) → PG (X.blk s H scope (compEnvC scope cl C X.env) fp) tg g) (ht : ∀ (s : Shared) (H : Hp) (C : Addr) (cl : List (Str × Addr)) (fp : List Addr), PTs (X.blk s H scope (compEnvC scope cl C X.env) fp) ifs tt)
    (he : ∀ (s : Shared) (H : Hp) (C : Addr) (cl : List (Str × Addr)) (fp : List Addr), PE (X.blk s H scope (compEnvC scope cl C X.env) fp) elt te) (hs : ∀ x, foldedSetIterable iter X.env x = pure x)
    (h : tLc (iList X.K tl) g tt te (own.map (·.2)) σ H Q)
    (hRR : ∀ D C s' m H', Inv X pins σ H' s' → Q (.ref D) H' → s'.heap.Ns C m → FpOk X pins H' C → compPost (model X.prog X.w) X.A X.xe use Qf (.ref D) C (.ok .next) s') :
    wpAny (model X.prog X.w) X.A (comprehension (.ListComp elt [⟨tg, iter, ifs, 0⟩] scope pos) scope X.env pos' (newList []) false (eval iter X.env) use) Qf X.xe s := by
  have hfree : ∀ y ∈ scope.names, y.2 = .free → ∃ c, X.env.cells.lookup y.1 = some c := fun y hy e => by
    rcases ok.free y hy e with k | k
    · exact I.ok.has _ (.inl k)
    · exact I.ok.has _ (.inr k)
  refine wpAny_comprehension_free (use := use) rfl hs (closure_ok hfree) ok.kind (fun y hy e => by rw [ok.uniq y hy, e])
    (thn (hi.run pins s σ H _ I h) fun xv s1 ⟨x, H1, I1, r1, q1⟩ => ?_)
  obtain ⟨a, e, ⟨xs0, hq0⟩, q⟩ := q1
  subst e
  cases r1
  obtain ⟨its, rv, pl, hz⟩ := I1.list hq0
  refine wpAny_pyIter_list pl.isList ?_
  have I2 : Inv X pins σ H1 { s1 with heap := s1.heap.push { cls := .type "list_iterator", data := .fields #[.ref a, .int 0 0] } } := I1.kept (t' := s1.toks) fun b o e => Heap.get?_push_of_some _ e
  have st2 : (s1.heap.push { cls := .type "list_iterator", data := .fields #[.ref a, .int 0 0] }).IsListIter s1.heap.objs.size a 0 := ⟨_, Heap.get?_push_size _ rfl, rfl, rfl⟩
  have f2 : FpOk X pins H1 s1.heap.objs.size := I1.fpOk (Nat.le_refl _) (I1.hok.fresh (Nat.le_refl _))
  have itlt : s1.heap.objs.size < (s1.heap.push { cls := .type "list_iterator", data := .fields #[.ref a, .int 0 0] }).objs.size := by rw [Heap.size_push]; exact Nat.lt_succ_self _
  generalize hit : s1.heap.objs.size = it at st2 f2 itlt
  generalize hs2 : ({ s1 with heap := s1.heap.push { cls := .type "list_iterator", data := .fields #[.ref a, .int 0 0] } } : Shared) = s2 at I2
  have st2' : s2.heap.IsListIter it a 0 := by rw [← hs2]; exact st2
  have itlt' : it < s2.heap.objs.size := by rw [← hs2]; exact itlt
  refine wpAny_newObj_type (newEnv_comp ?_) (by show 0 ≤ sizeLine; decide)
  generalize hD : s2.heap.objs.size = D
  have hDn : H1 D = none := I2.hok.fresh (Nat.le_of_eq hD)
  obtain ⟨W, ⟨m0, w0⟩, turn⟩ := q D hDn
  -- the new list
  generalize hs3 : ({ s2 with heap := s2.heap.push { cls := .type "list", data := .seq ([] : List Value).toArray } } : Shared) = s3
  have I3 : Inv X pins σ (upd H1 D (.lst [])) s3 := by
    rw [← hs3]
    refine I2.laid (t' := s2.toks) (fun b o e => Heap.get?_push_of_some _ e) (Nat.le_of_eq hD) ⟨Nat.zero_le _, [], 0, .nil, ?_⟩
    rw [← hD]
    exact Heap.get?_push_size _ rfl
  have h3 : s3.heap = s2.heap.push { cls := .type "list", data := .seq ([] : List Value).toArray } := by rw [← hs3]
  have f3 : FpOk X pins (upd H1 D (.lst [])) it ∧ it < s3.heap.objs.size := by
    refine ⟨⟨?_, f2.2⟩, by rw [h3, Heap.size_push]; exact Nat.lt_succ_of_lt itlt'⟩
    rw [upd_ne (by rw [← hD]; exact Nat.ne_of_lt itlt')]
    exact f2.1
  have keepIt : ∀ {h h' : Heap} {i : Nat}, h.IsListIter it a i → (∀ o, h.get? it = some o → h'.get? it = some o) → h'.IsListIter it a i := fun st k => st.at fun o e => k o e
  have st3 : s3.heap.IsListIter it a 0 := keepIt st2' fun o e => by rw [h3]; exact Heap.get?_push_of_some _ e
  have I4 := block_start (fp := [it]) I3 ok hN (fun b hb => by rw [List.mem_singleton.mp hb]; exact f3)
  have P3 := I3.pin p (List.mem_append_left _ hpn)
  have nst : p.1 ∉ frs X.stack := fun hm => (List.mem_cons.mp (I3.stkSub p.1 hm)).elim P3.2.2.1 P3.2.2.2.1
  have nfp1 : p.1 ≠ it := f2.2.2.2.2.2 p (List.mem_append_left _ hpn)
  have hotB : HotS (X.blk s3 (upd H1 D (.lst [])) scope (compEnvC scope (cellsFrom (s3.heap.objs.size + 1) scope.names (cloFrom X.env.cells scope.names [])) s3.heap.objs.size X.env) [it]) :=
    HotS.blk hp1 P3.1 P3.2.1 nst (by simpa using nfp1) (Nat.le_refl _)
  have pg := hg s3 (upd H1 D (.lst [])) s3.heap.objs.size (cellsFrom (s3.heap.objs.size + 1) scope.names (cloFrom X.env.cells scope.names [])) [it] hotB
  have pt := ht s3 (upd H1 D (.lst [])) s3.heap.objs.size (cellsFrom (s3.heap.objs.size + 1) scope.names (cloFrom X.env.cells scope.names [])) [it]
  have pe := he s3 (upd H1 D (.lst [])) s3.heap.objs.size (cellsFrom (s3.heap.objs.size + 1) scope.names (cloFrom X.env.cells scope.names [])) [it]
  show codeAny _ _ (.compStart (.ListComp elt [⟨tg, iter, ifs, 0⟩] scope pos) 0 (.ref it) (.ref D) (compEnvC scope (cellsFrom (s3.heap.objs.size + 1) scope.names (cloFrom X.env.cells scope.names [])) s3.heap.objs.size X.env)) (compPost (model X.prog X.w) X.A X.xe use Qf (.ref D) s3.heap.objs.size) { s3 with heap := pushCells (s3.heap.push { cls := .type "dict", data := .dict #[] }) scope.names }
  have nfp : (upd H1 D (.lst [])) it = none := f3.1.1
  have keepP : ∀ {H' : Hp} {s' : Shared}, Inv (X.blk s3 (upd H1 D (.lst [])) scope (compEnvC scope (cellsFrom (s3.heap.objs.size + 1) scope.names (cloFrom X.env.cells scope.names [])) s3.heap.objs.size X.env) [it]) [] (wipe σ (own.map (·.2))) H' s' → HotAt X.A p.1 s'.heap := fun {H' s'} I' => by
    obtain ⟨hh, v1, e1, c1⟩ := hp1
    exact ⟨hh, p.2, v1, I'.base.keep _ _ P3.1 P3.2.1 nst (by simpa using nfp1), e1, c1⟩
  generalize hce : compEnvC scope (cellsFrom (s3.heap.objs.size + 1) scope.names (cloFrom X.env.cells scope.names [])) s3.heap.objs.size X.env = ce at I4 pg pt pe hotB keepP ⊢
  have cL : ce.locals = s3.heap.objs.size := by subst hce; rfl
  generalize hH3 : upd H1 D (.lst []) = H3 at I3 I4 pg pt pe w0 nfp f3 hotB keepP P3
  generalize hs4 : ({ s3 with heap := pushCells (s3.heap.push { cls := .type "dict", data := .dict #[] }) scope.names } : Shared) = s4 at I4 ⊢
  have st4 : s4.heap.IsListIter it a 0 := keepIt st3 fun o e => by rw [← hs4]; exact pushCells_keeps _ _ _ _ (Heap.get?_push_of_some _ e)
  have stat : ∀ {σ' : L2.St} {H' : Hp} {s' : Shared}, Inv (X.blk s3 H3 scope ce [it]) [] σ' H' s' → H' it = none → FpOk (X.blk s3 H3 scope ce [it]) [] H' it := fun {σ' H' s'} I' hn =>
    ⟨hn, (I'.ok.exf it (by simp)).1, I'.ok.exfs it (by simp), .inl (by simp), fun x c e => (I'.ok.exf it (by simp)).2 x c e, fun p hp => absurd (show p ∈ ([] : List (Addr × Obj)) ++ [] from hp) (by simp)⟩
  have obj : ∀ {h : Heap} {i : Nat}, h.IsListIter it a i → ∀ b ∈ [it], ∃ o, h.get? b = some o ∧ ∀ v, o.data ≠ .cell v := fun {h i} st b hb => by
    rw [List.mem_singleton.mp hb]
    obtain ⟨o, e, c, d⟩ := st
    exact ⟨o, e, fun v z => by rw [d] at z; cases z⟩
  have loop : codeAny (model X.prog X.w) X.A (.compLoop (.ListComp elt [⟨tg, iter, ifs, 0⟩] scope pos) 0 (.ref it) (.ref D) ce) (compPost (model X.prog X.w) X.A X.xe use Qf (.ref D) s3.heap.objs.size) s4 := by
    refine compLoop_any (fun n s' => ∃ i H', Inv (X.blk s3 H3 scope ce [it]) [] (wipe σ (own.map (·.2))) H' s' ∧ s'.heap.IsListIter it a i ∧ H' it = none ∧ W i n H') ?_ m0 ⟨0, H3, I4, st4, nfp, w0⟩
    rintro n s5 ⟨i, H5, I5, st5, n5, w5⟩
    rcases turn i n H5 w5 with ⟨stop, qq⟩ | ⟨go, Nx, hNx, step⟩
    · have td := done_hot (X := X.blk s3 H3 scope ce [it]) (E := fun _ _ => False) (keepP I5) nfp1 I5 (stat I5 n5) st5 stop
      refine thnF td fun r s6 ⟨hr, I6⟩ => ?_
      subst hr
      -- back in the def's context
      have I7 : Inv X pins σ H5 s6 := I3.call' (ch := [it]) I6.os I6.base I6.hok I6.bare fun b hb => by
        rw [List.mem_singleton.mp hb]
        exact ⟨f3.1.2.2.2.1, f3.1.2.1, f3.1.2.2.2.2.1, f3.1.2.2.2.2.2⟩
      have nC : H5 s3.heap.objs.size = none := by
        have z : H5 ce.locals = none := I6.free
        rw [cL] at z
        exact z
      obtain ⟨m, hn, _⟩ := I6.loc
      have hn : s6.heap.Ns ce.locals m := hn
      rw [cL] at hn
      exact hRR D s3.heap.objs.size s6 m H5 I7 qq hn (I3.fpOk (Nat.le_refl _) nC)
    · have ti := item_hot (X := X.blk s3 H3 scope ce [it]) (tg := tg) (E := fun _ _ => False) I5 (stat I5 n5) st5 go
      refine thnF ti fun r s6 ⟨u, hr, h6⟩ => ?_
      subst hr
      refine thnF h6 fun _ s7 ⟨x, H7, I7, r7, y7, st7, n7⟩ => ?_
      have I7' := I7.pinned (fp := [it]) (fun b hb => by rw [List.mem_singleton.mp hb]; exact stat I7 n7) (obj st7)
      refine thnF (pg.run _ s7 _ H7 x u _ I7' r7 (step x H7 y7)) fun _ s8 ⟨σ8, H8, I8, hw8, q8⟩ => ?_
      refine thnF (pt.run _ s8 σ8 H8 _ I8 q8) fun b s9 ⟨H9, I9, q9⟩ => ?_
      -- the turn's end
      have fin : ∀ {s' : Shared} {H' : Hp}, Inv (X.blk s3 H3 scope ce [it]) ([] ++ pinsAt [it] s7.heap) σ8 H' s' → Nx H' → ∃ m, m < n ∧ ∃ i H', Inv (X.blk s3 H3 scope ce [it]) [] (wipe σ (own.map (·.2))) H' s' ∧ s'.heap.IsListIter it a i ∧ H' it = none ∧ W i m H' := fun {s' H'} I' nx => by
        obtain ⟨m', hm, w'⟩ := hNx H' nx
        have pin' : ∀ b ∈ [it], ∀ o, s7.heap.get? b = some o → s'.heap.get? b = some o ∧ H' b = none := fun b hb o e =>
          let z := I'.pin (b, o) (List.mem_append_right _ (List.mem_append_right _ (mem_pinsAt hb e)))
          ⟨z.1, z.2.1⟩
        have hl : (wipe σ (own.map (·.2))).length = σ8.length := by rw [← hw8, wipe_length]
        refine ⟨m', hm, i + 1, H', (I'.unpinned (pins := [])).weak hl (fun j v e => ?_), keepIt st7 fun o e => (pin' it (by simp) o e).1, ?_, w'⟩
        · rw [← hw8] at e
          exact (wipe_some e).1
        · obtain ⟨o, e, _⟩ := obj st7 it (by simp)
          exact (pin' it (by simp) o e).2
      cases b with
      | false =>
        simp only [Bool.false_eq_true, if_false] at q9 ⊢
        exact fin I9 q9
      | true =>
        simp only [if_true] at q9 ⊢
        refine thnF (pe.run _ s9 σ8 H9 _ I9 q9) fun z s10 ⟨yv, H10, I10, r10, acc, hD10, hz10, nx⟩ => ?_
        exact app_ok (X := X.blk s3 H3 scope ce [it]) I10 hD10 hz10 r10 fun s11 I11 => fin I11 nx
  exact codeAny_compStart_list loop (wpAny_pyIter_listiter st4 loop)
theorem pe_lcH {X : Cx} {p : Addr × Obj} {elt tg iter : Expr} {ifs : List Expr} {scope : Scope} {own : List (Str × Nat)} {pos : Pos} {tl : TE} {g : TG} {tt : TT} {te : TE} (hp1 : L2H.Hot1 X.A p) (hpn : p ∈ X.pn) (hN : X.N.Nodup) (hi : PE X iter tl) (ok : BlkOk X.N X.env.scope scope own)
    (hg : ∀ (s : Shared) (H : Hp) (C : Addr) (cl : List (Str × Addr)) (fp : List Addr), HotS (X.blk s H scope (compEnvC scope cl C X.env) fp) → PG (X.blk s H scope (compEnvC scope cl C X.env) fp) tg g) (ht : ∀ (s : Shared) (H : Hp) (C : Addr) (cl : List (Str × Addr)) (fp : List Addr), PTs (X.blk s H scope (compEnvC scope cl C X.env) fp) ifs tt)
    (he : ∀ (s : Shared) (H : Hp) (C : Addr) (cl : List (Str × Addr)) (fp : List Addr), PE (X.blk s H scope (compEnvC scope cl C X.env) fp) elt te) (hs : ∀ x, foldedSetIterable iter X.env x = pure x := by intro _; rfl) :
    PE X (.ListComp elt [⟨tg, iter, ifs, 0⟩] scope pos) (tLc (iList X.K tl) g tt te (own.map (·.2))) := by
  refine ⟨fun pins s σ H Q I h => ?_⟩
  rw [eval_ListComp]
  refine lc_hot hp1 hpn hN I hi ok hg ht he hs h fun D C s' m H' I' q hn f => ⟨m, hn, fun h'' sb => ?_⟩
  obtain ⟨f0, f1, f2, f3, f4, f5⟩ := f
  exact ⟨.ref D, H', I'.turned (t' := s'.toks) (fun b o hb e => (sb.2 b hb).trans e) f0 f1 f3 f4 f5, rfl, q⟩
end BFH

set_option Elab.async false
set_option linter.all false
set_option autoImplicit false
set_option maxRecDepth 100000
/-! A def that is called in an except clause with the error that is handled; texts joined. -/
namespace BF
open PySem PySem.Spec
open PyProof.Rows L2

/-! ### the first slot holds the error -/
def At0 (a : Addr) (σV : L2.St) : Prop := σV[0]? = some (some (.ref a))
def TC0 (K : KW) (a : Addr) (c : CE) : TE := fun σV H Q => At0 a σV ∧ TC K c σV H Q
def TA0 (K : KW) (a : Addr) (c : List CE) : TA := fun σV H Q => At0 a σV ∧ TA' K (eArgs c) σV H Q
def TS0 (K : KW) (a : Addr) (c : CS) : TS := fun D σV H => At0 a σV ∧ TS' K c { D with nx := fun σV' H' => At0 a σV' → D.nx σV' H' } σV H
section
variable {X : Cx} {a : Addr} {e e2' : Expr} {es : List Expr} {c c2 : CE} {cs : List CE} {pos : Pos} {st : Stmt} {rest : List Stmt} {s s' : CS}
theorem z_of (h : EV X e c) : PE X e (TC0 X.KW a c) := h.mono fun _ _ _ q => q.2
theorem za_nil : PA X [] (TA0 X.KW a []) := a_nil.mono fun _ _ _ q => q.2
theorem za_cons (ha : PE X e (TC0 X.KW a c)) (hb : PA X es (TA0 X.KW a cs)) (hs : starEach (e :: es) X.env = (false, eval e X.env) :: starEach es X.env := by rfl) : PA X (e :: es) (TA0 X.KW a (c :: cs)) :=
  (pa_cons ha hb hs).mono fun σV H Q ⟨h0, loc, σ, M, ws, M', rel, ev, aft⟩ => by
    obtain ⟨p, hp, ev⟩ := bind_some ev
    obtain ⟨q, hq, ev⟩ := bind_some ev
    cases ev
    exact ⟨h0, run1 rel hp fun v H1 loc1 rel1 rd1 ex1 l1 => ⟨h0, runA rel1 hq fun vs H2 loc2 rel2 rd2 ex2 l2 => aft _ H2 loc2 rel2.st (.cons (rd1.mono ex2 l2) rd2) (ex1.trans ex2) (l1.trans l2)⟩⟩
theorem z_tup {k : Nat} (h : PA X es (TA0 X.KW a cs)) : PE X (.Tuple es k pos) (TC0 X.KW a (eTup cs)) := (pe_tup h).mono fun σV H Q ⟨h0, loc, σ, M, w, M', rel, ev, aft⟩ => by
  obtain ⟨p, hp, ev⟩ := bind_some ev
  split at ev
  · rename_i hz
    cases ev
    exact ⟨h0, runA rel hp fun vs H1 loc1 rel1 rd1 ex1 l1 => ⟨lineOk (by rw [rd1.length]; exact hz), fun q hq => aft_tup rel1.st rd1 hq (aft.after ex1 l1)⟩⟩
  · cases ev
theorem z_lst (h : PA X es (TA0 X.KW a cs)) : PE X (.List es pos) (TC0 X.KW a (eLst cs)) := (pe_lst h).mono fun σV H Q ⟨h0, loc, σ, M, w, M', rel, ev, aft⟩ => by
  obtain ⟨p, hp, ev⟩ := bind_some ev
  split at ev
  · rename_i hz
    cases ev
    exact ⟨h0, runA rel hp fun vs H1 loc1 rel1 rd1 ex1 l1 => ⟨lineOk (by rw [rd1.length]; exact hz), fun q hq => aft_lst rel1.st rd1 hq (aft.after ex1 l1)⟩⟩
  · cases ev
theorem z_op {op : Operator} {r : R2} {g : Mem → W → W → Option (W × Mem)} (ho : OpR X (binaryOp op) r) (hl : Lift2 X.KW r g) (ha : PE X e (TC0 X.KW a c)) (hb : PE X e2' (TC0 X.KW a c2)) : PE X (.BinOp e op e2' pos) (TC0 X.KW a (BF.e2 g c c2)) :=
  (pe_op ho ha hb).mono fun σV H Q ⟨h0, loc, σ, M, w, M', rel, ev, aft⟩ => by
    obtain ⟨p, hp, ev⟩ := bind_some ev
    obtain ⟨q, hq, ev⟩ := bind_some ev
    exact ⟨h0, run1 rel hp fun v H1 loc1 rel1 rd1 ex1 l1 => ⟨h0, run1 rel1 hq fun u H2 loc2 rel2 rd2 ex2 l2 => hl H2 loc2 q.2 p.1 q.1 v u w M' Q rel2.st (rd1.mono ex2 l2) rd2 ev (aft.after (ex1.trans ex2) (l1.trans l2))⟩⟩
theorem z_set (i : Nat) {x : Str} {pos' : Pos} (hN : X.N.Nodup) (he : PE X e (TC0 X.KW a c)) (hi : X.N[i]? = some x := by rfl) (hx : Loc X.env.scope x := by first | exact Or.inl rfl | exact Or.inr rfl)
    (hs : swapsWith e (some (.Name x pos')) pos.line X.env = pure false := by rfl) (hf : X.fn x = true ∨ X.env.scope.names.lookup x = some .local := by first | exact .inl rfl | exact .inr rfl) (hi0 : i ≠ 0 := by decide) :
    PS X (.Assign [.Name x pos'] e pos) (TS0 X.KW a (sSet (gV i) c)) :=
  (ps_set hN hi hx he hs hf).mono fun D σV H ⟨h0, loc, σ, M, o, rel, ev, aft⟩ => by
    obtain ⟨p, hp, ev⟩ := bind_some ev
    cases ev
    exact ⟨h0, run1 rel hp fun v H1 loc1 rel1 rd1 ex1 l1 => aft _ H1 loc1 (rel1.set rd1 i) ex1 l1 (by unfold At0; rw [List.getElem?_set_ne hi0]; exact h0)⟩
theorem z_cons (h1 : PS X st (TS0 X.KW a s)) (h2 : PSs X rest (TS0 X.KW a s')) : PSs X (st :: rest) (TS0 X.KW a (sSeq s s')) :=
  (pss_cons h1 h2).mono fun D σV H ⟨h0, loc, σ, M, o, rel, ev, aft⟩ => by
    obtain ⟨o1, h, ev⟩ := bind_some ev
    refine ⟨h0, loc, σ, M, o1, rel, h, ?_⟩
    cases o1 with
    | nx σ1 M1 => exact fun σV1 H1 loc1 rel1 ex1 l1 h1 => ⟨h1, loc1, σ1, M1, o, rel1, ev, aft.after ex1 l1⟩
    | rt w M1 => cases ev; exact aft
    | bk σ1 M1 => cases ev; exact aft
    | ct σ1 M1 => cases ev; exact aft
theorem z_ret (he : EV X e c) : PSs X [.Return (some e) pos] (TS0 X.KW a (sRet c)) :=
  (pss_one (ps_ret he)).mono fun D σV H ⟨h0, loc, σ, M, o, rel, ev, aft⟩ => by
    obtain ⟨p, hp, ev⟩ := bind_some ev
    cases ev
    exact ⟨loc, σ, M, p.1, p.2, rel, hp, aft⟩

/-! ### isinstance of that error -/
theorem call_isP {D : Addr} {oe : Obj} (hp : (a, oe) ∈ X.pn) (C : ExcC X.K D) (hz : L2.Zc (.ref D) none oe) (hf : ∃ vs, oe.data = .fields vs) : CallR X (.builtin "isinstance") (rIsE X.K D a) := by
  intro pins s σ H xs us Q I r h
  obtain ⟨c, cv, b, rfl, hcv, ev, q⟩ := h
  match us, r with
  | [u1, u2], .cons r1 (.cons r2 .nil) =>
    cases r1
    have ec := hcv _ r2
    subst ec
    have hget := (I.pin (a, oe) (List.mem_append_left _ hp)).1
    have J : PySem.W.InstAt s.heap a oe D none := by
      obtain ⟨vs, hv⟩ := hf
      obtain ⟨oc, od, dt, osl⟩ := oe
      obtain ⟨h1, h2⟩ := hz
      dsimp only at h1 h2 hv
      subst h1 h2 hv
      exact ⟨hget, rfl, rfl, trivial⟩
    exact PySem.W.kia_one (PySem.W.handS_kitx_exc C.hg C.hk C.hs C.hd C.ha C.hn C.ht C.hm) I.kIn J ev (fun z => nomatch z) fun tk => ⟨.bl b, H, I.kept (t' := tk) fun _ _ z => z, rfl, q⟩
theorem z_is {D C2 : Addr} {oe : Obj} {b : Bool} {n y : Str} {p p1 p2 : Pos} (hp : (a, oe) ∈ X.pn) (C : ExcC X.K D) (hz : L2.Zc (.ref D) none oe) (hf : ∃ vs, oe.data = .fields vs) (hk : PySem.W.kitOne X.K (.ref D) (.ref C2) = some b)
    (hg : Gl X "isinstance") (hm : X.mg "isinstance" = none) (hgy : Gl X y) (hmy : X.mg y = some (.ref C2)) (hN : X.N[0]? = some n := by rfl) (hv : Vis X.env.scope n := by exact Or.inl rfl)
    (hdn : (n == ("__debug__" : Str)) = false := by decide) (hcd : (n == ("__classdict__" : Str)) = false := by decide) (hdy : (y == ("__debug__" : Str)) = false := by decide) (hvi : bootBuiltins "isinstance" = some (.builtin "isinstance") := by decide +kernel)
    (hs1 : starEach [.Name n p1, .Name y p2] X.env = (false, eval (.Name n p1) X.env) :: starEach [.Name y p2] X.env := by rfl) (hs2 : starEach [.Name y p2] X.env = (false, eval (.Name y p2) X.env) :: starEach [] X.env := by rfl)
    (hpl : (backTo pos (starEach [.Name y p2] X.env)).any (·.1) = false := by rfl) :
    PE X (.Call (.Name "isinstance" p) [.Name n p1, .Name y p2] [] pos) (TC0 X.KW a (eL (.bl b))) :=
  (pe_callB (call_isP hp C hz hf) hg hm hvi (pa_cons (pe_var hN hv hdn hcd) (pa_cons (pe_glob (v := .ref C2) hgy hmy rfl hdy) pa_nil hs2) hs1) (by decide) (by decide) hs1 hpl).mono fun σV H Q ⟨h0, loc, σ, M, w, M', rel, ev, aft⟩ => by
    cases ev
    exact ⟨.ref a, h0, .ref C2, .ref C2, b, rfl, fun u r => r, hk, aft _ H loc rel.st (.bl b) .refl (List.prefix_refl _)⟩
end

/-! ### texts joined -/
def asTexts : List W → Option (List Str)
  | [] => some []
  | .str x :: ws => (asTexts ws).map (x :: ·)
  | _ :: _ => none
theorem asTexts_some {K : KW} {H : Hp} {loc : List Addr} : ∀ {ws : List W} {ts : List Str} {vs : List V}, asTexts ws = some ts → Rds K H loc vs ws → vs = ts.map V.str
  | [], _, _, h, r => by cases h; cases r; rfl
  | .str x :: ws, ts, vs, h, r => by
    rw [asTexts] at h
    obtain ⟨t2, h1, rfl⟩ := Option.map_eq_some_iff.mp h
    cases r with
    | cons r rs =>
      cases r
      rw [asTexts_some h1 rs]; rfl
  | .non :: _, _, _, h, _ => by cases h
  | .bl _ :: _, _, _, h, _ => by cases h
  | .int _ :: _, _, _, h, _ => by cases h
  | .tup _ :: _, _, _, h, _ => by cases h
  | .ref _ :: _, _, _, h, _ => by cases h
/-- ''.join(list of texts) -/
def gJoin (M : Mem) (x : W) : Option (W × Mem) := match x with
  | .ref n => match M[n]? with
    | some (.lst ws) => match asTexts ws with
      | some ts => if (ts.map (·.length)).sum ≤ 1000 ∧ PyData.strOk (Txt.join ("" : Str) ts) = true ∧ (Txt.join ("" : Str) ts).length ≤ 16777216 then some (.str (Txt.join ("" : Str) ts), M) else none
      | none => none
    | _ => none
  | _ => none
theorem r_join0 {X : Cx} {e : Expr} {c : CE} {j : Nat} {p apos pos : Pos} (h : EV X e c)
    (hs : starEach [e] X.env = [(false, eval e X.env)] := by rfl) (hbase : attributeBase (.Constant (.str "") j p) "join" X.env (eval (.Constant (.str "") j p) X.env) = eval (.Constant (.str "") j p) X.env := by rfl) (hline : (apos.endLine == pos.line) = true := by rfl) :
    EV X (.Call (.Attribute (.Constant (.str "") j p) "join" apos) [e] [] pos) (e1 gJoin c) :=
  (pe_join pe_str h hs hbase hline).mono fun σV H Q ⟨loc, σ, M, w, M', rel, ev, aft⟩ => by
    obtain ⟨q, hq, ev⟩ := bind_some ev
    refine ⟨⟨"", rfl⟩, run1 rel hq fun v H1 loc1 rel1 rd1 ex1 l1 => ?_⟩
    unfold gJoin at ev
    split at ev
    · rename_i n hx
      rw [hx] at rd1
      cases rd1 with
      | @ref a n hn =>
        split at ev
        · rename_i ws hw
          split at ev
          · rename_i ts ht
            split at ev
            · rename_i hk
              cases ev
              obtain ⟨xs, q1, q2⟩ := rel1.st.ok _ _ _ hn hw
              have ex := asTexts_some ht q2
              subst ex
              refine ⟨"", a, ts, rfl, rfl, .inl (SqL.of q1), ?_, aft _ H1 loc1 rel1.st (.str _ hk.2.1 hk.2.2) ex1 l1⟩
              have e0 : Str.length ("" : Str) = 0 := by decide +kernel
              rw [e0]
              omega
            · cases ev
          · cases ev
        · cases ev
    · cases ev

/-! ### a comprehension over a list where an error is handled -/
section
variable {X : Cx} {e tg iter : Expr} {es : List Expr} {ca cl : CE} {g : CG} {gs : List CG} {pos : Pos}
theorem ilst_aux {K : KW} {σV : L2.St} {H : Hp} {R : It → Hp → Prop} (h : TI' K (iLst cl) σV H R) : iList K.fr (TC K cl) σV H R := by
  obtain ⟨loc, σ, M, ws, gd, M', rel, e, aft⟩ := h
  obtain ⟨p, hp, e⟩ := bind_some e
  refine run1 rel hp fun v H1 loc1 rel1 rd1 ex1 l1 => ?_
  split at e
  · rename_i n hn
    rw [hn] at rd1
    cases rd1 with
    | @ref a _ ha =>
      split at e
      · rename_i zs hz
        cases e
        obtain ⟨xs, h1, _⟩ := rel1.st.ok n a _ ha hz
        exact ⟨a, rfl, ⟨xs, SqL.of h1⟩, aft _ H1 loc1 rel1.st ex1 l1 (walk_of_lst ha)⟩
      · rename_i zs hz
        cases e
        obtain ⟨xs, h1, _⟩ := rel1.st.ok n a _ ha hz
        exact ⟨a, rfl, ⟨xs, h1.sq⟩, aft _ H1 loc1 rel1.st ex1 l1 (walk_of_ro ha)⟩
      · cases e
  · cases e
theorem gw_tupH {vs : List Nat} {k : Nat} (hc : BFH.HotS X) (h : EGsw X vs es gs) (hn : (assignEach es X.env).length = gs.length := by rfl) (hst : (assignEach es X.env).findIdx? (·.1) = none := by rfl) : EGw X vs (.Tuple es k pos) (gT gs) :=
  (BFH.pg_tupH hc h hn hst).mono fun v σV H Q ⟨loc, σ, M, w, σ', rel, rd, e, q⟩ => by
    cases rd with
    | @tup a xs ws sq rs => exact ⟨a, xs, rfl, sq, by rw [rs.length]; exact gAll_length e, loc, σ, M, ws, σ', rel, rs, e, q⟩
    | _ => cases e
theorem r_lcH {q : Addr × Obj} {ifs : List Expr} {scope : Scope} {own : List (Str × Nat)} {t : CT} (hp1 : L2H.Hot1 X.A q) (hpn : q ∈ X.pn) (hN : X.N.Nodup) (hi : EV X iter cl) (ok : blkC X.N X.env.scope scope own = true)
    (hg : ∀ s H C cl fp, BFH.HotS (Cx.bl X scope s H C cl fp) → EGw (Cx.bl X scope s H C cl fp) (own.map (·.2)) tg g) (ht : ∀ s H C cl fp, TTs (Cx.bl X scope s H C cl fp) ifs t)
    (he : ∀ s H C cl fp, EV (Cx.bl X scope s H C cl fp) e ca) (hs : ∀ x, foldedSetIterable iter X.env x = pure x := by intro _; rfl) :
    EV X (.ListComp e [⟨tg, iter, ifs, 0⟩] scope pos) (eLc (iLst cl) g t ca (own.map (·.2))) :=
  (BFH.pe_lcH hp1 hpn hN hi (blkOk_by ok) hg ht he hs).mono fun σV H Q h => ilst_aux (K := X.KW) (lc_aux h)
end

/-! ### a def called with the error that is handled -/
theorem pe_callE {X : Cx} {pq : Addr × Obj} {x prm : Str} {st : Stmt} {N : List Str} {k : Nat} {t : TS} {te : TE} {e : Expr} {q pos : Pos}
    (D : DefAt X.K X.mg x st) (S : FnScope N [prm] (defScope st)) (hb : BindsAll x st [prm]) (hr : L2H.RoomH (k + 1) X.A) (hot : L2H.Hot1 X.A pq) (hpn : pq ∈ X.pn) (hg : Gl X x) (he : PE X e te)
    (body : ∀ (f : Addr) (cdv : Value) (A : Around) (outer : List Env) (s : Shared) (H : Hp), L2H.Hot1 A pq → L2H.RoomH k (A.deeper (envOfC x (defScope st) s.heap.objs.size f cdv)) →
      PSs (L2H.cxH CX0 X.prog X.w X.K X.mg X.base N x (defScope st) f cdv A outer s H (fun _ _ _ => False) pq) (defBody st) t)
    (hdb : (x == ("__debug__" : Str)) = false := by decide) (hs : starEach [e] X.env = (false, eval e X.env) :: starEach [] X.env := by rfl) (hpl : (backTo pos (starEach [] X.env)).any (·.1) = false := by rfl) :
    PE X (.Call (.Name x q) [e] [] pos) (fun σ H Q => te σ H fun v H1 => t { nx := fun _ H' => Q .non H', rt := Q } (L2.start N [v]) H1) := by
  obtain ⟨f, fd, F, hm⟩ := D
  have bd := F.binds hb
  have kp := F.kp
  obtain ⟨oc, od, kV, doc, pm, an, cdv, ct, osl, rfl, lk, hcd⟩ := F.ex
  refine ⟨fun pins s σ H Q I h => ?_⟩
  refine wpAny_Call_Name_kw (ld_glob I hg hm ?_ hdb)
  refine PySem.W.callWith_K (h₀ := X.base) I.ok.mod.kin kp (thn ((pa_cons he pa_nil hs).run pos pins s σ H (fun vs H1 => match vs with
    | [v] => t { nx := fun _ H' => Q .non H', rt := Q } (L2.start N [v]) H1
    | _ => False) I h) fun us s1 hus => ?_) hs hpl
  obtain ⟨vs, H1, I1, r, hq⟩ := hus
  match vs, us, r, hq with
  | [v], [u], r, hq =>
  refine ⟨I1.kIn, ?_⟩
  have P1 := I1.pin pq (List.mem_append_left _ hpn)
  have pin : L2H.PinOk X.stack H1 s1 pq := ⟨P1.1, P1.2.1, fun hm => (List.mem_cons.mp (I1.stkSub pq.1 hm)).elim P1.2.2.1 P1.2.2.2.1, P1.2.2.2.2⟩
  have e0 := I1.env0
  have b := bd s1 [u] I1.kIn rfl
  have KX : X.K.In s1.heap := I1.kIn
  have nl : s1.heap.NoLimit := e0.mod.nolimit.keeps fun b o z => (e0.bs b o z).1
  have ks : ∀ y ∈ [prm].zip [u], (defScope st).names.lookup y.1 = some .local ∨ ((defScope st).names.lookup y.1 = some .cell ∧ ((cellsFrom (s1.heap.objs.size + 1) (defScope st).names []).lookup y.1).isSome = true) := fun ⟨n, z⟩ hy => by
    rcases S.par n (List.of_mem_zip hy).1 with g | g
    · exact .inl g
    · exact .inr ⟨g, PySem.W.cellsFrom_some _ _ _ (.inl g)⟩
  have run : codeAny (model X.prog X.w) X.A (.call (.ref f) ⟨[u], []⟩) (CR CX0 X.stack X.prog X.w H1 s1 Q (fun _ _ _ => False)) s1 := by
    refine codeAny_call_function hr.depth (KX _ _ lk) rfl S.co S.gen rfl (PySem.W.codeRec_of KX hcd) (b _ _ _ _ ?_)
    refine wpAny_newFunctionEnv_cells S.kind ks fun env henv s2 x2 => ?_
    subst henv
    refine ⟨nl.keeps x2.toInCall.keep, codeAny_func ?_⟩
    have J := L2H.inv_startH (CX := CX0) (E := fun _ _ _ => False) (f := f) (cd := cdv) (A := X.A) S pin e0 rfl r x2
    refine wpAny_mono ((body f cdv X.A X.stack s1 H1 hot (hr.deeper _)).run [] s2 (L2.start N [v]) H1 _ J hq) (fun fl s3 h3 => ?_) fun _ _ z => z
    cases fl with
    | ret u3 =>
      obtain ⟨v3, σ3, H3, I3, rv, q3⟩ := h3
      exact ⟨v3, H3, I3.os, I3.bare, I3.base, I3.hok, rv, q3⟩
    | next =>
      obtain ⟨σ3, H3, I3, q3⟩ := h3
      exact ⟨V.non, H3, I3.os, I3.bare, I3.base, I3.hok, rfl, q3⟩
    | brk =>
      obtain ⟨_, _, _, z⟩ := h3
      exact False.elim z
    | cont =>
      obtain ⟨_, _, _, z⟩ := h3
      exact False.elim z
  refine wpAny_call (codeAny_mono run fun r3 s3 h3 => ?_)
  cases r3 with
  | error z => exact False.elim h3
  | ok fl =>
    cases fl with
    | ret u3 => exact I1.after h3
    | next => exact False.elim h3
    | brk => exact False.elim h3
    | cont => exact False.elim h3
end BF

set_option Elab.async false
set_option linter.all false
set_option autoImplicit false
set_option maxRecDepth 100000
/-! try: body, except C as e: return e's word. -/
namespace BF
open PySem PySem.Spec
open PyProof.Rows L2

/-! ### statements that may raise -/
inductive OutX where
  | ok (o : Out)
  | er (c : Str) (M : Mem)
abbrev CSX := Sl → Mem → Option OutX
def xRet (e : CEX) : CSX := fun σ M => match e σ M with
  | some (.ok w M') => some (.ok (.rt w M'))
  | some (.er c M') => some (.er c M')
  | none => none
def xExpr (e : CEX) : CSX := fun σ M => match e σ M with
  | some (.ok _ M') => some (.ok (.nx σ M'))
  | some (.er c M') => some (.er c M')
  | none => none
def xNil : CSX := fun σ M => some (.ok (.nx σ M))
def xSeq (a b : CSX) : CSX := fun σ M => match a σ M with
  | some (.ok (.nx σ' M')) => b σ' M'
  | some (.ok (.rt w M')) => some (.ok (.rt w M'))
  | some (.er c M') => some (.er c M')
  | _ => none
def xIf (t : CT) (a b : CSX) : CSX := fun σ M => (t σ M).bind fun p => if p.1 = true then a σ p.2 else b σ p.2
def xEIf (t : CT) (a b : CEX) : CEX := fun σ M => (t σ M).bind fun p => if p.1 = true then a σ p.2 else b σ p.2
def sTry (b : CSX) (hd : Str → Option W) : CS := fun σ M => match b σ M with
  | some (.ok o) => some o
  | some (.er c M') => (hd c).map fun w => .rt w M'
  | none => none
def AftSX (K : KW) (mg : Str → Option Value) (H : Hp) (loc : List Addr) (D : Ends) (W : WX) : OutX → Prop
  | .ok o => AftS K H loc D o
  | .er c M' => ∀ σV' H' loc', Store K H' loc' M' → Ext K H H' → loc <+: loc' → ∃ C, mg c = some (.ref C) ∧ W (.ref C) none σV' H'
def TSX (K : KW) (mg : Str → Option Value) (W : WX) (c : CSX) : TS := fun D σV H => ∃ loc σ M r, Rel K loc σ M σV H ∧ c σ M = some r ∧ AftSX K mg H loc D W r
theorem AftSX.after {K : KW} {mg : Str → Option Value} {H H1 : Hp} {loc loc1 : List Addr} {D : Ends} {W : WX} {r : OutX} (h : AftSX K mg H loc D W r) (e : Ext K H H1) (l : loc <+: loc1) : AftSX K mg H1 loc1 D W r := by
  cases r with
  | ok o => exact AftS.after h e l
  | er c M' => exact fun σV' H' loc' s ex l' => h σV' H' loc' s (e.trans ex) (l.trans l')
section
variable {X : Cx} {W : WX} {a b c e : Expr} {xa xb : CEX} {ca cb : CSX} {tA : CT} {st : Stmt} {sa sb rest : List Stmt} {pos : Pos}
theorem x_ret (h : PE X e (TCX X.KW X.mg W xa)) : PS X (.Return (some e) pos) (TSX X.KW X.mg W (xRet xa)) :=
  (ps_ret h).mono fun D σV H ⟨loc, σ, M, r, rel, ev, aft⟩ => by
    unfold xRet at ev
    split at ev
    · rename_i w M' hx
      cases ev
      exact ⟨loc, σ, M, .ok w M', rel, hx, aft⟩
    · rename_i c M' hx
      cases ev
      exact ⟨loc, σ, M, .er c M', rel, hx, fun H' loc' s ex l => aft σV H' loc' s ex l⟩
    · cases ev
theorem x_expr (h : PE X e (TCX X.KW X.mg W xa)) (hs : swapsWith e none pos.line X.env = pure false := by rfl) : PS X (.Expr e pos) (TSX X.KW X.mg W (xExpr xa)) :=
  (ps_expr h hs).mono fun D σV H ⟨loc, σ, M, r, rel, ev, aft⟩ => by
    unfold xExpr at ev
    split at ev
    · rename_i w M' hx
      cases ev
      exact ⟨loc, σ, M, .ok w M', rel, hx, fun v H' loc' s r ex l => aft σV H' loc' (rel.move s ex l) ex l⟩
    · rename_i c M' hx
      cases ev
      exact ⟨loc, σ, M, .er c M', rel, hx, fun H' loc' s ex l => aft σV H' loc' s ex l⟩
    · cases ev
theorem x_nil : PSs X [] (TSX X.KW X.mg W xNil) := pss_nil.mono fun D σV H ⟨loc, σ, M, r, rel, ev, aft⟩ => by
  cases ev
  exact aft σV H loc rel .refl (List.prefix_refl _)
theorem x_one (h : PS X st (TSX X.KW X.mg W ca)) : PSs X [st] (TSX X.KW X.mg W ca) := pss_one h
theorem x_cons (h1 : PS X st (TSX X.KW X.mg W ca)) (h2 : PSs X rest (TSX X.KW X.mg W cb)) : PSs X (st :: rest) (TSX X.KW X.mg W (xSeq ca cb)) :=
  (pss_cons h1 h2).mono fun D σV H ⟨loc, σ, M, r, rel, ev, aft⟩ => by
    unfold xSeq at ev
    split at ev
    · rename_i σ1 M1 hx
      exact ⟨loc, σ, M, .ok (.nx σ1 M1), rel, hx, fun σV1 H1 loc1 rel1 ex1 l1 => ⟨loc1, σ1, M1, r, rel1, ev, aft.after ex1 l1⟩⟩
    · rename_i w M1 hx
      cases ev
      exact ⟨loc, σ, M, _, rel, hx, aft⟩
    · rename_i c M1 hx
      cases ev
      exact ⟨loc, σ, M, _, rel, hx, aft⟩
    · cases ev
theorem x_if (hc : ET X c tA) (ha : PSs X sa (TSX X.KW X.mg W ca)) (hb : PSs X sb (TSX X.KW X.mg W cb)) : PS X (.If c sa sb pos) (TSX X.KW X.mg W (xIf tA ca cb)) :=
  (ps_if hc ha hb).mono fun D σV H ⟨loc, σ, M, r, rel, ev, aft⟩ => by
    obtain ⟨p, hp, ev⟩ := bind_some ev
    refine runT rel hp fun H1 loc1 rel1 ex1 l1 => ?_
    split at ev
    · rename_i h; rw [if_pos h]; exact ⟨loc1, σ, p.2, r, rel1, ev, aft.after ex1 l1⟩
    · rename_i h; rw [if_neg h]; exact ⟨loc1, σ, p.2, r, rel1, ev, aft.after ex1 l1⟩
theorem x_eif (hc : ET X c tA) (ha : PE X a (TCX X.KW X.mg W xa)) (hb : PE X b (TCX X.KW X.mg W xb)) : PE X (.IfExp c a b pos) (TCX X.KW X.mg W (xEIf tA xa xb)) :=
  (pe_ifExp hc ha hb).mono fun σV H Q ⟨loc, σ, M, r, rel, ev, aft⟩ => by
    obtain ⟨p, hp, ev⟩ := bind_some ev
    refine runT rel hp fun H1 loc1 rel1 ex1 l1 => ?_
    split at ev
    · rename_i h; rw [if_pos h]; exact ⟨loc1, σ, p.2, r, rel1, ev, aft.after ex1 l1⟩
    · rename_i h; rw [if_neg h]; exact ⟨loc1, σ, p.2, r, rel1, ev, aft.after ex1 l1⟩
end

/-! ### try -/
section
variable {X : Cx} {x n : Str} {ch : Value} {i : Nat} {body suite : List Stmt} {b₀ : Stmt} {np pos pos' : Pos} {cb : CSX} {hd : Str → Option W}
def tsW (K : KW) (mg : Str → Option Value) (i : Nat) (hd : Str → Option W) (a : Addr) (cls : Value) (d : Option Addr) : TS := fun D σV H =>
  (i < σV.length → σV[i]? = some (some (.ref a))) ∧ ∃ c w C, hd c = some w ∧ mg c = some (.ref C) ∧ cls = .ref C ∧ d = none ∧ ∃ loc M, Store K H loc M ∧ Aft K H loc w M D.rt
theorem s_try (hs : X.stack = X.env :: X.outer) (hf : X.env.frame = some X.env.locals) (hN : X.N.Nodup) (hi : X.N[i]? = some n) (hln : X.env.kindOf n = some .local) (hc : Names X x ch)
    (hb : ∀ (W : WX) (pn : List (Addr × Obj)) (xe : Value → Shared → Prop), L2N.Takes (X.tr pn xe) W → PSs (X.tr pn xe) body (TSX X.KW X.mg W cb))
    (hk : ∀ c w, hd c = some w → ∃ C, X.mg c = some (.ref C) ∧ PySem.W.exmOne X.K (.ref C) ch = some true)
    (hsu : ∀ (c : Str) (w : W) (C a : Addr) (oe : Obj) (pn : List (Addr × Obj)), hd c = some w → X.mg c = some (.ref C) → L2N.Zn (.ref C) none oe → (∃ vs, oe.data = .fields vs) →
      PSs (X.suite a ((a, oe) :: pn)) (b₀ :: suite) (fun D σV H => σV[i]? = some (some (.ref a)) ∧ ∃ loc M, Store X.KW H loc M ∧ Aft X.KW H loc w M D.rt)) :
    ES X (.Try body [.ExceptHandler (some (.Name x np)) (some n) (b₀ :: suite) pos'] [] [] pos) (sTry cb hd) := by
  have hlt : i < X.N.length := (List.getElem?_eq_some_iff.mp hi).1
  refine (L2N.ps_try_as (i := i) (c := ch) (tb := fun W => TSX X.KW X.mg W cb) (ts := tsW X.KW X.mg i hd) (Wout := fun _ _ _ _ => False) hs hf hN hi hln hc
    (fun u s' ⟨_, _, _, _, _, _, _, _, _, _, _, _, _, _, _, _, z⟩ => z.elim) (fun W pn xe tk _ => hb W pn xe tk) (fun a oe cls d pn hz hv => ?_)).mono fun D σV H ⟨loc, σ, M, o, rel, ev, aft⟩ => ?_
  · refine ⟨fun pins s σV H D I q => ?_⟩
    obtain ⟨h1, c, w, C, g1, g2, rfl, rfl, loc, M, st, aft⟩ := q
    exact (hsu c w C a oe pn g1 g2 hz hv).run pins s σV H D I ⟨h1 (by rw [I.len]; exact hlt), loc, M, st, aft⟩
  · unfold sTry at ev
    split at ev
    · rename_i o' hx
      cases ev
      exact ⟨loc, σ, M, .ok o, rel, hx, aft⟩
    · rename_i c M' hx
      obtain ⟨w, hw, ev⟩ := Option.map_eq_some_iff.mp ev
      cases ev
      refine ⟨loc, σ, M, .er c M', rel, hx, fun σV' H' loc' s ex l => ?_⟩
      obtain ⟨C, gC, em⟩ := hk c w hw
      exact ⟨C, gC, true, em, fun _ a na => ⟨fun hl => List.getElem?_set_self (by simpa using hl), c, w, C, hw, gC, rfl, rfl, loc', M', s, Aft.after aft ex l⟩, fun z => nomatch z⟩
    · cases ev
end

/-! ### a def that tells an error's word -/
theorem pre_cut {loc loc' : List Addr} {n : Nat} (l : loc <+: loc') (h : loc.length = n) : loc <+: loc'.take n := by
  rw [List.prefix_iff_eq_take] at l ⊢
  rw [List.take_take, ← h, Nat.min_self]
  exact l
def tsA (K : KW) (a : Addr) (i : Nat) (w : W) : TS := fun D σV H => σV[i]? = some (some (.ref a)) ∧ ∃ loc M, Store K H loc M ∧ Aft K H loc w M D.rt
def KnownE (P : Program) (w : World) (K : PySem.W.Frag) (mg : Str → Option Value) (base : Heap) (x : Str) (st : Stmt) (prm : Str) (N : List Str) (hw : Str → Option Str) : Prop :=
  DefAt K mg x st ∧ FnScope N [prm] (defScope st) ∧ BindsAll x st [prm] ∧
  ∀ (c u : Str) (C a : Addr) (oe : Obj), hw c = some u → mg c = some (.ref C) → L2N.Zn (.ref C) none oe → (∃ vs, oe.data = .fields vs) →
    ∀ (f : Addr) (cdv : Value) (A : Around) (outer : List Env) (s : Shared) (H : Hp), L2H.Hot1 A (a, oe) → L2H.RoomH 0 (A.deeper (envOfC x (defScope st) s.heap.objs.size f cdv)) →
      PSs (L2H.cxH CX0 P w K mg base N x (defScope st) f cdv A outer s H (fun _ _ _ => False) (a, oe)) (defBody st) (tsA ⟨K, w, tabOf mg⟩ a 0 (.str u))
/-- the body's text, and what it computes -/
theorem word_of {X : Cx} {a : Addr} {body : List Stmt} {c : CS} {u : Str} {n : Nat} (hn : X.N.length = n) (h : PSs X body (TS0 X.KW a c)) (hu : PyData.strOk u = true) (hl : u.length ≤ 16777216) (hc : ∀ M : Mem, ∃ g, c (List.replicate n none) M = some (.rt (.str u) (M ++ g))) : PSs X body (tsA X.KW a 0 (.str u)) := by
  refine ⟨fun pins s σV H D I q => h.run pins s σV H D I ?_⟩
  obtain ⟨h0, loc, M, st, aft⟩ := q
  obtain ⟨g, hg⟩ := hc M
  refine ⟨h0, loc, List.replicate n none, M, .rt (.str u) (M ++ g), ⟨st, by rw [List.length_replicate, I.len]; exact hn.symm, fun i w e => ?_⟩, hg, fun v H' loc' s' r ex l => ?_⟩
  · rw [List.getElem?_replicate] at e
    split at e
    · cases e
    · cases e
  · cases r
    exact aft _ H' (loc'.take M.length) (s'.cut st.closed) (.str u hu hl) ex (pre_cut l st.len)
theorem r_callE {X : Cx} {a : Addr} {oe : Obj} {C : Addr} {i : Nat} {c x prm n u : Str} {st : Stmt} {N : List Str} {hw : Str → Option Str} {q p1 pos : Pos} (G : KnownE X.prog X.w X.K X.mg X.base x st prm N hw) (hr : L2H.RoomH 1 X.A) (hot : L2H.Hot1 X.A (a, oe)) (hpn : (a, oe) ∈ X.pn)
    (h1 : hw c = some u) (h2 : X.mg c = some (.ref C)) (h3 : L2N.Zn (.ref C) none oe) (h4 : ∃ vs, oe.data = .fields vs) (hg : Gl X x) (hN : X.N[i]? = some n) (hv : Vis X.env.scope n)
    (hdb : (x == ("__debug__" : Str)) = false := by decide) (hdn : (n == ("__debug__" : Str)) = false := by decide) (hcd : (n == ("__classdict__" : Str)) = false := by decide)
    (hs : starEach [.Name n p1] X.env = (false, eval (.Name n p1) X.env) :: starEach [] X.env := by rfl) (hpl : (backTo pos (starEach [] X.env)).any (·.1) = false := by rfl) :
    PE X (.Call (.Name x q) [.Name n p1] [] pos) (fun σV H Q => σV[i]? = some (some (.ref a)) ∧ ∃ loc M, Store X.KW H loc M ∧ Aft X.KW H loc (.str u) M Q) := by
  obtain ⟨D, S, hb, G⟩ := G
  refine (pe_callE (t := tsA X.KW a 0 (.str u)) D S hb hr hot hpn hg (pe_var hN hv hdn hcd) (fun f cdv A outer s H ho ha => G c u C a oe h1 h2 h3 h4 f cdv A outer s H ho ha) hdb hs hpl).mono fun σV H Q ⟨h0, loc, M, st, aft⟩ => ?_
  refine ⟨.ref a, h0, ?_, loc, M, st, aft⟩
  have : 0 < ([V.ref a] : List V).length := by simp
  unfold L2.start
  rfl
/-- return f(e) -/
theorem su_ret {X : Cx} {a : Addr} {i : Nat} {w : W} {e : Expr} {pos : Pos} (h : PE X e (fun σV H Q => σV[i]? = some (some (.ref a)) ∧ ∃ loc M, Store X.KW H loc M ∧ Aft X.KW H loc w M Q)) :
    PSs X [.Return (some e) pos] (fun D σV H => σV[i]? = some (some (.ref a)) ∧ ∃ loc M, Store X.KW H loc M ∧ Aft X.KW H loc w M D.rt) := pss_one (ps_ret h)
/-- (f(e),) -/
theorem su_tup {X : Cx} {a : Addr} {i k : Nat} {w : W} {e : Expr} {pos : Pos} (h : PE X e (fun σV H Q => σV[i]? = some (some (.ref a)) ∧ ∃ loc M, Store X.KW H loc M ∧ Aft X.KW H loc w M Q))
    (hs : starEach [e] X.env = (false, eval e X.env) :: starEach [] X.env := by rfl) :
    PE X (.Tuple [e] k pos) (fun σV H Q => σV[i]? = some (some (.ref a)) ∧ ∃ loc M, Store X.KW H loc M ∧ Aft X.KW H loc (.tup [w]) M Q) :=
  (pe_tup (pa_cons h pa_nil hs)).mono fun σV H Q ⟨h0, loc, M, st, aft⟩ => ⟨h0, loc, M, st, fun v H' loc' s r ex l => ⟨(by show 1 ≤ sizeLine; decide), fun p hp => aft_tup s (.cons r .nil) hp (Aft.after aft ex l)⟩⟩
end BF

set_option Elab.async false
set_option linter.all false
set_option autoImplicit false
set_option maxRecDepth 100000
/-! The errors' words; methods that stand in the class; what the head tells of classes. -/
namespace BF
open PySem PySem.Spec
open PyProof.Rows L2

def wordOf (c : Str) : Option Str := if c = "InvalidPage" then some "page" else if c = "NoBack" then some "back" else if c = "NoForward" then some "forward" else if c = "NoSuchEntry" then some "entry" else none
def hdStr (c : Str) : Option W := (wordOf c).map W.str
def hdTup (c : Str) : Option W := (wordOf c).map fun u => W.tup [W.str u]
theorem hdStr_inv {c : Str} {w : W} (h : hdStr c = some w) : ∃ u, wordOf c = some u ∧ W.str u = w := Option.map_eq_some_iff.mp h
theorem hdTup_inv {c : Str} {w : W} (h : hdTup c = some w) : ∃ u, wordOf c = some u ∧ W.tup [W.str u] = w := Option.map_eq_some_iff.mp h
theorem hdStr_of {c : Str} {w : W} (h : hdStr c = some w) : ∃ u, wordOf c = some u := let ⟨u, h1, _⟩ := hdStr_inv h; ⟨u, h1⟩
theorem hdTup_of {c : Str} {w : W} (h : hdTup c = some w) : ∃ u, wordOf c = some u := let ⟨u, h1, _⟩ := hdTup_inv h; ⟨u, h1⟩
/-- which answers give which word -/
inductive IsW : Bool → Bool → Bool → Bool → Str → Prop where
  | page : IsW true false false false "page"
  | back : IsW false true false false "back"
  | forward : IsW false false true false "forward"
  | entry : IsW false false false true "entry"
theorem IsW.ok {b1 b2 b3 b4 : Bool} {u : Str} (h : IsW b1 b2 b3 b4 u) : PyData.strOk u = true ∧ u.length ≤ 16777216 := by
  cases h <;> exact ⟨by decide +kernel, by decide +kernel⟩
structure ErrE (K : PySem.W.Frag) (Ch C1 C2 C3 C4 C : Addr) (b1 b2 b3 b4 : Bool) : Prop where
  isx : ExcC K C
  exm : PySem.W.exmOne K (.ref C) (.ref Ch) = some true
  k1 : PySem.W.kitOne K (.ref C) (.ref C1) = some b1
  k2 : PySem.W.kitOne K (.ref C) (.ref C2) = some b2
  k3 : PySem.W.kitOne K (.ref C) (.ref C3) = some b3
  k4 : PySem.W.kitOne K (.ref C) (.ref C4) = some b4
structure ErrsC (K : PySem.W.Frag) (mg : Str → Option Value) (Ch C1 C2 C3 C4 : Addr) : Prop where
  g : mg "HistoryError" = some (.ref Ch)
  g1 : mg "InvalidPage" = some (.ref C1)
  g2 : mg "NoBack" = some (.ref C2)
  g3 : mg "NoForward" = some (.ref C3)
  g4 : mg "NoSuchEntry" = some (.ref C4)
  e1 : ErrE K Ch C1 C2 C3 C4 C1 true false false false
  e2 : ErrE K Ch C1 C2 C3 C4 C2 false true false false
  e3 : ErrE K Ch C1 C2 C3 C4 C3 false false true false
  e4 : ErrE K Ch C1 C2 C3 C4 C4 false false false true
section
variable {K : PySem.W.Frag} {mg : Str → Option Value} {Ch C1 C2 C3 C4 : Addr}
theorem ErrsC.word (E : ErrsC K mg Ch C1 C2 C3 C4) {c u : Str} {C : Addr} (h1 : wordOf c = some u) (h2 : mg c = some (.ref C)) : ∃ b1 b2 b3 b4, ErrE K Ch C1 C2 C3 C4 C b1 b2 b3 b4 ∧ IsW b1 b2 b3 b4 u := by
  unfold wordOf at h1
  split at h1
  · rename_i e
    subst e
    have := E.g1.symm.trans h2
    cases this; cases h1
    exact ⟨_, _, _, _, E.e1, .page⟩
  split at h1
  · rename_i e
    subst e
    have := E.g2.symm.trans h2
    cases this; cases h1
    exact ⟨_, _, _, _, E.e2, .back⟩
  split at h1
  · rename_i e
    subst e
    have := E.g3.symm.trans h2
    cases this; cases h1
    exact ⟨_, _, _, _, E.e3, .forward⟩
  split at h1
  · rename_i e
    subst e
    have := E.g4.symm.trans h2
    cases this; cases h1
    exact ⟨_, _, _, _, E.e4, .entry⟩
  · cases h1
theorem ErrsC.knows (E : ErrsC K mg Ch C1 C2 C3 C4) {c : Str} (h : ∃ u, wordOf c = some u) : ∃ C, mg c = some (.ref C) ∧ PySem.W.exmOne K (.ref C) (.ref Ch) = some true := by
  obtain ⟨u, h1⟩ := h
  unfold wordOf at h1
  split at h1
  · rename_i e; subst e; exact ⟨_, E.g1, E.e1.exm⟩
  split at h1
  · rename_i e; subst e; exact ⟨_, E.g2, E.e2.exm⟩
  split at h1
  · rename_i e; subst e; exact ⟨_, E.g3, E.e3.exm⟩
  split at h1
  · rename_i e; subst e; exact ⟨_, E.g4, E.e4.exm⟩
  · cases h1
end
theorem hot_suite {X : Cx} {a : Addr} {oe : Obj} {pn : List (Addr × Obj)} {cls : Value} {d : Option Addr} (hz : L2N.Zn cls d oe) (hv : ∃ vs, oe.data = .fields vs) : L2H.Hot1 (X.suite a pn).A (a, oe) := by
  obtain ⟨vs, h⟩ := hv
  exact ⟨rfl, vs, h, hz.2.2 vs h⟩

/-! ### methods -/
def MethAt (K : PySem.W.Frag) (mg : Str → Option Value) (m qual : Str) (st : Stmt) : Prop := ∃ f fd, Fun K m qual st f fd ∧ Meth K (tabOf mg) m f
abbrev BindsAllM (m qual : Str) (st : Stmt) (ps : List Str) : Prop := ∀ (kV doc pm : Value) (an : Option Addr) (cdv ct : Value) (us : List Value), us.length = ps.length → bindArgs (PySem.W.fnOf m qual (defArgs st) (defBody st) (defScope st) .none kV doc pm an cdv ct) ⟨us, []⟩ = pure (ps.zip us)
theorem tab_eq {mg : Str → Option Value} {C : Addr} (g : mg "Tab" = some (.ref C)) : tabOf mg = C := by
  unfold tabOf
  rw [g]
section
variable {P : Program} {w : World} {K : PySem.W.Frag} {mg : Str → Option Value} {base : Heap} {m qual c : Str} {st : Stmt} {N ps : List Str} {k : Nat} {body : CS} {C : Addr}
theorem knownM {G : Fn} (D : MethAt K mg m qual st) (S : FnScope N ps (defScope st)) (hb : BindsAllM m qual st ps) (hk : Keeps N.length body G)
    (der : ∀ (f : Addr) (cdv : Value) (A : Around) (outer : List Env) (s : Shared) (H : Hp) (E : XK), Room k (A.deeper (envOfC qual (defScope st) s.heap.objs.size f cdv)) →
      ESs (cxOf CX0 P w K mg base N qual (defScope st) f cdv A outer s H E).nox (defBody st) body) : KnownM P w K mg base (k + 1) m ps G := by
  obtain ⟨f, fd, F, M⟩ := D
  exact ⟨f, fd, fn_ok F S hk (der f), M, F.binds hb⟩
theorem knownMX {G : FnX} {t : CT} {msg : Str} {test : Expr} {rest : List Stmt} {j : Nat} {p1 p2 p3 p4 p5 : Pos} (D : MethAt K mg m qual st) (S : FnScope N ps (defScope st)) (hb : BindsAllM m qual st ps) (e : ErrC K mg c C)
    (hs : defBody st = .If test [.Raise (some (.Call (.Name c p1) [.Constant (.str msg) j p2] [] p3)) none p4] [] p5 :: rest) (hk : KeepsX N.length t c body G)
    (hg : ∀ (f : Addr) (cdv : Value) (A : Around) (outer : List Env) (s : Shared) (H : Hp) (E : XK), Gl (cxOf (L2N.CX P w) P w K mg base N qual (defScope st) f cdv A outer s H E) c)
    (der : ∀ (f : Addr) (cdv : Value) (A : Around) (outer : List Env) (s : Shared) (H : Hp) (E : XK), Room k (A.deeper (envOfC qual (defScope st) s.heap.objs.size f cdv)) →
      ET (cxOf (L2N.CX P w) P w K mg base N qual (defScope st) f cdv A outer s H E).nox test t ∧ ESs (cxOf (L2N.CX P w) P w K mg base N qual (defScope st) f cdv A outer s H E).nox rest body)
    (hdb : (c == ("__debug__" : Str)) = false := by decide) : KnownMX P w K mg base (k + 1) m ps G := by
  obtain ⟨f, fd, F, M⟩ := D
  exact ⟨f, fd, fn_okX F S e hs hk (hg f) (der f) hdb, M, F.binds hb⟩
theorem methAt {f : Addr} {oc : Value} {od an : Option Addr} {osl : Array (Option Value)} {kV doc pm cdv ct : Value} (gT : mg "Tab" = some (.ref C)) (a : PySem.W.findIn K (.ref C) m = some (some (.ref f))) (i : PySem.W.isFn K (.ref f) = true)
    (l : K.lookup f = some ⟨oc, od, .func (PySem.W.fnOf m qual (defArgs st) (defBody st) (defScope st) .none kV doc pm an cdv ct), osl⟩) (c : PySem.W.codeIn K cdv qual = true) (k : PySem.W.keepIn K (.ref f) = true) : MethAt K mg m qual st := by
  unfold MethAt
  rw [tab_eq gT]
  exact ⟨_, _, fun_mk l c k, ⟨a, i, k⟩⟩
end
/-! ### what the head tells -/
theorem kit_self {K : PySem.W.Frag} {C : Addr} : PySem.W.kitOne K (.ref C) (.ref C) = some true := by
  unfold PySem.W.kitOne
  rw [if_pos (by simp)]
theorem kit_no {K : PySem.W.Frag} {C D : Addr} (hne : (C == D) = false) (hc : PySem.W.isClsIn K D = true) (ht : PySem.W.typeIn K (.ref D) = some (.type "type")) (hs : PySem.W.subIn K (.ref C) (.ref D) = some false) : PySem.W.kitOne K (.ref C) (.ref D) = some false := by
  have e1 : (Value.ref C == Value.ref D) = false := by
    rw [Bool.eq_false_iff]
    intro z
    have z2 : C = D := Value.ref.inj (beq_iff_eq.mp z)
    rw [z2] at hne
    simp at hne
  have e2 : (PySem.W.clsIn K D).isSome = true := hc
  unfold PySem.W.kitOne
  rw [if_neg (by rw [e1]; simp)]
  show (if ((PySem.W.clsIn K D).isSome && PySem.W.typeIn K (.ref D) == some (.type "type")) = true then PySem.W.subIn K (.ref C) (.ref D) else none) = some false
  rw [e2, ht, hs]
  simp
section
variable {K : PySem.W.Frag} {mg : Str → Option Value} {C : Addr}
theorem tabC (gT : mg "Tab" = some (.ref C)) (pg : PySem.W.plainGet K C Str.empty = true) (hd : PySem.W.hasDictIn K C = true) (po : PySem.W.plainOver K C = true) (sa : PySem.W.findIn K (.ref C) "__setattr__" = some (some (.builtin "object.__setattr__"))) (nS : PySem.W.findIn K (.ref C) "state" = some none) : TabC K mg "state" := by
  refine ⟨?_, ?_, by decide +kernel, by decide +kernel⟩
  · rw [tab_eq gT]; exact ⟨pg, hd, po, sa⟩
  · rw [tab_eq gT]; exact nS
theorem mkC (gT : mg "Tab" = some (.ref C)) (mk : PySem.W.makesIn K C = true) (kp : PySem.W.keepIn K (.ref C) = true) : MkC K mg "Tab" := by
  refine ⟨?_, ?_, ?_⟩
  · rw [tab_eq gT]; exact gT
  · rw [tab_eq gT]; exact mk
  · rw [tab_eq gT]; exact kp
theorem eqC (gT : mg "Tab" = some (.ref C)) (nf : PySem.W.subIn K (.type "tuple") (.ref C) = some false) : EqC K mg := by
  refine ⟨?_⟩
  rw [tab_eq gT]; exact nf
theorem isC (gT : mg "Tab" = some (.ref C)) (T : TabC K mg "state") (ha : PySem.W.findIn K (.ref C) "__class__" = some (some (.builtin "object.__class__"))) (hn : PySem.W.specialIn K (.builtin "object.__class__") "__get__" = some (some (.builtin "getset_descriptor.__get__")))
    (ht : PySem.W.takesIn K (.builtin "object.__class__") = some true) (hm : PySem.W.mroIn K C (.type "object") = some true) (hc : PySem.W.isClsIn K C = true) (ty : PySem.W.typeIn K (.ref C) = some (.type "type")) (nf : PySem.W.subIn K (.type "tuple") (.ref C) = some false) : IsC K mg "Tab" := by
  have cl := T.cl
  have e := tab_eq gT
  refine ⟨?_, cl, ?_, hn, ht, ?_, ?_, ?_, ?_⟩
  · rw [e]; exact gT
  · rw [e]; exact ha
  · rw [e]; exact hm
  · rw [e]; exact hc
  · rw [e]; exact ty
  · rw [e]; exact nf
end
theorem errsC {K : PySem.W.Frag} {mg : Str → Option Value} {Ch C1 C2 C3 C4 : Addr}
    (gh : mg "HistoryError" = some (.ref Ch))
    (g1 : mg "InvalidPage" = some (.ref C1))
    (g2 : mg "NoBack" = some (.ref C2))
    (g3 : mg "NoForward" = some (.ref C3))
    (g4 : mg "NoSuchEntry" = some (.ref C4))
    (bh : PySem.W.subIn K (.ref Ch) (.type "BaseException") = some true) (dh : PySem.W.hasDictIn K Ch = true) (th : PySem.W.typeIn K (.ref Ch) = some (.type "type"))
    (hn : PySem.W.specialIn K (.builtin "object.__class__") "__get__" = some (some (.builtin "getset_descriptor.__get__"))) (ht : PySem.W.takesIn K (.builtin "object.__class__") = some true)
    (ga1 : PySem.W.findIn K (.ref C1) "__getattribute__" = some (some (.builtin "BaseException.__getattribute__"))) (gg1 : PySem.W.findIn K (.ref C1) "__getattr__" = some none) (b1 : PySem.W.subIn K (.ref C1) (.type "BaseException") = some true) (d1 : PySem.W.hasDictIn K C1 = true) (cc1 : PySem.W.findIn K (.ref C1) "__class__" = some (some (.builtin "object.__class__"))) (mo1 : PySem.W.mroIn K C1 (.type "object") = some true)
    (cl1 : PySem.W.isClsIn K C1 = true) (t1 : PySem.W.typeIn K (.ref C1) = some (.type "type")) (sh1 : PySem.W.subIn K (.ref C1) (.ref Ch) = some true)
    (ga2 : PySem.W.findIn K (.ref C2) "__getattribute__" = some (some (.builtin "BaseException.__getattribute__"))) (gg2 : PySem.W.findIn K (.ref C2) "__getattr__" = some none) (b2 : PySem.W.subIn K (.ref C2) (.type "BaseException") = some true) (d2 : PySem.W.hasDictIn K C2 = true) (cc2 : PySem.W.findIn K (.ref C2) "__class__" = some (some (.builtin "object.__class__"))) (mo2 : PySem.W.mroIn K C2 (.type "object") = some true)
    (cl2 : PySem.W.isClsIn K C2 = true) (t2 : PySem.W.typeIn K (.ref C2) = some (.type "type")) (sh2 : PySem.W.subIn K (.ref C2) (.ref Ch) = some true)
    (ga3 : PySem.W.findIn K (.ref C3) "__getattribute__" = some (some (.builtin "BaseException.__getattribute__"))) (gg3 : PySem.W.findIn K (.ref C3) "__getattr__" = some none) (b3 : PySem.W.subIn K (.ref C3) (.type "BaseException") = some true) (d3 : PySem.W.hasDictIn K C3 = true) (cc3 : PySem.W.findIn K (.ref C3) "__class__" = some (some (.builtin "object.__class__"))) (mo3 : PySem.W.mroIn K C3 (.type "object") = some true)
    (cl3 : PySem.W.isClsIn K C3 = true) (t3 : PySem.W.typeIn K (.ref C3) = some (.type "type")) (sh3 : PySem.W.subIn K (.ref C3) (.ref Ch) = some true)
    (ga4 : PySem.W.findIn K (.ref C4) "__getattribute__" = some (some (.builtin "BaseException.__getattribute__"))) (gg4 : PySem.W.findIn K (.ref C4) "__getattr__" = some none) (b4 : PySem.W.subIn K (.ref C4) (.type "BaseException") = some true) (d4 : PySem.W.hasDictIn K C4 = true) (cc4 : PySem.W.findIn K (.ref C4) "__class__" = some (some (.builtin "object.__class__"))) (mo4 : PySem.W.mroIn K C4 (.type "object") = some true)
    (cl4 : PySem.W.isClsIn K C4 = true) (t4 : PySem.W.typeIn K (.ref C4) = some (.type "type")) (sh4 : PySem.W.subIn K (.ref C4) (.ref Ch) = some true)
    (n12 : PySem.W.subIn K (.ref C1) (.ref C2) = some false) (e12 : (C1 == C2) = false)
    (n13 : PySem.W.subIn K (.ref C1) (.ref C3) = some false) (e13 : (C1 == C3) = false)
    (n14 : PySem.W.subIn K (.ref C1) (.ref C4) = some false) (e14 : (C1 == C4) = false)
    (n21 : PySem.W.subIn K (.ref C2) (.ref C1) = some false) (e21 : (C2 == C1) = false)
    (n23 : PySem.W.subIn K (.ref C2) (.ref C3) = some false) (e23 : (C2 == C3) = false)
    (n24 : PySem.W.subIn K (.ref C2) (.ref C4) = some false) (e24 : (C2 == C4) = false)
    (n31 : PySem.W.subIn K (.ref C3) (.ref C1) = some false) (e31 : (C3 == C1) = false)
    (n32 : PySem.W.subIn K (.ref C3) (.ref C2) = some false) (e32 : (C3 == C2) = false)
    (n34 : PySem.W.subIn K (.ref C3) (.ref C4) = some false) (e34 : (C3 == C4) = false)
    (n41 : PySem.W.subIn K (.ref C4) (.ref C1) = some false) (e41 : (C4 == C1) = false)
    (n42 : PySem.W.subIn K (.ref C4) (.ref C2) = some false) (e42 : (C4 == C2) = false)
    (n43 : PySem.W.subIn K (.ref C4) (.ref C3) = some false) (e43 : (C4 == C3) = false) : ErrsC K mg Ch C1 C2 C3 C4 :=
  ⟨gh, g1, g2, g3, g4, ⟨⟨ga1, gg1, b1, d1, cc1, hn, ht, mo1⟩, PySem.W.exm_ref bh dh th sh1, kit_self, kit_no e12 cl2 t2 n12, kit_no e13 cl3 t3 n13, kit_no e14 cl4 t4 n14⟩, ⟨⟨ga2, gg2, b2, d2, cc2, hn, ht, mo2⟩, PySem.W.exm_ref bh dh th sh2, kit_no e21 cl1 t1 n21, kit_self, kit_no e23 cl3 t3 n23, kit_no e24 cl4 t4 n24⟩, ⟨⟨ga3, gg3, b3, d3, cc3, hn, ht, mo3⟩, PySem.W.exm_ref bh dh th sh3, kit_no e31 cl1 t1 n31, kit_no e32 cl2 t2 n32, kit_self, kit_no e34 cl4 t4 n34⟩, ⟨⟨ga4, gg4, b4, d4, cc4, hn, ht, mo4⟩, PySem.W.exm_ref bh dh th sh4, kit_no e41 cl1 t1 n41, kit_no e42 cl2 t2 n42, kit_no e43 cl3 t3 n43, kit_self⟩⟩
end BF

set_option Elab.async false
set_option linter.all false
set_option autoImplicit false
set_option maxRecDepth 10000
namespace BF
open PySem Enc
/-! histories: what an action does -/
def valid (h : Hist) : Prop := h.at_ < h.ps.length ∧ h.ps.length ≤ 1000
instance (h : Hist) : Decidable (valid h) := by unfold valid; infer_instance
def stepH (h : Hist) : Act → Hist
  | .visit p => ⟨h.ps.take (h.at_ + 1) ++ [p], h.at_ + 1⟩
  | .back => ⟨h.ps, h.at_ - 1⟩
  | .forward => ⟨h.ps, min (h.ps.length - 1) (h.at_ + 1)⟩
  | .go i => if i < h.ps.length then ⟨h.ps, i⟩ else h
def plain : Act → Bool
  | .go _ => false
  | _ => true
/-- valid, with room for so many more pages -/
def roomy (h : Hist) (n : Nat) : Prop := h.at_ < h.ps.length ∧ h.ps.length + n ≤ 1000
instance (h : Hist) (n : Nat) : Decidable (roomy h n) := by unfold roomy; infer_instance
theorem roomy_step {h : Hist} {n : Nat} (a : Act) (hr : roomy h (n + 1)) : roomy (stepH h a) n := by
  obtain ⟨h1, h2⟩ := hr
  cases a with
  | visit p => constructor <;> simp [stepH] <;> omega
  | back => constructor <;> simp [stepH] <;> omega
  | forward => constructor <;> simp [stepH] <;> omega
  | go i =>
    show roomy (if i < h.ps.length then ⟨h.ps, i⟩ else h) n
    by_cases hi : i < h.ps.length
    · rw [if_pos hi]; exact ⟨hi, by show h.ps.length + n ≤ 1000; omega⟩
    · rw [if_neg hi]; exact ⟨h1, by omega⟩
def runH (h : Hist) (l : List Act) : Hist := l.foldl stepH h
theorem roomy_run : ∀ (l : List Act) {h : Hist} {n : Nat}, roomy h (n + l.length) → roomy (runH h l) n
  | [], _, _, hr => hr
  | a :: l, h, n, hr => roomy_run l (roomy_step a (by rw [List.length_cons, ← Nat.add_assoc] at hr; exact hr))
theorem roomy_mono {h : Hist} {n m : Nat} (hr : roomy h n) (hm : m ≤ n) : roomy h m := ⟨hr.1, by have := hr.2; omega⟩
theorem enc_hist' (h : Hist) : (enc h : W) = .tup [.tup (h.ps.map W.str), .int h.at_] := rfl
theorem enc_mk (ps : List Str) (i : Nat) : (.tup [.tup (ps.map W.str), .int i] : W) = enc (⟨ps, i⟩ : Hist) := rfl
end BF

set_option Elab.async false
set_option linter.all false
set_option autoImplicit false
set_option maxRecDepth 10000
namespace BF
open PySem Enc
/-! _law_like, to a depth -/
def likeW (M : Mem) : Nat → W → W → Option Bool
  | 0, _, _ => none
  | k + 1, x, y => match seqW M x with
    | some (b, xs) => match seqW M y with
      | some (c, ys) => if b ≠ c then some false else if xs.length ≠ ys.length then some false else if xs.length ≤ 100000 then (mapO (fun p => likeW M k p.1 p.2) (xs.zip ys)).map fun bs => bs.all id else none
      | none => if isScal y = true then some false else none
    | none => if isScal x = true then match seqW M y with
        | some _ => some false
        | none => if isScal y = true then (if isBl x = isBl y then eqW M x y else some false) else none
      else none
def F__law_like (d : Nat) : Fn := fun ws M => match ws with
  | [x, y] => (likeW M d x y).map fun b => (.bl b, M)
  | _ => none
abbrev N__law_like : List Str := ["one", "two", "k"]
def c__law_like (R : Fn) : CS :=
  (sSeq (sIf (tB (e1 (gIsi2 "list" "tuple") (eV 0))) (sSeq (sIf (tOr (tB (e2 gNe (e1 (gIsi "list") (eV 0)) (e1 (gIsi "list") (eV 1)))) (tB (e2 gNe (e1 (gIsi "tuple") (eV 0)) (e1 (gIsi "tuple") (eV 1))))) (sRet (eL (.bl false))) sNil)
  (sSeq (sIf (tB (e2 gNe (eN pLen [(eV 0)]) (eN pLen [(eV 1)]))) (sRet (eL (.bl false))) sNil)
  (sRet (e2 gEq (eLc (iRange1 (eN pLen [(eV 0)])) (gV 2) (tNot (tB (eN R [(e2 gIx (eV 0) (eV 2)), (e2 gIx (eV 1) (eV 2))]))) (eV 2) [2]) (eLst []))))) sNil)
  (sSeq (sIf (tB (e1 (gIsi2 "list" "tuple") (eV 1))) (sRet (eL (.bl false))) sNil)
  (sRet (eAnd (e2 gEq (e1 (gIsi "bool") (eV 0)) (e1 (gIsi "bool") (eV 1))) (e2 gEq (eV 0) (eV 1))))))
theorem like_seq {M : Mem} {x y : W} {b c : Bool} {xs ys : List W} (R : Fn) (hx : seqW M x = some (b, xs)) (hy : seqW M y = some (c, ys)) {r : Bool}
    (h : b = c → xs.length = ys.length → xs.length ≤ 100000 ∧ ∃ bs : List Bool, bs.length = xs.length ∧ bs.all id = r ∧ ∀ (i : Nat) (p q : W), xs[i]? = some p → ys[i]? = some q → ∀ g, ∃ z, bs[i]? = some z ∧ R [p, q] (M ++ g) = some (.bl z, M ++ g))
    (h2 : b ≠ c → r = false) (h3 : xs.length ≠ ys.length → r = false) :
    ∃ g, c__law_like R [some x, some y, none] M = some (.rt (.bl r) (M ++ g)) := by
  unfold c__law_like
  simp only [sSeq_eq, sIf_eq, tB_eq, e1_eq, eV_eq, List.getD_cons_zero, List.getD_cons_succ, Option.bind_some, isi2_seq hx, if_true, tOr_eq, e2_eq, gNe_eq, isiL_seq hx, isiL_seq hy, eqW_bl, Option.map_some]
  by_cases hb : b = c
  · subst hb
    simp only [decide_true, Bool.not_true, Bool.false_eq_true, if_false, isiT_seq hx, isiT_seq hy, Option.bind_some, eqW_bl, Option.map_some, sNil_eq, eN_eq, eArgs_cons, eArgs_nil, eV_eq, List.getD_cons_zero, List.getD_cons_succ, len_seq hx, len_seq hy, eqW_int, sRet_eq, eL_eq]
    by_cases hl : xs.length = ys.length
    · obtain ⟨hL, bs, hbl, hr, hR⟩ := h rfl hl
      have hx' := hx
      simp only [← hl, decide_true, Bool.not_true, Bool.false_eq_true, if_false, e2_eq, eLc_eq, iRange1_eq, eN_eq, eArgs_cons, eArgs_nil, eV_eq, List.getD_cons_zero, Option.bind_some, len_seq hx]
      have k2 : small62 (xs.length : Int) = true := small62_of (by omega)
      simp only [k2, if_true, Option.bind_some, Int.toNat_natCast]
      have key := lcL_filter (gd := gdT) (g := gV 2) (t := tNot (tB (eN R [(e2 gIx (eV 0) (eV 2)), (e2 gIx (eV 1) (eV 2))]))) (e := eV 2) (vs := [2]) (σ := [some x, some y, none]) (rangeW 0 xs.length) id
        (fun w => match w with | .int i => !(bs.getD i.toNat true) | _ => false) M [] (by rw [rangeW_length]; simp; omega) (fun _ => rfl) (fun w hw l => by
          obtain ⟨i, hi, rfl⟩ := rangeW_mem hw
          refine ⟨[some x, some y, some (.int (0 + (i : Nat)))], rfl, ?_, fun _ => rfl⟩
          obtain ⟨p, hp⟩ : ∃ p, xs[i]? = some p := ⟨_, List.getElem?_eq_getElem hi⟩
          obtain ⟨q, hq⟩ : ∃ q, ys[i]? = some q := ⟨_, List.getElem?_eq_getElem (by omega)⟩
          obtain ⟨z, hz, hRz⟩ := hR i p q hp hq [.lst l]
          have f1 := ix_seq' (seqW_app (g := [.lst l]) hx) hp
          have f2 := ix_seq' (seqW_app (g := [.lst l]) hy) hq
          simp [f1, f2, hRz, hz])
      rw [key]
      simp only [Option.bind_some, eLst_eq, eArgs_nil, List.length_nil, Nat.zero_le, if_true, List.nil_append, List.map_id, gEq_eq]
      have hf : ∃ is : List Int, (rangeW 0 xs.length).filter (fun w => match w with | .int i => !(bs.getD i.toNat true) | _ => false) = is.map enc ∧ (is = [] ↔ bs.all id = true) := by
        refine ⟨((List.range xs.length).filter fun i => !(bs.getD i true)).map fun i => (0 + (i : Nat) : Int), ?_, ?_⟩
        · unfold rangeW
          rw [List.filter_map, List.map_map]
          have hp : ((fun w => match w with | .int i => !(bs.getD i.toNat true) | _ => false) ∘ fun (i : Nat) => W.int (0 + (i : Int))) = fun i => !(bs.getD i true) := by
            funext i
            show (!(bs.getD (0 + (i : Int)).toNat true)) = _
            rw [Int.zero_add, Int.toNat_natCast]
          rw [hp]
          exact List.map_congr_left fun _ _ => rfl
        · rw [List.map_eq_nil_iff, List.filter_eq_nil_iff, List.all_eq_true]
          constructor
          · intro h0 z hz
            obtain ⟨i, hi⟩ := List.getElem?_of_mem hz
            have hil : i < xs.length := by rw [← hbl]; exact (List.getElem?_eq_some_iff.mp hi).1
            have := h0 i (List.mem_range.mpr hil)
            rw [List.getD_eq_getElem?_getD, hi] at this
            simpa using this
          · intro h0 i hi
            have hil : i < bs.length := by rw [hbl]; exact List.mem_range.mp hi
            have := h0 bs[i] (List.getElem_mem hil)
            simp [hil] at this ⊢
            exact this
      obtain ⟨is, hf1, hf2⟩ := hf
      rw [hf1]
      have := eqW_lst (α := Int) (M ++ [.lst (is.map enc)] ++ [.lst []]) M.length (M ++ [MO.lst (is.map enc)]).length is [] (by simp) (by simp)
      refine ⟨[.lst (is.map enc)] ++ [.lst []], ?_⟩
      have hd : decide (is = []) = r := by
        rw [← hr, Bool.eq_iff_iff, decide_eq_true_eq]
        exact hf2
      rw [hd, List.append_assoc] at this
      simp only [this, Option.map_some, Option.bind_some, List.append_assoc]
    · refine ⟨[], ?_⟩
      have k1 : (!decide ((xs.length : Int) = (ys.length : Int))) = true := by simp; omega
      simp only [if_pos k1, Option.bind_some, h3 hl, List.append_nil]
  · refine ⟨[], ?_⟩
    have k1 : (!decide (b = c)) = true := by simp [hb]
    simp only [k1, if_true, Option.bind_some, h2 hb, sRet_eq, eL_eq, List.append_nil]

theorem isScal_closed {w : W} (h : isScal w = true) (n : Nat) : w.closed n = true := by cases w <;> first | rfl | cases h
theorem like_scal1 {M : Mem} {x y : W} {b : Bool} {xs : List W} (R : Fn) (hx : seqW M x = some (b, xs)) (hy : isScal y = true) : ∃ g, c__law_like R [some x, some y, none] M = some (.rt (.bl false) (M ++ g)) := by
  refine ⟨[], ?_⟩
  unfold c__law_like
  cases b <;> simp [isi2_seq hx, isiL_seq hx, isiT_seq hx, isiL_scal hy, isiT_scal hy]
theorem like_scal2 {M : Mem} {x y : W} {b : Bool} {ys : List W} (R : Fn) (hx : isScal x = true) (hy : seqW M y = some (b, ys)) : ∃ g, c__law_like R [some x, some y, none] M = some (.rt (.bl false) (M ++ g)) := by
  refine ⟨[], ?_⟩
  unfold c__law_like
  simp [isi2_scal hx, isi2_seq hy]
theorem like_scal3 {M : Mem} {x y : W} (R : Fn) {r : Bool} (hx : isScal x = true) (hy : isScal y = true) (h : isBl x = isBl y → eqW M x y = some r) (h2 : isBl x ≠ isBl y → r = false) : ∃ g, c__law_like R [some x, some y, none] M = some (.rt (.bl r) (M ++ g)) := by
  refine ⟨[], ?_⟩
  unfold c__law_like
  by_cases hb : isBl x = isBl y
  · simp [isi2_scal hx, isi2_scal hy, isiB_scal hx, isiB_scal hy, hb, h hb]
  · simp [isi2_scal hx, isi2_scal hy, isiB_scal hx, isiB_scal hy, hb, h2 hb]
theorem toD_app {M g : Mem} : ∀ (k : Nat) (x : W) (d : PyData), toD M k x = some d → toD (M ++ g) k x = some d
  | 0, _, _, h => by cases h
  | k + 1, x, d, h => by
    have all : ∀ (ws : List W) (ds : List PyData), mapO (toD M k) ws = some ds → mapO (toD (M ++ g) k) ws = some ds := by
      intro ws
      induction ws with
      | nil => intro ds h; exact h
      | cons w ws ih =>
        intro ds h
        rw [mapO] at h
        split at h
        · rename_i b bs h1 h2
          cases h
          rw [mapO, toD_app k w b h1, ih bs h2]
        · cases h
    cases x with
    | tup ws =>
      rw [toD] at h ⊢
      obtain ⟨ds, h1, rfl⟩ := Option.map_eq_some_iff.mp h
      rw [all ws ds h1]; rfl
    | ref n =>
      rw [toD] at h ⊢
      split at h
      · rename_i ws hw
        obtain ⟨ds, h1, rfl⟩ := Option.map_eq_some_iff.mp h
        rw [get_app hw]
        simp only [all ws ds h1]; rfl
      · rename_i ws hw
        obtain ⟨ds, h1, rfl⟩ := Option.map_eq_some_iff.mp h
        rw [get_app hw]
        simp only [all ws ds h1]; rfl
      · cases h
    | _ => exact h
theorem eqW_app {M g : Mem} {x y : W} {b : Bool} (h : eqW M x y = some b) : eqW (M ++ g) x y = some b := by
  unfold eqW at h
  split at h
  · rename_i d e h1 h2
    cases h
    unfold eqW
    rw [toD_app 64 x d h1, toD_app 64 y e h2]
  · cases h
theorem seqW_none_app {M g : Mem} {x : W} (h : isScal x = true) : seqW M x = none ∧ seqW (M ++ g) x = none := by cases x <;> first | exact ⟨rfl, rfl⟩ | cases h
theorem likeW_grow {M g : Mem} : ∀ (k : Nat) (x y : W) (b : Bool), likeW M k x y = some b → likeW (M ++ g) k x y = some b
  | 0, _, _, _, h => by cases h
  | k + 1, x, y, b, h => by
    rw [likeW] at h ⊢
    split at h
    · rename_i b1 xs hx
      rw [seqW_app hx]
      split at h
      · rename_i c ys hy
        rw [seqW_app hy]
        simp only at h ⊢
        split at h
        · rename_i hb; rw [if_pos hb]; exact h
        · rename_i hb
          rw [if_neg hb]
          split at h
          · rename_i hl; rw [if_pos hl]; exact h
          · rename_i hl
            rw [if_neg hl]
            split at h
            · rename_i h5
              rw [if_pos h5]
              obtain ⟨bs, h1, h2⟩ := Option.map_eq_some_iff.mp h
              have all : ∀ (ps : List (W × W)) (bs : List Bool), mapO (fun p => likeW M k p.1 p.2) ps = some bs → mapO (fun p => likeW (M ++ g) k p.1 p.2) ps = some bs := by
                intro ps
                induction ps with
                | nil => intro ds h; exact h
                | cons w ws ih =>
                  intro ds h
                  rw [mapO] at h
                  split at h
                  · rename_i b bs h1 h2
                    cases h
                    rw [mapO, likeW_grow k w.1 w.2 b h1, ih bs h2]
                  · cases h
              rw [all _ bs h1, ← h2]; rfl
            · cases h
      · rename_i hy
        split at h
        · rename_i hs
          rw [(seqW_none_app (M := M) (g := g) hs).2]
          simp only [if_pos hs]; exact h
        · cases h
    · rename_i hx
      split at h
      · rename_i hs
        rw [(seqW_none_app (M := M) (g := g) hs).2]
        simp only [if_pos hs]
        split at h
        · rename_i hy
          rw [seqW_app hy]; exact h
        · split at h
          · rename_i hy
            rw [(seqW_none_app (M := M) (g := g) hy).2]
            simp only [if_pos hy]
            split at h
            · rename_i hb; rw [if_pos hb]; exact eqW_app h
            · rename_i hb; rw [if_neg hb]; exact h
          · cases h
      · cases h
theorem keeps__law_like (d : Nat) : Keeps 3 (c__law_like (F__law_like d)) (F__law_like (d + 1)) := by
  refine KeepsP.keeps ?_
  intro ws M w M' hc hw e
  unfold F__law_like at e
  split at e
  · rename_i x y
    obtain ⟨r, hr, e2⟩ := Option.map_eq_some_iff.mp e
    cases e2
    have fin : (∃ g, c__law_like (F__law_like d) [some x, some y, none] M = some (.rt (.bl r) (M ++ g))) → ∃ g, (c__law_like (F__law_like d) (([x, y] : List W).map some ++ List.replicate (3 - ([x, y] : List W).length) none) M = some (.rt (.bl r) (M ++ g)) ∨
      W.bl r = .non ∧ ∃ σ', c__law_like (F__law_like d) (([x, y] : List W).map some ++ List.replicate (3 - ([x, y] : List W).length) none) M = some (.nx σ' (M ++ g))) ∧ M.length ≤ M.length ∧ Closed M ∧ (W.bl r).closed M.length = true :=
      fun ⟨g, hg⟩ => ⟨g, .inl hg, Nat.le_refl _, hc, rfl⟩
    refine fin ?_
    rw [likeW] at hr
    split at hr
    · rename_i b xs hx
      split at hr
      · rename_i c ys hy
        refine like_seq _ hx hy (fun h1 h2 => ?_) (fun h1 => ?_) (fun h2 => ?_)
        · subst h1
          rw [if_neg (by simp), if_neg (by simpa using h2)] at hr
          split at hr
          · rename_i h5
            obtain ⟨bs, h3, h4⟩ := Option.map_eq_some_iff.mp hr
            obtain ⟨l1, l2⟩ := mapO_at h3
            refine ⟨h5, bs, by rw [l1, List.length_zip]; omega, h4, fun i p q hp hq g => ?_⟩
            obtain ⟨z, hz, hlk⟩ := l2 i (p, q) (by rw [List.getElem?_zip_eq_some]; exact ⟨hp, hq⟩)
            refine ⟨z, hz, ?_⟩
            show (likeW (M ++ g) d p q).map _ = _
            rw [likeW_grow d p q z hlk]; rfl
          · cases hr
        · rw [if_pos h1] at hr
          cases hr; rfl
        · by_cases h1 : b ≠ c
          · rw [if_pos h1] at hr; cases hr; rfl
          · rw [if_neg h1, if_pos h2] at hr; cases hr; rfl
      · split at hr
        · rename_i hs
          cases hr
          exact like_scal1 _ hx hs
        · cases hr
    · split at hr
      · rename_i hs
        split at hr
        · rename_i hy
          cases hr
          exact like_scal2 _ hs hy
        · split at hr
          · rename_i hs2
            refine like_scal3 _ hs hs2 (fun hb => ?_) (fun hb => ?_)
            · rw [if_pos hb] at hr; exact hr
            · rw [if_neg hb] at hr; cases hr; rfl
          · cases hr
      · cases hr
  · cases e
/-- no tuple in it is long -/
def smallW : Nat → W → Bool
  | 0, _ => false
  | k + 1, .tup ws => decide (ws.length ≤ 100000) && ws.all (smallW k)
  | _ + 1, .non | _ + 1, .bl _ | _ + 1, .int _ | _ + 1, .str _ | _ + 1, .ref _ => true
/-- of list-free values it is equality itself -/
theorem eqP_scal {x y : W} (hx : isScal x = true) (hy : isScal y = true) (hb : isBl x = isBl y) : eqP x y = decide (x = y) := by
  rw [Bool.eq_iff_iff, decide_eq_true_eq]
  cases x <;> cases y <;> simp [isScal, isBl, eqP] at *
theorem likeW_S (M : Mem) (k : Nat) (x y : W) (sx : isScal x = true) (sy : isScal y = true) (hx : okW (k + 1) x = true) (hy : okW (k + 1) y = true) (hk : k + 1 ≤ 64) : likeW M (k + 1) x y = some (decide (x = y)) := by
  rw [likeW, (seqW_none_app (M := M) (g := []) sx).1]
  simp only [sx, if_true]
  rw [(seqW_none_app (M := M) (g := []) sy).1]
  simp only [sy, if_true]
  split
  · rename_i hb
    rw [eqW_P M (okW_mono _ _ hx 64 hk) (okW_mono _ _ hy 64 hk), eqP_scal sx sy hb]
  · rename_i hb
    congr 1
    symm
    rw [decide_eq_false_iff_not]
    intro e
    exact hb (by rw [e])
theorem likeW_P (M : Mem) : ∀ (k : Nat) (x y : W), okW k x = true → okW k y = true → (∀ z, z = x ∨ z = y → smallW k z = true) → k ≤ 64 → likeW M k x y = some (decide (x = y))
  | 0, _, _, h, _, _, _ => by cases h
  | k + 1, x, y, hx, hy, hz, hk => by
    cases x with
    | ref _ => rw [okW] at hx; cases hx
    | tup xs =>
      cases y with
      | ref _ => rw [okW] at hy; cases hy
      | tup ys =>
        rw [okW, List.all_eq_true] at hx hy
        have s1 := hz _ (.inl rfl)
        have s2 := hz _ (.inr rfl)
        rw [smallW, Bool.and_eq_true, List.all_eq_true] at s1 s2
        rw [likeW]
        show (if false ≠ false then some false else if xs.length ≠ ys.length then some false else if xs.length ≤ 100000 then _ else none) = _
        rw [if_neg (by simp)]
        by_cases hl : xs.length = ys.length
        · rw [if_neg (by simpa using hl), if_pos (of_decide_eq_true s1.1)]
          have : ∀ (xs ys : List W), xs.length = ys.length → (∀ x ∈ xs, okW k x = true) → (∀ x ∈ ys, okW k x = true) → (∀ x ∈ xs, smallW k x = true) → (∀ x ∈ ys, smallW k x = true) →
              (mapO (fun p : W × W => likeW M k p.1 p.2) (xs.zip ys)).map (fun bs => bs.all id) = some (decide (xs = ys)) := by
            intro xs
            induction xs with
            | nil => intro ys h _ _ _ _; cases ys with
              | nil => rfl
              | cons _ _ => cases h
            | cons x xs ih =>
              intro ys h a1 a2 a3 a4
              cases ys with
              | nil => cases h
              | cons y ys =>
                have e1 := likeW_P M k x y (a1 x List.mem_cons_self) (a2 y List.mem_cons_self) (fun z hz => hz.elim (fun e => e ▸ a3 x List.mem_cons_self) (fun e => e ▸ a4 y List.mem_cons_self)) (by omega)
                have e2 := ih ys (by simpa using h) (fun z hz => a1 z (List.mem_cons_of_mem _ hz)) (fun z hz => a2 z (List.mem_cons_of_mem _ hz)) (fun z hz => a3 z (List.mem_cons_of_mem _ hz)) (fun z hz => a4 z (List.mem_cons_of_mem _ hz))
                obtain ⟨bs, h1, h2⟩ := Option.map_eq_some_iff.mp e2
                rw [List.zip_cons_cons, mapO, e1, h1]
                simp only [Option.map_some, List.all_cons, id, h2]
                congr 1
                by_cases hxy : x = y <;> by_cases hxs : xs = ys <;> simp [hxy, hxs]
          rw [this xs ys hl hx hy s1.2 s2.2]
          simp
        · rw [if_pos (by simpa using hl)]
          congr 1
          symm
          rw [decide_eq_false_iff_not]
          intro e
          cases e
          exact hl rfl
      | _ => rfl
    | _ => cases y with
      | ref _ => rw [okW] at hy; cases hy
      | tup _ => rfl
      | _ => exact likeW_S M k _ _ rfl rfl hx hy hk
theorem like_enc {α : Type} [Enc α] [DecidableEq α] (d : Nat) (a b : α) (M : Mem) (h1 : dep α ≤ d) (h2 : d ≤ 64) (sa : smallW d (enc a) = true) (sb : smallW d (enc b) = true) : F__law_like d [enc a, enc b] M = some (.bl (decide (a = b)), M) := by
  unfold F__law_like
  simp only
  rw [likeW_P M d _ _ (okW_mono _ _ (ok a) d h1) (okW_mono _ _ (ok b) d h1) (fun z hz => hz.elim (fun e => e ▸ sa) (fun e => e ▸ sb)) h2]
  have : decide ((enc a : W) = enc b) = decide (a = b) := by
    rw [Bool.eq_iff_iff, decide_eq_true_eq, decide_eq_true_eq]
    exact ⟨fun h => Enc.inj h, fun h => by rw [h]⟩
  rw [this]; rfl
theorem F0__law_like (ws : List W) (M : Mem) : F__law_like 0 ws M = none := by
  unfold F__law_like
  split <;> rfl
end BF

set_option Elab.async false
set_option linter.all false
set_option autoImplicit false
set_option maxRecDepth 10000
namespace BF
open PySem Enc
/-! arbitrary values: readable ones, and promises that tell a truth value of them -/
theorem mapO_some {α β : Type} {f g : α → Option β} : ∀ {ws : List α} {ds : List β}, mapO f ws = some ds → (∀ w ∈ ws, ∀ d, f w = some d → g w = some d) → mapO g ws = some ds
  | [], _, h, _ => h
  | w :: ws, ds, h, hfg => by
    rw [mapO] at h
    split at h
    · rename_i b bs h1 h2
      cases h
      rw [mapO, hfg w List.mem_cons_self b h1, mapO_some h2 fun w' hw => hfg w' (List.mem_cons_of_mem _ hw)]
    · cases h
theorem toD_up {M : Mem} : ∀ (k : Nat) (w : W) (d : PyData), toD M k w = some d → toD M (k + 1) w = some d
  | 0, _, _, h => by cases h
  | k + 1, w, d, h => by
    cases w with
    | tup ws =>
      rw [toD] at h
      obtain ⟨ds, h1, rfl⟩ := Option.map_eq_some_iff.mp h
      rw [toD, mapO_some h1 fun w _ d => toD_up k w d]; rfl
    | ref n =>
      rw [toD] at h ⊢
      split at h
      · rename_i ws hw
        obtain ⟨ds, h1, rfl⟩ := Option.map_eq_some_iff.mp h
        simp only [mapO_some h1 fun w _ d => toD_up k w d]; rfl
      · rename_i ws hw
        obtain ⟨ds, h1, rfl⟩ := Option.map_eq_some_iff.mp h
        simp only [mapO_some h1 fun w _ d => toD_up k w d]; rfl
      · cases h
    | _ => exact h
theorem toD_le {M : Mem} {j k : Nat} (h : j ≤ k) {w : W} {d : PyData} (e : toD M j w = some d) : toD M k w = some d := by
  obtain ⟨n, rfl⟩ := Nat.exists_eq_add_of_le h
  clear h
  induction n with
  | zero => exact e
  | succ n ih => exact toD_up (j + n) w d ih
/-- a tuple's items can be read -/
theorem toD_tup {M : Mem} {k : Nat} {ws : List W} {d : PyData} (h : toD M k (.tup ws) = some d) : ∃ ds, d = .tuple ds ∧ ds.length = ws.length ∧ ∀ (i : Nat) (w : W), ws[i]? = some w → ∃ e, ds[i]? = some e ∧ toD M k w = some e := by
  cases k with
  | zero => cases h
  | succ k =>
    rw [toD] at h
    obtain ⟨ds, h1, rfl⟩ := Option.map_eq_some_iff.mp h
    obtain ⟨h2, h3⟩ := mapO_at h1
    refine ⟨ds, rfl, h2, fun i w hw => ?_⟩
    obtain ⟨e, h4, h5⟩ := h3 i w hw
    exact ⟨e, h4, toD_up k w e h5⟩
theorem toD_mem {M : Mem} {k : Nat} {ws : List W} {d : PyData} (h : toD M k (.tup ws) = some d) {w : W} (hw : w ∈ ws) : ∃ e, toD M k w = some e := by
  obtain ⟨ds, _, _, h3⟩ := toD_tup h
  obtain ⟨i, hi⟩ := List.getElem?_of_mem hw
  obtain ⟨e, _, h5⟩ := h3 i w hi
  exact ⟨e, h5⟩
theorem toD_closed {M : Mem} : ∀ (k : Nat) (w : W) (d : PyData), toD M k w = some d → w.closed M.length = true
  | 0, _, _, h => by cases h
  | k + 1, w, d, h => by
    cases w with
    | tup ws =>
      rw [toD] at h
      obtain ⟨ds, h1, rfl⟩ := Option.map_eq_some_iff.mp h
      have all : ∀ (ws : List W) (ds : List PyData), mapO (toD M k) ws = some ds → W.closeds M.length ws = true := by
        intro ws
        induction ws with
        | nil => intro ds h; rfl
        | cons w ws ih =>
          intro ds h
          rw [mapO] at h
          split at h
          · rename_i b bs h1 h2
            cases h
            rw [W.closeds, toD_closed k w b h1, ih bs h2]; rfl
          · cases h
      rw [W.closed]
      exact all ws ds h1
    | ref n =>
      rw [toD] at h
      rw [W.closed, decide_eq_true_eq]
      split at h
      · rename_i ws hw; exact (List.getElem?_eq_some_iff.mp hw).1
      · rename_i ws hw; exact (List.getElem?_eq_some_iff.mp hw).1
      · cases h
    | _ => rfl
def kindW : W → String
  | .non => "NoneType"
  | .bl _ => "bool"
  | .int _ => "int"
  | .str _ => "str"
  | .tup _ => "tuple"
  | .ref _ => "list"
theorem tyW_of {M : Mem} {k : Nat} {w : W} {d : PyData} (h : toD M k w = some d) : tyW M w = some (kindW w) := by
  cases k with
  | zero => cases h
  | succ k =>
    cases w with
    | ref n =>
      rw [toD] at h
      unfold tyW kindW
      simp only
      split at h
      · rfl
      · rfl
      · cases h
    | _ => rfl
theorem isi_of {M : Mem} {k : Nat} {w : W} {d : PyData} (C : String) (h : toD M k w = some d) : gIsi C M w = some (.bl (isTy C (kindW w)), M) := by
  unfold gIsi
  rw [tyW_of h]; rfl
theorem isi2_of {M : Mem} {k : Nat} {w : W} {d : PyData} (C D : String) (h : toD M k w = some d) : gIsi2 C D M w = some (.bl (isTy C (kindW w) || isTy D (kindW w)), M) := by
  unfold gIsi2
  rw [tyW_of h]; rfl
def isT : W → Bool
  | .tup _ => true
  | _ => false
def isS : W → Bool
  | .str _ => true
  | _ => false
def isI : W → Bool
  | .int _ => true
  | _ => false
theorem isTy_tup (w : W) : isTy "tuple" (kindW w) = isT w := by cases w <;> (simp only [kindW, isT]; decide)
theorem isTy_str (w : W) : isTy "str" (kindW w) = isS w := by cases w <;> (simp only [kindW, isS]; decide)
theorem isi_tup {M : Mem} {k : Nat} {w : W} {d : PyData} (h : toD M k w = some d) : gIsi "tuple" M w = some (.bl (isT w), M) := by rw [isi_of _ h, isTy_tup]
theorem isi_str {M : Mem} {k : Nat} {w : W} {d : PyData} (h : toD M k w = some d) : gIsi "str" M w = some (.bl (isS w), M) := by rw [isi_of _ h, isTy_str]
/-- a truth value told of a readable value -/
def pB (p : W → Bool) : Fn := fun ws M => match ws with
  | [w] => match toD M 40 w with
    | some _ => some (.bl (p w), M)
    | none => none
  | _ => none
theorem pB_eq {p : W → Bool} {M : Mem} {w : W} {d : PyData} (h : toD M 40 w = some d) : pB p [w] M = some (.bl (p w), M) := by
  unfold pB
  simp only [h]
theorem keepsB {p : W → Bool} {n : Nat} {body : CS} (h : ∀ w M d, toD M 40 w = some d → ∃ g, body (some w :: List.replicate (n - 1) none) M = some (.rt (.bl (p w)) (M ++ g))) : Keeps n body (pB p) := by
  refine KeepsP.keeps ?_
  intro ws M w M' hc hw e
  unfold pB at e
  split at e
  · rename_i x
    split at e
    · rename_i d hd
      cases e
      obtain ⟨g, hg⟩ := h x M d hd
      exact ⟨g, .inl hg, Nat.le_refl _, hc, rfl⟩
    · cases e
  · cases e
/-- compared with the empty tuple, the empty list -/
theorem eqW_nil {M : Mem} {ws : List W} {d : PyData} (h : toD M 40 (.tup ws) = some d) : eqW M (.tup ws) (.tup []) = some ws.isEmpty := by
  unfold eqW
  obtain ⟨ds, rfl, h2, _⟩ := toD_tup h
  rw [toD_le (k := 64) (by omega) h, toD_P M 64 (.tup []) (by decide)]
  show some (PyData.eqv (.tuple ds) (.tuple [])) = _
  rw [PyData.eqv]
  cases ds with
  | nil =>
    cases ws with
    | nil => rfl
    | cons _ _ => simp at h2
  | cons _ _ =>
    cases ws with
    | nil => simp at h2
    | cons _ _ => rfl
theorem mapO_of {α β : Type} {f : α → Option β} : ∀ {ws : List α}, (∀ w ∈ ws, ∃ d, f w = some d) → ∃ ds, mapO f ws = some ds ∧ ds.length = ws.length
  | [], _ => ⟨[], rfl, rfl⟩
  | w :: ws, h => by
    obtain ⟨d, hd⟩ := h w List.mem_cons_self
    obtain ⟨ds, h1, h2⟩ := mapO_of fun w' hw => h w' (List.mem_cons_of_mem _ hw)
    exact ⟨d :: ds, by rw [mapO, hd, h1], by simp [h2]⟩
theorem eqL_nil {M : Mem} {n m : Nat} {ws : List W} (h1 : M[n]? = some (.lst ws)) (h2 : M[m]? = some (.lst [])) (h : ∀ w ∈ ws, ∃ d, toD M 40 w = some d) : eqW M (.ref n) (.ref m) = some ws.isEmpty := by
  unfold eqW
  obtain ⟨ds, e1, e2⟩ := mapO_of (f := toD M 63) (ws := ws) fun w hw => by
    obtain ⟨d, hd⟩ := h w hw
    exact ⟨d, toD_le (by omega) hd⟩
  have q1 : toD M 64 (.ref n) = some (.list ds) := by
    rw [toD, h1]
    simp only [e1]; rfl
  have q2 : toD M 64 (.ref m) = some (.list []) := by
    rw [toD, h2]; rfl
  rw [q1, q2]
  show some (PyData.eqv (.list ds) (.list [])) = _
  rw [PyData.eqv]
  cases ds with
  | nil =>
    cases ws with
    | nil => rfl
    | cons _ _ => simp at e2
  | cons _ _ =>
    cases ws with
    | nil => simp at e2
    | cons _ _ => rfl
theorem filter_none {ws : List W} (p : W → Bool) : (ws.filter fun w => !p w).isEmpty = ws.all p := by
  rw [Bool.eq_iff_iff, List.isEmpty_iff, List.filter_eq_nil_iff, List.all_eq_true]
  simp
end BF

set_option Elab.async false
set_option linter.all false
set_option autoImplicit false
set_option maxRecDepth 10000
namespace BF
open PySem Enc
/-! is_page: of any value -/
abbrev letters : Str := "abcdefghijklmnopqrstuvwxyz"
def pageS (x : Str) : Bool := decide (1 ≤ x.length) && decide (x.length ≤ 8) && x.cps.toList.all fun c => decide (c ∈ letters.cps.toList)
def isPg : W → Bool
  | .str x => pageS x
  | _ => false
def F_is_page : Fn := pB isPg
abbrev N_is_page : List Str := ["value", "letter"]
def c_is_page : CS :=
  (sRet (eAnd (e1 (gIsi "str") (eV 0)) (eAnd (eChain gLe gLe (eL (.int 1)) (eN pLenS [(eV 0)]) (eL (.int 8))) (eN pAll [(eLc (iStr (eV 0)) (gV 1) tTrue (e2 gInS (eV 1) (eL (.str "abcdefghijklmnopqrstuvwxyz"))) [1])]))))
theorem page_text (x : Str) (M : Mem) : ∃ M2, c_is_page [some (.str x), none] M = some (.rt (.bl (pageS x)) M2) ∧ M <+: M2 := by
  unfold pageS
  have gs : ∀ M : Mem, gIsi "str" M (.str x) = some (.bl true, M) := fun M => rfl
  by_cases h1 : 1 ≤ x.length
  · by_cases h2 : x.length ≤ 8
    · have key := lcL_pure (gd := gdT) (g := gV 1) (e := e2 gInS (eV 1) (eL (.str letters))) (vs := [1]) (σ := [some (.str x), none]) (charsW x) (fun w => match w with
        | .str z => (match z.cps.toList with
          | [c] => .bl (decide (c ∈ letters.cps.toList))
          | _ => .non)
        | _ => .non) M [] (by unfold charsW; simp; have : x.length = x.cps.size := rfl; omega) (fun _ => rfl) (fun w hw l => by
          unfold charsW at hw
          obtain ⟨c, _, rfl⟩ := List.mem_map.mp hw
          exact ⟨_, rfl, by simp [wipe]⟩)
      have em : (charsW x).map (fun w => match w with
        | .str z => (match z.cps.toList with
          | [c] => .bl (decide (c ∈ letters.cps.toList))
          | _ => .non)
        | _ => .non) = (x.cps.toList.map fun c => decide (c ∈ letters.cps.toList)).map W.bl := by
        unfold charsW
        rw [List.map_map, List.map_map]
        rfl
      rw [em, List.nil_append] at key
      refine ⟨_, ?_, List.prefix_append M [.lst ((x.cps.toList.map fun c => decide (c ∈ letters.cps.toList)).map W.bl)]⟩
      have ab := asBls_map (x.cps.toList.map fun c => decide (c ∈ letters.cps.toList))
      have ea : (x.cps.toList.map fun c => decide (c ∈ letters.cps.toList)).all id = x.cps.toList.all fun c => decide (c ∈ letters.cps.toList) := by rw [List.all_map]; rfl
      rw [← ea]
      generalize (x.cps.toList.map fun c => decide (c ∈ letters.cps.toList)) = bs at *
      have h1' : (1 : Int) ≤ x.length := by omega
      have h2' : (x.length : Int) ≤ 8 := by omega
      have gf : ∀ M : Mem, (e1 (gIsi "str") (eV 0)) [some (.str x), none] M = some (.bl true, M) := fun M => rfl
      unfold letters at key
      simp [-e1_eq, c_is_page, gf, key, ab, h1, h2, h1', h2']
    · refine ⟨M, ?_, List.prefix_refl _⟩
      have h1' : (1 : Int) ≤ x.length := by omega
      have h2' : ¬ (x.length : Int) ≤ 8 := by omega
      have gf : ∀ M : Mem, (e1 (gIsi "str") (eV 0)) [some (.str x), none] M = some (.bl true, M) := fun M => rfl
      simp [-e1_eq, c_is_page, gf, h1, h2, h1', h2']
  · refine ⟨M, ?_, List.prefix_refl _⟩
    have h1' : ¬ (1 : Int) ≤ x.length := by omega
    have gf : ∀ M : Mem, (e1 (gIsi "str") (eV 0)) [some (.str x), none] M = some (.bl true, M) := fun M => rfl
    simp [-e1_eq, c_is_page, gf, h1, h1']
theorem keeps_is_page : Keeps 2 c_is_page F_is_page := by
  refine keepsB fun w M d h => ?_
  cases w with
  | str x =>
    obtain ⟨M2, h1, g, rfl⟩ := page_text x M
    exact ⟨g, h1⟩
  | _ =>
    refine ⟨[], ?_⟩
    have gs := isi_str h
    simp [c_is_page, gs, isS, isPg]
end BF

set_option Elab.async false
set_option linter.all false
set_option autoImplicit false
set_option maxRecDepth 10000
namespace BF
open PySem Enc
/-! is_index: of any value -/
def isIx (w : W) (n : Int) : Bool := match w with
  | .int i => decide (0 ≤ i) && decide (i < n)
  | _ => false
def F_is_index : Fn := fun ws M => match ws with
  | [w, .int n] => match toD M 40 w with
    | some _ => some (.bl (isIx w n), M)
    | none => none
  | _ => none
theorem index_ok {M : Mem} {w : W} {d : PyData} (n : Int) (h : toD M 40 w = some d) : F_is_index [w, .int n] M = some (.bl (isIx w n), M) := by
  unfold F_is_index
  simp only [h]
abbrev N_is_index : List Str := ["value", "count"]
def c_is_index : CS :=
  (sRet (eAnd (e1 (gIsi "int") (eV 0)) (eAnd (eNot (e1 (gIsi "bool") (eV 0))) (eChain gLe gLt (eL (.int 0)) (eV 0) (eV 1)))))
theorem keeps_is_index : Keeps 2 c_is_index F_is_index := by
  refine KeepsP.keeps ?_
  intro ws M w M' hc hw e
  unfold F_is_index at e
  split at e
  · rename_i x n
    split at e
    · rename_i d hd
      cases e
      refine ⟨[], .inl ?_, Nat.le_refl _, hc, rfl⟩
      have g1 := isi_of "int" hd
      have g2 := isi_of "bool" hd
      have t1 : isTy "int" "bool" = true := by decide
      have t2 : isTy "int" "int" = true := by decide
      have t3 : isTy "bool" "int" = false := by decide
      have t4 : isTy "bool" "bool" = true := by decide
      have t5 : isTy "int" "NoneType" = false := by decide
      have t6 : isTy "int" "str" = false := by decide
      have t7 : isTy "int" "tuple" = false := by decide
      have t8 : isTy "int" "list" = false := by decide
      cases x with
      | int i =>
        by_cases h0 : 0 ≤ i
        · simp [c_is_index, g1, g2, kindW, t2, t3, isIx, h0]
        · simp [c_is_index, g1, g2, kindW, t2, t3, isIx, h0]
      | _ => simp [c_is_index, g1, g2, kindW, t1, t2, t3, t4, t5, t6, t7, t8, isIx]
    · cases e
  · cases e
end BF

set_option Elab.async false
set_option linter.all false
set_option autoImplicit false
set_option maxRecDepth 10000
namespace BF
open PySem Enc
/-! tabs in memory -/
def tabO (h : Hist) : MO := .dT .tab [(.str "state", enc h)]
def tabAt (M : Mem) (w : W) : Option (Nat × Hist) := match w with
  | .ref n => match M[n]? with
    | some (.dT .tab [(k, s)]) => if k = .str "state" then (dec s : Option Hist).map fun h => (n, h) else none
    | _ => none
  | _ => none
theorem tabAt_some {M : Mem} {w : W} {n : Nat} {h : Hist} (e : tabAt M w = some (n, h)) : w = .ref n ∧ M[n]? = some (tabO h) := by
  unfold tabAt at e
  split at e
  · rename_i m
    split at e
    · rename_i k s hs
      split at e
      · rename_i hk
        obtain ⟨g, hg, e⟩ := Option.map_eq_some_iff.mp e
        cases e
        refine ⟨rfl, ?_⟩
        rw [hs, hk, enc_dec _ _ hg]; rfl
      · cases e
    · cases e
  · cases e
theorem tabAt_eq {M : Mem} {n : Nat} {h : Hist} (e : M[n]? = some (tabO h)) : tabAt M (.ref n) = some (n, h) := by
  unfold tabAt
  simp only [e, tabO, if_true, dec_enc, Option.map_some]
theorem fld_tab {M : Mem} {n : Nat} {h : Hist} (e : M[n]? = some (tabO h)) : gFld "state" M (.ref n) = some (enc h, M) := by
  rw [gFld_ref, e]
  simp [tabO]
theorem is_tab {M : Mem} {n : Nat} {h : Hist} (e : M[n]? = some (tabO h)) : isTab "state" M (.ref n) = true := by
  rw [isTab_ref, e]
  simp [tabO]
theorem is_tab0 {M : Mem} {n : Nat} (e : M[n]? = some (.dT .tab [])) : isTab "state" M (.ref n) = true := by
  rw [isTab_ref, e]
theorem put_tab {M : Mem} {n : Nat} {h : Hist} (e : M[n]? = some (tabO h)) (g : Hist) : putFld "state" M (.ref n) (enc g) = some (M.set n (tabO g)) := by
  rw [putFld_ref, is_tab e]; rfl
theorem put_tab0 {M : Mem} {n : Nat} (e : M[n]? = some (.dT .tab [])) (g : Hist) : putFld "state" M (.ref n) (enc g) = some (M.set n (tabO g)) := by
  rw [putFld_ref, is_tab0 e]; rfl
theorem tabO_closed (h : Hist) (k : Nat) : (tabO h).closed k = true := by
  unfold tabO MO.closed
  simp [W.closed, enc_closed]
theorem closed_set {M : Mem} {n : Nat} {h : Hist} (c : Closed M) : Closed (M.set n (tabO h)) := by
  intro mo hm
  rw [List.length_set]
  rcases List.mem_or_eq_of_mem_set hm with z | z
  · exact c mo z
  · rw [z]; exact tabO_closed h _
/-- the present page -/
def pgOf (h : Hist) : Str := h.ps.getD h.at_ ""
theorem pgOf_get {h : Hist} (v : h.at_ < h.ps.length) : h.ps[h.at_]? = some (pgOf h) := by
  unfold pgOf
  rw [List.getD_eq_getElem?_getD, List.getElem?_eq_getElem v]; rfl
/-- a promise about one's own state -/
def fnS (f : Hist → Option W) : Fn := fun ws M => match ws with
  | [x] => match tabAt M x with
    | some (_, h) => (f h).map fun w => (w, M)
    | none => none
  | _ => none
theorem fnS_eq {f : Hist → Option W} {M : Mem} {n : Nat} {h : Hist} {w : W} (e : M[n]? = some (tabO h)) (hf : f h = some w) : fnS f [.ref n] M = some (w, M) := by
  unfold fnS
  simp only [tabAt_eq e, hf, Option.map_some]
theorem keepsS {f : Hist → Option W} {n : Nat} {body : CS} (hc : ∀ h w k, f h = some w → w.closed k = true) (hb : ∀ M i h w, M[i]? = some (tabO h) → f h = some w → body (some (.ref i) :: List.replicate (n - 1) none) M = some (.rt w M)) : Keeps n body (fnS f) := by
  refine KeepsP.keeps ?_
  intro ws M w M' c hw e
  unfold fnS at e
  split at e
  · rename_i x
    split at e
    · rename_i i h hx
      obtain ⟨rfl, h1⟩ := tabAt_some hx
      obtain ⟨u, hu, e⟩ := Option.map_eq_some_iff.mp e
      cases e
      exact ⟨[], .inl (by rw [List.append_nil]; exact hb M i h w h1 hu), Nat.le_refl _, c, hc h w _ hu⟩
    · cases e
  · cases e
end BF

set_option Elab.async false
set_option linter.all false
set_option autoImplicit false
set_option maxRecDepth 10000
namespace BF
open PySem Enc
/-! Tab.page -/
def F_T_page : Fn := fnS fun h => if h.at_ < h.ps.length then some (.str (pgOf h)) else none
abbrev N_T_page : List Str := ["self"]
def c_T_page : CS :=
  (sRet (e2 gIx (e2 gIx (e1 (gFld "state") (eV 0)) (eL (.int 0))) (e2 gIx (e1 (gFld "state") (eV 0)) (eL (.int 1)))))
theorem page_eq {M : Mem} {n : Nat} {h : Hist} (e : M[n]? = some (tabO h)) (v : h.at_ < h.ps.length) : F_T_page [.ref n] M = some (.str (pgOf h), M) := fnS_eq e (if_pos v)
theorem keeps_T_page : Keeps 1 c_T_page F_T_page := by
  refine keepsS (fun h w k e => ?_) fun M i h w e f => ?_
  · split at e
    · cases e; rfl
    · cases e
  · split at f
    · rename_i v
      cases f
      have g := fld_tab e
      simp [-gFld_ref, c_T_page, g, enc_hist, ixW_nat v, pgOf_get v]
    · cases f
end BF

set_option Elab.async false
set_option linter.all false
set_option autoImplicit false
set_option maxRecDepth 10000
namespace BF
open PySem Enc
/-! after -/
def afterF (h : Hist) (a : Act) : Option Hist := if valid h ∧ plain a = true then some (stepH h a) else none
def F_after : Fn := fn2 afterF
abbrev N_after : List Str := ["history", "action", "pages", "place"]
def c_after : CS :=
  (sSeq (sSet (gT [(gV 2), (gV 3)]) (eV 0))
  (sSeq (sIf (tB (e2 gEq (e2 gIx (eV 1) (eL (.int 0))) (eL (.str "visit")))) (sRet (eTup [(e2 gAdd (eSl (eV 2) none (some (e2 gAdd (eV 3) (eL (.int 1))))) (eTup [(e2 gIx (eV 1) (eL (.int 1)))])), (e2 gAdd (eV 3) (eL (.int 1)))])) sNil)
  (sSeq (sIf (tB (e2 gEq (e2 gIx (eV 1) (eL (.int 0))) (eL (.str "back")))) (sRet (eTup [(eV 2), (eN pMax [(eL (.int 0)), (e2 gSub (eV 3) (eL (.int 1)))])])) sNil)
  (sRet (eTup [(eV 2), (eN pMin [(e2 gSub (eN pLen [(eV 2)]) (eL (.int 1))), (e2 gAdd (eV 3) (eL (.int 1)))])])))))
theorem after_ok {h : Hist} {a : Act} (M : Mem) (hv : valid h) (ha : plain a = true) : F_after [enc h, enc a] M = some (enc (stepH h a), M) := by
  have := fn2_eq afterF h a M
  unfold afterF at this
  rw [if_pos ⟨hv, ha⟩] at this
  exact this
theorem keeps_after : Keeps 4 c_after F_after := by
  refine keeps2 fun h a c M e => ⟨[], ?_⟩
  unfold afterF at e
  split at e
  · rename_i hv
    cases e
    obtain ⟨⟨h1, h2⟩, h3⟩ := hv
    rw [List.append_nil]
    have k1 : h.ps.length ≤ 16777215 := by omega
    cases a with
    | visit p =>
      have k2 : (h.ps.take (h.at_ + 1)).length + 1 ≤ 16777216 := by simp; omega
      simp [c_after, enc_hist, stepH, cutW_map, List.length_take] at k2 ⊢
      rw [if_pos k2]
      simp
    | back =>
      simp [c_after, enc_hist, stepH]
      split <;> omega
    | forward =>
      simp [c_after, enc_hist, stepH]
      split <;> omega
    | go i => cases h3
  · cases e
end BF

set_option Elab.async false
set_option linter.all false
set_option autoImplicit false
set_option maxRecDepth 10000
namespace BF
open PySem Enc
/-! Tab.back -/
def F_T_back : FnX := fun ws M => match ws with
  | [x] => match tabAt M x with
    | some (n, h) => if valid h then if h.at_ = 0 then some (.er "NoBack" M) else some (.ok (.str (pgOf (stepH h .back))) (M.set n (tabO (stepH h .back)))) else none
    | none => none
  | _ => none
def t_T_back : CT :=
  (tB (e2 gEq (e2 gIx (e1 (gFld "state") (eV 0)) (eL (.int 1))) (eL (.int 0))))
abbrev N_T_back : List Str := ["self"]
def c_T_back : CS :=
  (sSeq (sFldW "state" (eV 0) (eN F_after [(e1 (gFld "state") (eV 0)), (eTup [(eL (.str "back"))])]))
  (sRet (eMT "state" F_T_page (eV 0) [])))
theorem back_ok {M : Mem} {n : Nat} {h : Hist} (e : M[n]? = some (tabO h)) (v : valid h) (h0 : h.at_ ≠ 0) : F_T_back [.ref n] M = some (.ok (.str (pgOf (stepH h .back))) (M.set n (tabO (stepH h .back)))) := by
  unfold F_T_back
  simp only [tabAt_eq e, if_pos v, if_neg h0]
theorem back_er {M : Mem} {n : Nat} {h : Hist} (e : M[n]? = some (tabO h)) (v : valid h) (h0 : h.at_ = 0) : F_T_back [.ref n] M = some (.er "NoBack" M) := by
  unfold F_T_back
  simp only [tabAt_eq e, if_pos v, if_pos h0]
/-- the state is set, the page told -/
theorem set_page {M : Mem} {n : Nat} {h : Hist} (g : Hist) (e : M[n]? = some (tabO h)) (v : g.at_ < g.ps.length) : isTab "state" (M.set n (tabO g)) (.ref n) = true ∧ F_T_page [.ref n] (M.set n (tabO g)) = some (.str (pgOf g), M.set n (tabO g)) := by
  have hi : n < M.length := (List.getElem?_eq_some_iff.mp e).1
  have h1 : (M.set n (tabO g))[n]? = some (tabO g) := List.getElem?_set_self hi
  exact ⟨is_tab h1, page_eq h1 v⟩
theorem keeps_T_back : KeepsX 1 t_T_back "NoBack" c_T_back F_T_back := by
  intro ws M r hc hw e
  unfold F_T_back at e
  split at e
  · rename_i x
    split at e
    · rename_i n h hx
      obtain ⟨rfl, h1⟩ := tabAt_some hx
      have g := fld_tab h1
      split at e
      · rename_i v
        split at e
        · rename_i h0
          cases e
          refine ⟨rfl, rfl, ?_⟩
          simp [-gFld_ref, t_T_back, g, enc_hist, h0]
        · rename_i h0
          cases e
          have a := after_ok (h := h) (a := .back) M v rfl
          have p := put_tab h1 (stepH h .back)
          obtain ⟨q1, q2⟩ := set_page (stepH h .back) h1 (by have := v.1; show h.at_ - 1 < h.ps.length; omega)
          refine ⟨?_, .inl ?_⟩
          · have hz : ¬ ((h.at_ : Int) = 0) := by omega
            simp [-gFld_ref, t_T_back, g, enc_hist, h0]
          · have ea : (enc Act.back : W) = .tup [.str "back"] := rfl
            rw [ea] at a
            simp [-gFld_ref, -putFld_ref, -isTab_ref, c_T_back, g, a, p, q1, q2]
      · cases e
    · cases e
  · cases e
end BF

set_option Elab.async false
set_option linter.all false
set_option autoImplicit false
set_option maxRecDepth 10000
namespace BF
open PySem Enc
/-! Tab.visit -/
def F_T_visit : FnX := fun ws M => match ws with
  | [x, w] => match tabAt M x with
    | some (n, h) => if valid h then match toD M 40 w with
      | some _ => match w with
        | .str z => if pageS z = true then some (.ok (.int ((h.ps.length : Int) - 1 - h.at_)) (M.set n (tabO (stepH h (.visit z))))) else some (.er "InvalidPage" M)
        | _ => some (.er "InvalidPage" M)
      | none => none
      else none
    | none => none
  | _ => none
def t_T_visit : CT :=
  (tNot (tB (eN F_is_page [(eV 1)])))
abbrev N_T_visit : List Str := ["self", "page", "pages", "place"]
def c_T_visit : CS :=
  (sSeq (sSet (gT [(gV 2), (gV 3)]) (e1 (gFld "state") (eV 0)))
  (sSeq (sFldW "state" (eV 0) (eN F_after [(e1 (gFld "state") (eV 0)), (eTup [(eL (.str "visit")), (eV 1)])]))
  (sRet (e2 gSub (e2 gSub (eN pLen [(eV 2)]) (eL (.int 1))) (eV 3)))))
theorem visit_ok {M : Mem} {n : Nat} {h : Hist} {z : Str} (e : M[n]? = some (tabO h)) (v : valid h) (hz : pageS z = true) : F_T_visit [.ref n, .str z] M = some (.ok (.int ((h.ps.length : Int) - 1 - h.at_)) (M.set n (tabO (stepH h (.visit z))))) := by
  unfold F_T_visit
  simp only [tabAt_eq e, if_pos v, toD, if_pos hz]
theorem visit_er {M : Mem} {n : Nat} {h : Hist} {w : W} {d : PyData} (e : M[n]? = some (tabO h)) (v : valid h) (hd : toD M 40 w = some d) (hz : isPg w = false) : F_T_visit [.ref n, w] M = some (.er "InvalidPage" M) := by
  unfold F_T_visit
  simp only [tabAt_eq e, if_pos v, hd]
  cases w with
  | str x =>
    have : pageS x = false := hz
    simp [this]
  | _ => rfl
theorem keeps_T_visit : KeepsX 4 t_T_visit "InvalidPage" c_T_visit F_T_visit := by
  intro ws M r hc hw e
  unfold F_T_visit at e
  split at e
  · rename_i x w
    split at e
    · rename_i n h hx
      obtain ⟨rfl, h1⟩ := tabAt_some hx
      have g := fld_tab h1
      split at e
      · rename_i v
        split at e
        · rename_i d hd
          have ip : F_is_page [w] M = some (.bl (isPg w), M) := pB_eq hd
          split at e
          · rename_i z
            split at e
            · rename_i hz
              cases e
              have hz' : isPg (.str z) = true := hz
              have a := after_ok (h := h) (a := .visit z) M v rfl
              have ea : (enc (Act.visit z) : W) = .tup [.str "visit", .str z] := rfl
              rw [ea] at a
              have p := put_tab h1 (stepH h (.visit z))
              have g1 : gFld "state" M (.ref n) = some (.tup [.tup (h.ps.map W.str), .int h.at_], M) := g
              rw [enc_hist] at a
              refine ⟨by simp [t_T_visit, ip, hz'], .inl ?_⟩
              simp [-gFld_ref, -putFld_ref, -isTab_ref, c_T_visit, g1, a, p]
            · rename_i hz
              cases e
              have hz' : isPg (.str z) = false := by simpa [isPg] using hz
              exact ⟨rfl, rfl, by simp [t_T_visit, ip, hz']⟩
          · rename_i hne
            cases e
            have hz' : isPg w = false := by
              cases w <;> first | rfl | exact absurd rfl (hne _)
            exact ⟨rfl, rfl, by simp [t_T_visit, ip, hz']⟩
        · cases e
      · cases e
    · cases e
  · cases e
end BF

set_option Elab.async false
set_option linter.all false
set_option autoImplicit false
set_option maxRecDepth 10000
namespace BF
open PySem Enc
/-! Tab.forward -/
def F_T_forward : FnX := fun ws M => match ws with
  | [x] => match tabAt M x with
    | some (n, h) => if valid h then if h.at_ + 1 = h.ps.length then some (.er "NoForward" M) else some (.ok (.str (pgOf (stepH h .forward))) (M.set n (tabO (stepH h .forward)))) else none
    | none => none
  | _ => none
def t_T_forward : CT :=
  (tB (e2 gEq (e2 gIx (e1 (gFld "state") (eV 0)) (eL (.int 1))) (e2 gSub (eN pLen [(e2 gIx (e1 (gFld "state") (eV 0)) (eL (.int 0)))]) (eL (.int 1)))))
abbrev N_T_forward : List Str := ["self"]
def c_T_forward : CS :=
  (sSeq (sFldW "state" (eV 0) (eN F_after [(e1 (gFld "state") (eV 0)), (eTup [(eL (.str "forward"))])]))
  (sRet (eMT "state" F_T_page (eV 0) [])))
theorem forward_ok {M : Mem} {n : Nat} {h : Hist} (e : M[n]? = some (tabO h)) (v : valid h) (h0 : h.at_ + 1 ≠ h.ps.length) : F_T_forward [.ref n] M = some (.ok (.str (pgOf (stepH h .forward))) (M.set n (tabO (stepH h .forward)))) := by
  unfold F_T_forward
  simp only [tabAt_eq e, if_pos v, if_neg h0]
theorem forward_er {M : Mem} {n : Nat} {h : Hist} (e : M[n]? = some (tabO h)) (v : valid h) (h0 : h.at_ + 1 = h.ps.length) : F_T_forward [.ref n] M = some (.er "NoForward" M) := by
  unfold F_T_forward
  simp only [tabAt_eq e, if_pos v, if_pos h0]
theorem keeps_T_forward : KeepsX 1 t_T_forward "NoForward" c_T_forward F_T_forward := by
  intro ws M r hc hw e
  unfold F_T_forward at e
  split at e
  · rename_i x
    split at e
    · rename_i n h hx
      obtain ⟨rfl, h1⟩ := tabAt_some hx
      have g := fld_tab h1
      split at e
      · rename_i v
        split at e
        · rename_i h0
          cases e
          refine ⟨rfl, rfl, ?_⟩
          simp [-gFld_ref, t_T_forward, g, enc_hist]
          omega
        · rename_i h0
          cases e
          have a := after_ok (h := h) (a := .forward) M v rfl
          have p := put_tab h1 (stepH h .forward)
          obtain ⟨q1, q2⟩ := set_page (stepH h .forward) h1 (by have := v.1; show min (h.ps.length - 1) (h.at_ + 1) < h.ps.length; omega)
          refine ⟨?_, .inl ?_⟩
          · simp [-gFld_ref, t_T_forward, g, enc_hist]
            have := v.1
            omega
          · have ea : (enc Act.forward : W) = .tup [.str "forward"] := rfl
            rw [ea] at a
            simp [-gFld_ref, -putFld_ref, -isTab_ref, c_T_forward, g, a, p, q1, q2]
      · cases e
    · cases e
  · cases e
end BF

set_option Elab.async false
set_option linter.all false
set_option autoImplicit false
set_option maxRecDepth 10000
namespace BF
open PySem Enc
/-! Tab.go -/
def F_T_go : FnX := fun ws M => match ws with
  | [x, w] => match tabAt M x with
    | some (n, h) => match toD M 40 w with
      | some _ => match w with
        | .int i => if 0 ≤ i ∧ i < h.ps.length then some (.ok (.str (pgOf ⟨h.ps, i.toNat⟩)) (M.set n (tabO ⟨h.ps, i.toNat⟩))) else some (.er "NoSuchEntry" M)
        | _ => some (.er "NoSuchEntry" M)
      | none => none
    | none => none
  | _ => none
def t_T_go : CT :=
  (tNot (tB (eN F_is_index [(eV 1), (eN pLen [(e2 gIx (e1 (gFld "state") (eV 0)) (eL (.int 0)))])])))
abbrev N_T_go : List Str := ["self", "place"]
def c_T_go : CS :=
  (sSeq (sFldW "state" (eV 0) (eTup [(e2 gIx (e1 (gFld "state") (eV 0)) (eL (.int 0))), (eV 1)]))
  (sRet (eMT "state" F_T_page (eV 0) [])))
theorem go_ok {M : Mem} {n i : Nat} {h : Hist} (e : M[n]? = some (tabO h)) (h0 : i < h.ps.length) : F_T_go [.ref n, .int i] M = some (.ok (.str (pgOf ⟨h.ps, i⟩)) (M.set n (tabO ⟨h.ps, i⟩))) := by
  unfold F_T_go
  simp only [tabAt_eq e, toD]
  rw [if_pos ⟨by omega, by omega⟩, Int.toNat_natCast]
theorem go_er {M : Mem} {n : Nat} {h : Hist} {w : W} {d : PyData} (e : M[n]? = some (tabO h)) (hd : toD M 40 w = some d) (h0 : isIx w h.ps.length = false) : F_T_go [.ref n, w] M = some (.er "NoSuchEntry" M) := by
  unfold F_T_go
  simp only [tabAt_eq e, hd]
  cases w with
  | int i =>
    simp only
    rw [if_neg]
    intro z
    simp [isIx] at h0
    omega
  | _ => rfl
theorem keeps_T_go : KeepsX 2 t_T_go "NoSuchEntry" c_T_go F_T_go := by
  intro ws M r hc hw e
  unfold F_T_go at e
  split at e
  · rename_i x w
    split at e
    · rename_i n h hx
      obtain ⟨rfl, h1⟩ := tabAt_some hx
      have g := fld_tab h1
      split at e
      · rename_i d hd
        have ix := index_ok (h.ps.length : Int) hd
        split at e
        · rename_i i
          split at e
          · rename_i hi
            cases e
            have p := put_tab h1 ⟨h.ps, i.toNat⟩
            obtain ⟨q1, q2⟩ := set_page ⟨h.ps, i.toNat⟩ h1 (by show i.toNat < h.ps.length; omega)
            have e1 : (enc (⟨h.ps, i.toNat⟩ : Hist) : W) = .tup [.tup (h.ps.map W.str), .int i] := by
              rw [enc_hist]
              simp only [Int.toNat_of_nonneg hi.1]
            rw [e1] at p
            have hx : isIx (.int i) h.ps.length = true := by simp [isIx, hi.1, hi.2]
            rw [hx] at ix
            refine ⟨?_, .inl ?_⟩
            · simp [-gFld_ref, t_T_go, g, enc_hist, ix]
            · simp [-gFld_ref, -putFld_ref, -isTab_ref, c_T_go, g, enc_hist, p, q1, q2]
          · rename_i hi
            cases e
            have hx : isIx (.int i) h.ps.length = false := by simp [isIx]; omega
            rw [hx] at ix
            exact ⟨rfl, rfl, by simp [-gFld_ref, t_T_go, g, enc_hist, ix]⟩
        · rename_i hne
          cases e
          have hx : isIx w h.ps.length = false := by
            cases w <;> first | rfl | exact absurd rfl (hne _)
          rw [hx] at ix
          exact ⟨rfl, rfl, by simp [-gFld_ref, t_T_go, g, enc_hist, ix]⟩
      · cases e
    · cases e
  · cases e
end BF

set_option Elab.async false
set_option linter.all false
set_option autoImplicit false
set_option maxRecDepth 10000
namespace BF
open PySem Enc
/-! what a call may leave -/
def ResOk (M : Mem) : Res → Prop
  | .ok w M' => (∀ k, w.closed k = true) ∧ ∃ n g, M' = M.set n (tabO g)
  | .er _ M' => M' = M
theorem visit_res {ws : List W} {M : Mem} {r : Res} (e : F_T_visit ws M = some r) : ResOk M r := by
  unfold F_T_visit at e
  repeat' split at e
  all_goals first | (cases e; exact ⟨fun _ => rfl, _, _, rfl⟩) | (cases e; rfl) | cases e
theorem back_res {ws : List W} {M : Mem} {r : Res} (e : F_T_back ws M = some r) : ResOk M r := by
  unfold F_T_back at e
  repeat' split at e
  all_goals first | (cases e; exact ⟨fun _ => rfl, _, _, rfl⟩) | (cases e; rfl) | cases e
theorem forward_res {ws : List W} {M : Mem} {r : Res} (e : F_T_forward ws M = some r) : ResOk M r := by
  unfold F_T_forward at e
  repeat' split at e
  all_goals first | (cases e; exact ⟨fun _ => rfl, _, _, rfl⟩) | (cases e; rfl) | cases e
theorem go_res {ws : List W} {M : Mem} {r : Res} (e : F_T_go ws M = some r) : ResOk M r := by
  unfold F_T_go at e
  repeat' split at e
  all_goals first | (cases e; exact ⟨fun _ => rfl, _, _, rfl⟩) | (cases e; rfl) | cases e
end BF

set_option Elab.async false
set_option linter.all false
set_option autoImplicit false
set_option maxRecDepth 10000
namespace BF
open PySem Enc
/-! _law_word: the word of an error -/
abbrev N__law_word : List Str := ["e", "some", "word", "good"]
def c__law_word (b1 b2 b3 b4 : Bool) : CS :=
  (sSeq (sSet (gV 1) (eLst [(eTup [(eL (.str "page")), (eL (.bl b1))]), (eTup [(eL (.str "back")), (eL (.bl b2))])]))
  (sSeq (sSet (gV 1) (e2 gAdd (eV 1) (eLst [(eTup [(eL (.str "forward")), (eL (.bl b3))]), (eTup [(eL (.str "entry")), (eL (.bl b4))])])))
  (sRet (e1 gJoin (eLc (iLst (eV 1)) (gT [gV 2, gV 3]) (tB (eV 3)) (eV 2) [2, 3])))))
theorem ev_word {b1 b2 b3 b4 : Bool} {u : Str} (h : IsW b1 b2 b3 b4 u) (M : Mem) : ∃ g, c__law_word b1 b2 b3 b4 (List.replicate 4 none) M = some (.rt (.str u) (M ++ g)) := by
  have j1 : Txt.join ("" : Str) ["page"] = "page" := by decide +kernel
  have j2 : Txt.join ("" : Str) ["back"] = "back" := by decide +kernel
  have j3 : Txt.join ("" : Str) ["forward"] = "forward" := by decide +kernel
  have j4 : Txt.join ("" : Str) ["entry"] = "entry" := by decide +kernel
  have j5 : ("page" : Str).length ≤ 1000 ∧ PyData.strOk ("page" : Str) = true ∧ ("page" : Str).length ≤ 16777216 := by decide +kernel
  have j6 : ("back" : Str).length ≤ 1000 ∧ PyData.strOk ("back" : Str) = true ∧ ("back" : Str).length ≤ 16777216 := by decide +kernel
  have j7 : ("forward" : Str).length ≤ 1000 ∧ PyData.strOk ("forward" : Str) = true ∧ ("forward" : Str).length ≤ 16777216 := by decide +kernel
  have j8 : ("entry" : Str).length ≤ 1000 ∧ PyData.strOk ("entry" : Str) = true ∧ ("entry" : Str).length ≤ 16777216 := by decide +kernel
  have key := fun (ws : List W) (hw : ws = [.tup [.str "page", .bl b1], .tup [.str "back", .bl b2], .tup [.str "forward", .bl b3], .tup [.str "entry", .bl b4]]) (M3 : Mem) (k : Nat) (hk : M3[k]? = some (.lst ws)) =>
    lcL_filter (gd := fun M' => decide (M'[k]? = some (.lst ws))) (g := gT [gV 2, gV 3]) (t := tB (eV 3)) (e := eV 2) (vs := [2, 3]) (σ := [none, some (.ref k), none, none]) ws (fun w => match w with
      | .tup [x, _] => x
      | _ => .non) (fun w => match w with
      | .tup [_, .bl b] => b
      | _ => false) M3 [] (by subst hw; simp) (fun l => by
        have hl : k < M3.length := (List.getElem?_eq_some_iff.mp hk).1
        rw [List.getElem?_append_left hl, hk]; simp) (fun w hm l => by
        subst hw
        simp only [List.mem_cons, List.not_mem_nil, or_false] at hm
        rcases hm with rfl | rfl | rfl | rfl <;> exact ⟨_, rfl, rfl, fun _ => rfl⟩)
  have k3 := key _ rfl (M ++ [.lst [.tup [.str "page", .bl b1], .tup [.str "back", .bl b2]], .lst [.tup [.str "forward", .bl b3], .tup [.str "entry", .bl b4]], .lst [.tup [.str "page", .bl b1], .tup [.str "back", .bl b2], .tup [.str "forward", .bl b3], .tup [.str "entry", .bl b4]]]) (M.length + 2) (by simp)
  refine ⟨[.lst [.tup [.str "page", .bl b1], .tup [.str "back", .bl b2]], .lst [.tup [.str "forward", .bl b3], .tup [.str "entry", .bl b4]], .lst [.tup [.str "page", .bl b1], .tup [.str "back", .bl b2], .tup [.str "forward", .bl b3], .tup [.str "entry", .bl b4]], .lst [.str u]], ?_⟩
  cases h <;> simp at k3 <;> simp [c__law_word, k3, gJoin, asTexts, j1, j2, j3, j4, if_pos j5, if_pos j6, if_pos j7, if_pos j8]
end BF

set_option Elab.async false
set_option linter.all false
set_option autoImplicit false
set_option maxRecDepth 10000
namespace BF
open PySem Enc
/-! _law_call -/
def callR (n : Nat) (way : Int) (w : W) (M : Mem) : Option Res := if way = 0 then F_T_visit [.ref n, w] M else if way = 1 then F_T_back [.ref n] M else if way = 2 then F_T_forward [.ref n] M else F_T_go [.ref n, w] M
theorem call_res {n : Nat} {way : Int} {w : W} {M : Mem} {r : Res} (e : callR n way w M = some r) : ResOk M r := by
  unfold callR at e
  split at e
  · exact visit_res e
  split at e
  · exact back_res e
  split at e
  · exact forward_res e
  · exact go_res e
def F__law_call : Fn := fun ws M => match ws with
  | [.ref n, .int way, w] => if isTab "state" M (.ref n) = true then match callR n way w M with
      | some (.ok u M') => some (u, M')
      | some (.er c M') => (hdTup c).map fun u => (u, M')
      | none => none
    else none
  | _ => none
abbrev N__law_call : List Str := ["tab", "way", "item", "e"]
def c__law_call : CS :=
  (sTry (xSeq (xIf (tB (e2 gEq (eV 1) (eL (.int 0)))) (xRet (xMT "state" F_T_visit (eV 0) [(eV 2)])) xNil)
  (xSeq (xIf (tB (e2 gEq (eV 1) (eL (.int 1)))) (xRet (xMT "state" F_T_back (eV 0) [])) xNil)
  (xRet (xEIf (tB (e2 gEq (eV 1) (eL (.int 2)))) (xMT "state" F_T_forward (eV 0) []) (xMT "state" F_T_go (eV 0) [(eV 2)]))))) hdTup)
theorem xmt1 {F : FnX} {σ : Sl} {M : Mem} {n : Nat} {w : W} {o a : CE} (ho : o σ M = some (.ref n, M)) (ha : a σ M = some (w, M)) (h : isTab "state" M (.ref n) = true) : xMT "state" F o [a] σ M = F [.ref n, w] M := by
  unfold xMT
  simp only [ho, Option.bind_some, h, if_true, eArgs_cons, eArgs_nil, ha]
theorem xmt0 {F : FnX} {σ : Sl} {M : Mem} {n : Nat} {o : CE} (ho : o σ M = some (.ref n, M)) (h : isTab "state" M (.ref n) = true) : xMT "state" F o [] σ M = F [.ref n] M := by
  unfold xMT
  simp only [ho, Option.bind_some, h, if_true, eArgs_nil]
def retX : Res → OutX
  | .ok u M' => .ok (.rt u M')
  | .er c M' => .er c M'
def endX : Res → Option Out
  | .ok u M' => some (.rt u M')
  | .er c M' => (hdTup c).map fun u => .rt u M'
/-- the try's body is that call -/
theorem call_body {n : Nat} {way : Int} {w : W} {M : Mem} {r : Res} {s3 : Option W} (ht : isTab "state" M (.ref n) = true) (e : callR n way w M = some r) :
    c__law_call [some (.ref n), some (.int way), some w, s3] M = endX r := by
  have a0 : (eV 0) [some (.ref n), some (.int way), some w, s3] M = some (.ref n, M) := rfl
  have a2 : (eV 2) [some (.ref n), some (.int way), some w, s3] M = some (w, M) := rfl
  have b : ∀ k : Int, (tB (e2 gEq (eV 1) (eL (.int k)))) [some (.ref n), some (.int way), some w, s3] M = some (decide (way = k), M) := fun k => by simp
  have fin : ∀ X : CEX, X [some (.ref n), some (.int way), some w, s3] M = some r → xRet X [some (.ref n), some (.int way), some w, s3] M = some (retX r) := fun X hX => by
    unfold xRet
    rw [hX]
    cases r <;> rfl
  unfold callR at e
  unfold c__law_call sTry
  by_cases h0 : way = 0
  · rw [if_pos h0] at e
    have f := fin _ ((xmt1 (F := F_T_visit) a0 a2 ht).trans e)
    have : (xIf (tB (e2 gEq (eV 1) (eL (.int 0)))) (xRet (xMT "state" F_T_visit (eV 0) [(eV 2)])) xNil) [some (.ref n), some (.int way), some w, s3] M = some (retX r) := by
      unfold xIf
      rw [b 0, Option.bind_some, decide_eq_true h0]
      simp only [if_true]
      exact f
    unfold xSeq
    rw [this]
    cases r <;> rfl
  · rw [if_neg h0] at e
    have g0 : (xIf (tB (e2 gEq (eV 1) (eL (.int 0)))) (xRet (xMT "state" F_T_visit (eV 0) [(eV 2)])) xNil) [some (.ref n), some (.int way), some w, s3] M = some (.ok (.nx [some (.ref n), some (.int way), some w, s3] M)) := by
      unfold xIf
      rw [b 0, Option.bind_some, decide_eq_false h0]
      simp only [Bool.false_eq_true, if_false]
      rfl
    by_cases h1 : way = 1
    · rw [if_pos h1] at e
      have f := fin _ ((xmt0 (F := F_T_back) a0 ht).trans e)
      have : (xIf (tB (e2 gEq (eV 1) (eL (.int 1)))) (xRet (xMT "state" F_T_back (eV 0) [])) xNil) [some (.ref n), some (.int way), some w, s3] M = some (retX r) := by
        unfold xIf
        rw [b 1, Option.bind_some, decide_eq_true h1]
        simp only [if_true]
        exact f
      unfold xSeq
      rw [g0]
      simp only []
      rw [this]
      cases r <;> rfl
    · rw [if_neg h1] at e
      have g1 : (xIf (tB (e2 gEq (eV 1) (eL (.int 1)))) (xRet (xMT "state" F_T_back (eV 0) [])) xNil) [some (.ref n), some (.int way), some w, s3] M = some (.ok (.nx [some (.ref n), some (.int way), some w, s3] M)) := by
        unfold xIf
        rw [b 1, Option.bind_some, decide_eq_false h1]
        simp only [Bool.false_eq_true, if_false]
        rfl
      have f : (xRet (xEIf (tB (e2 gEq (eV 1) (eL (.int 2)))) (xMT "state" F_T_forward (eV 0) []) (xMT "state" F_T_go (eV 0) [(eV 2)]))) [some (.ref n), some (.int way), some w, s3] M = some (retX r) := by
        refine fin _ ?_
        unfold xEIf
        rw [b 2, Option.bind_some]
        by_cases h2 : way = 2
        · rw [if_pos h2] at e
          rw [decide_eq_true h2]
          simp only [if_true]
          exact (xmt0 (F := F_T_forward) a0 ht).trans e
        · rw [if_neg h2] at e
          rw [decide_eq_false h2]
          simp only [Bool.false_eq_true, if_false]
          exact (xmt1 (F := F_T_go) a0 a2 ht).trans e
      unfold xSeq
      rw [g0]
      simp only []
      rw [g1]
      simp only []
      rw [f]
      cases r <;> rfl
theorem keeps__law_call : Keeps 4 c__law_call F__law_call := by
  refine KeepsP.keeps ?_
  intro ws M u M' hc hw e
  unfold F__law_call at e
  split at e
  · rename_i n way w
    split at e
    · rename_i ht
      split at e
      · rename_i u' M1 h1
        cases e
        obtain ⟨c1, m, g, rfl⟩ := call_res h1
        refine ⟨[], .inl ?_, by simp, closed_set hc, c1 _⟩
        rw [List.append_nil]
        exact call_body ht h1
      · rename_i c M1 h1
        have := call_res h1
        have : M1 = M := this
        subst this
        obtain ⟨u', hu, e⟩ := Option.map_eq_some_iff.mp e
        cases e
        obtain ⟨z, _, rfl⟩ := hdTup_inv hu
        refine ⟨[], .inl ?_, Nat.le_refl _, hc, rfl⟩
        rw [List.append_nil]
        refine (call_body ht h1).trans ?_
        simp only [endX, hu, Option.map_some]
      · cases e
    · cases e
  · cases e
end BF

set_option Elab.async false
set_option linter.all false
set_option autoImplicit false
set_option maxRecDepth 10000
namespace BF
open PySem Enc
/-! _law_step -/
def lstepF (h : Hist) (a : Act) : Option Hist := if valid h ∧ plain a = true then some (stepH h a) else none
def F__law_step : Fn := fn2 lstepF
abbrev N__law_step : List Str := ["history", "action", "pages", "place", "behind", "ahead", "page"]
def c__law_step : CS :=
  (sSeq (sSet (gT [(gV 2), (gV 3)]) (eV 0))
  (sSeq (sPar [4, 5] [(eN pList [(eSl (eV 2) none (some (eV 3)))]), (eN pList [(eSl (eV 2) (some (e2 gAdd (eV 3) (eL (.int 1)))) none)])])
  (sSeq (sSet (gV 6) (e2 gIx (eV 2) (eV 3)))
  (sSeq (sIf (tB (e2 gEq (e2 gIx (eV 1) (eL (.int 0))) (eL (.str "visit")))) (sPar [4, 6, 5] [(e2 gAdd (eV 4) (eLst [(eV 6)])), (e2 gIx (eV 1) (eL (.int 1))), (eLst [])]) (sIf (tAnd (tB (e2 gEq (e2 gIx (eV 1) (eL (.int 0))) (eL (.str "back")))) (tB (e2 gNe (eV 4) (eLst [])))) (sSeq (sSet (gV 5) (e2 gAdd (eLst [(eV 6)]) (eV 5)))
  (sSet (gV 6) (eML mPop (eV 4) []))) (sIf (tAnd (tB (e2 gEq (e2 gIx (eV 1) (eL (.int 0))) (eL (.str "forward")))) (tB (e2 gNe (eV 5) (eLst [])))) (sSeq (sSet (gV 4) (e2 gAdd (eV 4) (eLst [(eV 6)])))
  (sSet (gV 6) (eML mPopAt (eV 5) [(eL (.int 0))]))) sNil)))
  (sRet (eTup [(eN pTuple [(e2 gAdd (e2 gAdd (eV 4) (eLst [(eV 6)])) (eV 5))]), (eN pLen [(eV 4)])]))))))
theorem lstep_ok {h : Hist} {a : Act} (M : Mem) (hv : valid h) (ha : plain a = true) : F__law_step [enc h, enc a] M = some (enc (stepH h a), M) := by
  have := fn2_eq lstepF h a M
  unfold lstepF at this
  rw [if_pos ⟨hv, ha⟩] at this
  exact this
theorem keeps__law_step : Keeps 7 c__law_step F__law_step := by
  refine keeps2p fun h a c M e => ?_
  unfold lstepF at e
  split at e
  · rename_i hv
    cases e
    obtain ⟨⟨h1, h2⟩, h3⟩ := hv
    have k1 : h.ps.length ≤ 16777215 := by omega
    obtain ⟨ps, i⟩ := h
    simp only at h1 h2 k1
    obtain ⟨p, hp⟩ : ∃ p, ps[i]? = some p := ⟨_, List.getElem?_eq_getElem h1⟩
    have e0 : ps.take i ++ [p] = ps.take (i + 1) := by rw [List.take_add_one, hp]; rfl
    have e1 : ps.take i ++ (p :: ps.drop (i + 1)) = ps := by
      have : ps.drop i = p :: ps.drop (i + 1) := by
        rw [List.drop_eq_getElem_cons h1]
        rw [List.getElem?_eq_getElem h1] at hp
        cases hp; rfl
      rw [← this, List.take_append_drop]
    have e1' : List.take i (ps.map W.str) ++ (W.str p :: List.drop (i + 1) (ps.map W.str)) = ps.map W.str := by
      have := congrArg (List.map W.str) e1
      simpa using this
    have t1 : i ≤ 16777215 := by omega
    have t2 : i ≤ 16777214 := by omega
    have t3 : i + (1 + (ps.length - (i + 1))) ≤ 16777216 := by omega
    have t4 : i ≤ 16777213 := by omega
    have t5 : 1 + (ps.length - (i + 1)) ≤ 16777216 := by omega
    have m5 : min i ps.length = i := by omega
    have n1 : ps ≠ [] := fun z => by rw [z] at h1; simp at h1
    have e2 : (ps.take (i + 1)).map W.str = (ps.take i).map W.str ++ [.str p] := by rw [← e0]; simp
    simp only [List.map_take] at e2
    cases a with
    | visit q =>
      simp [c__law_step, enc_hist, stepH, cutW_map, ixW_nat h1, hp, List.length_take, m5, Nat.add_assoc, e2, t1, t2, t3, t4, t5]
    | back =>
      have q1 : eqW (M ++ [.lst ((ps.take i).map W.str), .lst ((ps.drop (i + 1)).map W.str), .lst []]) (.ref M.length) (.ref (M.length + 2)) = some (decide (ps.take i = [])) :=
        eqW_lst (α := Str) _ _ _ (ps.take i) [] (by simp; rfl) (by simp)
      simp only [List.map_take, List.map_drop] at q1
      by_cases hi : i = 0
      · rw [decide_eq_true (by simp [hi])] at q1
        simp [c__law_step, enc_hist, stepH, cutW_map, ixW_nat h1, hp, List.length_take, m5, Nat.add_assoc, q1, t1, t2, t3, t4, t5, e1']
        exact ⟨_, ⟨by omega, rfl⟩, List.prefix_append _ _⟩
      · rw [decide_eq_false (by simp [hi, n1])] at q1
        obtain ⟨p', hp'⟩ : ∃ p', ps[i - 1]? = some p' := ⟨_, List.getElem?_eq_getElem (by omega)⟩
        have hlt : i - 1 < i := by omega
        have e3 : List.take (i - 1) (ps.map W.str) ++ (W.str p' :: W.str p :: List.drop (i + 1) (ps.map W.str)) = ps.map W.str := by
          have : ps.take i = ps.take (i - 1) ++ [p'] := by
            have := List.take_add_one (l := ps) (i := i - 1)
            rw [hp', show i - 1 + 1 = i by omega] at this
            exact this
          have e4 := congrArg (List.map W.str) this
          simp only [List.map_take, List.map_append, List.map_cons, List.map_nil] at e4
          rw [e4] at e1'
          simpa using e1'
        have t6 : i - 1 ≤ 16777215 := by omega
        have t7 : min (i - 1) ps.length = i - 1 := by omega
        have t8 : i - 1 + (1 + (1 + (ps.length - (i + 1)))) ≤ 16777216 := by omega
        have t9 : i - 1 + (1 + (ps.length - (i + 1) + 1)) ≤ 16777216 := by omega
        simp [c__law_step, enc_hist, stepH, cutW_map, ixW_nat h1, hp, hp', hlt, List.length_take, List.dropLast_take, m5, Nat.add_assoc, q1, t1, t2, t3, t4, t5, t6, t7, t8, t9, e3]
        refine ⟨_, ⟨?_, rfl⟩, List.prefix_append _ _⟩
        have hd : (List.take i (ps.map W.str)).dropLast = List.take (i - 1) (ps.map W.str) := by
          rw [List.dropLast_eq_take, List.length_take, List.length_map, m5, List.take_take, show min (i - 1) i = i - 1 by omega]
        rw [hd]
        rw [List.getElem?_eq_getElem (by omega)] at hp'
        cases hp'
        exact e3
    | forward =>
      have q1 : eqW (M ++ [.lst ((ps.take i).map W.str), .lst ((ps.drop (i + 1)).map W.str), .lst []]) (.ref (M.length + 1)) (.ref (M.length + 2)) = some (decide (ps.drop (i + 1) = [])) :=
        eqW_lst (α := Str) _ _ _ (ps.drop (i + 1)) [] (by simp; rfl) (by simp)
      simp only [List.map_take, List.map_drop] at q1
      by_cases hi : i + 1 = ps.length
      · rw [decide_eq_true (by simp [hi])] at q1
        simp [c__law_step, enc_hist, stepH, cutW_map, ixW_nat h1, hp, List.length_take, m5, Nat.add_assoc, q1, t1, t2, t3, t4, t5, e1']
        exact ⟨_, ⟨by omega, rfl⟩, List.prefix_append _ _⟩
      · rw [decide_eq_false (by simp; omega)] at q1
        have hf : small62 0 = true := rfl
        have hx : ixW (ps.length - (i + 1)) 0 = some 0 := ixW_nat (j := 0) (by omega)
        obtain ⟨p', hp'⟩ : ∃ p', ps[i + 1]? = some p' := ⟨_, List.getElem?_eq_getElem (by omega)⟩
        have t6 : i + 1 ≤ 16777215 := by omega
        have t7 : i + (2 + (ps.length - (i + 2))) ≤ 16777216 := by omega
        have e3 : List.take i (ps.map W.str) ++ (W.str p :: W.str p' :: List.drop (i + 2) (ps.map W.str)) = ps.map W.str := by
          have : ps.drop (i + 1) = p' :: ps.drop (i + 2) := by
            rw [List.drop_eq_getElem_cons (by omega)]
            rw [List.getElem?_eq_getElem (by omega)] at hp'
            cases hp'; rfl
          have e4 := congrArg (List.map W.str) this
          simp only [List.map_drop, List.map_cons] at e4
          rw [e4] at e1'
          exact e1'
        simp [c__law_step, enc_hist, stepH, cutW_map, ixW_nat h1, hp, hp', hf, hx, List.length_take, m5, Nat.add_assoc, q1, t1, t2, t3, t4, t5, t6, t7, e3]
        exact ⟨_, ⟨by omega, rfl⟩, List.prefix_append _ _⟩
    | go i => cases h3
  · cases e
end BF

set_option Elab.async false
set_option linter.all false
set_option autoImplicit false
set_option maxRecDepth 10000
namespace BF
open PySem Enc
/-! _law_whole: of any value -/
def F__law_whole : Fn := pB isI
abbrev N__law_whole : List Str := ["item"]
def c__law_whole : CS :=
  (sRet (eAnd (e1 (gIsi "int") (eV 0)) (eNot (e1 (gIsi "bool") (eV 0)))))
theorem keeps__law_whole : Keeps 1 c__law_whole F__law_whole := by
  refine keepsB fun x M d hd => ?_
  have g1 := isi_of "int" hd
  have g2 := isi_of "bool" hd
  have t1 : isTy "int" "bool" = true := by decide
  have t2 : isTy "int" "int" = true := by decide
  have t3 : isTy "bool" "int" = false := by decide
  have t4 : isTy "bool" "bool" = true := by decide
  have t5 : isTy "int" "NoneType" = false := by decide
  have t6 : isTy "int" "str" = false := by decide
  have t7 : isTy "int" "tuple" = false := by decide
  have t8 : isTy "int" "list" = false := by decide
  refine ⟨[], ?_⟩
  cases x <;> simp [c__law_whole, g1, g2, kindW, t1, t2, t3, t4, t5, t6, t7, t8, isI]
end BF

set_option Elab.async false
set_option linter.all false
set_option autoImplicit false
set_option maxRecDepth 10000
namespace BF
open PySem Enc
/-! _law_within: of any value -/
def isWi (w : W) (lo hi : Int) : Bool := match w with
  | .int i => decide (lo ≤ i) && decide (i ≤ hi)
  | _ => false
def F__law_within : Fn := fun ws M => match ws with
  | [w, .int lo, .int hi] => match toD M 40 w with
    | some _ => some (.bl (isWi w lo hi), M)
    | none => none
  | _ => none
theorem within_ok {M : Mem} {w : W} {d : PyData} (lo hi : Int) (h : toD M 40 w = some d) : F__law_within [w, .int lo, .int hi] M = some (.bl (isWi w lo hi), M) := by
  unfold F__law_within
  simp only [h]
abbrev N__law_within : List Str := ["item", "low", "high"]
def c__law_within : CS :=
  (sRet (eAnd (eN F__law_whole [(eV 0)]) (eChain gLe gLe (eV 1) (eV 0) (eV 2))))
theorem keeps__law_within : Keeps 3 c__law_within F__law_within := by
  refine KeepsP.keeps ?_
  intro ws M w M' hc hw e
  unfold F__law_within at e
  split at e
  · rename_i x lo hi
    split at e
    · rename_i d hd
      cases e
      refine ⟨[], .inl ?_, Nat.le_refl _, hc, rfl⟩
      have g1 : F__law_whole [x] M = some (.bl (isI x), M) := pB_eq hd
      cases x with
      | int i =>
        by_cases h0 : lo ≤ i
        · simp [c__law_within, g1, isI, isWi, h0]
        · simp [c__law_within, g1, isI, isWi, h0]
      | _ => simp [c__law_within, g1, isI, isWi]
    · cases e
  · cases e
end BF

set_option Elab.async false
set_option linter.all false
set_option autoImplicit false
set_option maxRecDepth 10000
namespace BF
open PySem Enc
/-! _law_due -/
def okPage (x : Str) : Bool := decide (x = "a") || decide (x = "b") || decide (x = "zzzzzzzz")
def dueF (h : Hist) (way : Int) (w : W) : Hist × W :=
  if way = 0 then (match w with
    | .str x => if okPage x = true then (stepH h (.visit x), .int ((h.ps.length : Int) - 1 - h.at_)) else (h, .tup [.str "page"])
    | _ => (h, .tup [.str "page"]))
  else if way = 3 then (match w with
    | .int i => if 0 ≤ i ∧ i < h.ps.length then (⟨h.ps, i.toNat⟩, .str (pgOf ⟨h.ps, i.toNat⟩)) else (h, .tup [.str "entry"])
    | _ => (h, .tup [.str "entry"]))
  else if way = 1 then (if stepH h .back = h then (h, .tup [.str "back"]) else (stepH h .back, .str (pgOf (stepH h .back))))
  else (if stepH h .forward = h then (h, .tup [.str "forward"]) else (stepH h .forward, .str (pgOf (stepH h .forward))))
def F__law_due : Fn := fun ws M => match ws with
  | [x, .int way, w] => match (dec x : Option Hist) with
    | some h => if valid h ∧ 0 ≤ way ∧ way ≤ 3 then match toD M 40 w with
        | some _ => some (.tup [enc (dueF h way w).1, (dueF h way w).2], M)
        | none => none
      else none
    | none => none
  | _ => none
theorem due_ok {M : Mem} {h : Hist} {way : Int} {w : W} {d : PyData} (v : valid h) (h0 : 0 ≤ way) (h3 : way ≤ 3) (hd : toD M 40 w = some d) : F__law_due [enc h, .int way, w] M = some (.tup [enc (dueF h way w).1, (dueF h way w).2], M) := by
  unfold F__law_due
  simp only [dec_enc, if_pos (show valid h ∧ 0 ≤ way ∧ way ≤ 3 from ⟨v, h0, h3⟩), hd]
theorem due_closed (h : Hist) (way : Int) (w : W) (k : Nat) : (dueF h way w).2.closed k = true := by
  unfold dueF
  repeat' split
  all_goals rfl
abbrev N__law_due : List Str := ["history", "way", "item", "pages", "place", "new"]
def c__law_due : CS :=
  (sSeq (sSet (gT [(gV 3), (gV 4)]) (eV 0))
  (sSeq (sIf (tB (e2 gEq (eV 1) (eL (.int 0)))) (sSeq (sIf (tOr (tNot (tB (e1 (gIsi "str") (eV 2)))) (tB (e2 gNotInU (eV 2) (eTup [(eL (.str "a")), (eL (.str "b")), (eL (.str "zzzzzzzz"))])))) (sRet (eTup [(eV 0), (eTup [(eL (.str "page"))])])) sNil)
  (sRet (eTup [(eN F__law_step [(eV 0), (eTup [(eL (.str "visit")), (eV 2)])]), (e2 gSub (e2 gSub (eN pLen [(eV 3)]) (eL (.int 1))) (eV 4))]))) sNil)
  (sSeq (sIf (tB (e2 gEq (eV 1) (eL (.int 3)))) (sSeq (sIf (tNot (tB (eN F__law_within [(eV 2), (eL (.int 0)), (e2 gSub (eN pLen [(eV 3)]) (eL (.int 1)))]))) (sRet (eTup [(eV 0), (eTup [(eL (.str "entry"))])])) sNil)
  (sRet (eTup [(eTup [(eV 3), (eV 2)]), (e2 gIx (eV 3) (eV 2))]))) sNil)
  (sSeq (sSet (gV 5) (eN F__law_step [(eV 0), (e2 gIx (eLst [(eTup [(eL (.str "back"))]), (eTup [(eL (.str "forward"))])]) (e2 gSub (eV 1) (eL (.int 1))))]))
  (sRet (eIf (tB (e2 gNe (eV 5) (eV 0))) (eTup [(eV 5), (e2 gIx (e2 gIx (eV 5) (eL (.int 0))) (e2 gIx (eV 5) (eL (.int 1))))]) (eTup [(eV 0), (eTup [(e2 gIx (eLst [(eL (.str "back")), (eL (.str "forward"))]) (e2 gSub (eV 1) (eL (.int 1))))])])))))))
theorem notin_str {M : Mem} (x : Str) : gNotInU M (.str x) (.tup [.str "a", .str "b", .str "zzzzzzzz"]) = some (.bl (!okPage x), M) := by
  have e1 : toD M 64 (.str x) = some (.str x) := rfl
  have e2 : toD M 64 (.tup [.str "a", .str "b", .str "zzzzzzzz"]) = some (.tuple [.str "a", .str "b", .str "zzzzzzzz"]) := rfl
  unfold gNotInU
  rw [e1, e2]
  simp only [List.any_cons, List.any_nil, Bool.or_false]
  have q : ∀ a b : Str, PyData.eqv (.str a) (.str b) = decide (b = a) := fun a b => by
    rw [PyData.eqv]
    rw [Bool.eq_iff_iff, beq_iff_eq, decide_eq_true_eq]
    exact eq_comm
  rw [q, q, q]
  unfold okPage
  rw [Bool.or_assoc]
theorem keeps__law_due : Keeps 6 c__law_due F__law_due := by
  refine KeepsP.keeps ?_
  intro ws M u M' hc hw e
  unfold F__law_due at e
  split at e
  · rename_i x way w
    split at e
    · rename_i h hx
      have hx' := enc_dec _ _ hx
      subst hx'
      split at e
      · rename_i hv
        obtain ⟨v, w0, w3⟩ := hv
        split at e
        · rename_i d hd
          cases e
          have cl : W.closed M.length (.tup [enc (dueF h way w).1, (dueF h way w).2]) = true := by
            simp [W.closed, W.closeds, enc_closed, due_closed]
          suffices H : ∃ g, c__law_due [some (enc h), some (.int way), some w, none, none, none] M = some (.rt (.tup [enc (dueF h way w).1, (dueF h way w).2]) (M ++ g)) by
            obtain ⟨g, hg⟩ := H
            exact ⟨g, .inl hg, Nat.le_refl _, hc, cl⟩
          have v1 := v.1
          have v2 := v.2
          have gs := isi_str hd
          by_cases h0 : way = 0
          · subst h0
            cases w with
            | str x =>
              have ni := fun M : Mem => notin_str (M := M) x
              by_cases hp : okPage x = true
              · have st := lstep_ok (a := .visit x) M v rfl
                have ea : (enc (Act.visit x) : W) = .tup [.str "visit", .str x] := rfl
                rw [ea, enc_hist] at st
                refine ⟨[], ?_⟩
                simp [c__law_due, enc_hist, dueF, gs, isS, ni, hp, st]
              · refine ⟨[], ?_⟩
                simp [c__law_due, enc_hist, dueF, gs, isS, ni, hp]
            | _ => exact ⟨[], by simp [c__law_due, enc_hist, dueF, gs, isS]⟩
          · by_cases h3 : way = 3
            · subst h3
              have wi := within_ok 0 ((h.ps.length : Int) - 1) hd
              cases w with
              | int i =>
                by_cases hi : 0 ≤ i ∧ i < h.ps.length
                · obtain ⟨j, rfl⟩ : ∃ j : Nat, i = j := ⟨i.toNat, by omega⟩
                  have hj : j < h.ps.length := by omega
                  have hw : isWi (.int (j : Int)) 0 ((h.ps.length : Int) - 1) = true := by simp [isWi]; omega
                  rw [hw] at wi
                  have pg := pgOf_get (h := ⟨h.ps, j⟩) hj
                  simp only at pg
                  have pg2 : h.ps[j] = pgOf ⟨h.ps, j⟩ := by
                    rw [List.getElem?_eq_getElem hj] at pg
                    exact Option.some.inj pg
                  exact ⟨[], by simp [c__law_due, enc_hist, dueF, wi, ixW_nat hj, pg2, hj]⟩
                · have hw : isWi (.int i) 0 ((h.ps.length : Int) - 1) = false := by simp [isWi]; omega
                  rw [hw] at wi
                  exact ⟨[], by simp [c__law_due, enc_hist, dueF, wi, hi]⟩
              | _ => exact ⟨[], by simp [c__law_due, enc_hist, dueF, wi, isWi]⟩
            · have h12 : way = 1 ∨ way = 2 := by omega
              rcases h12 with rfl | rfl
              · have st := fun M : Mem => lstep_ok (a := .back) M v rfl
                have ea : (enc Act.back : W) = .tup [.str "back"] := rfl
                have hv : (stepH h .back).at_ < (stepH h .back).ps.length := by show h.at_ - 1 < h.ps.length; omega
                have q := fun M : Mem => eqW_enc (α := Hist) M (stepH h .back) h
                by_cases hs : stepH h .back = h
                · simp only [ea, enc_hist, hs] at st q
                  simp [c__law_due, enc_hist, dueF, st, hs, ixW_nat]
                · have pg := pgOf_get hv
                  have dz : dueF h 1 w = (stepH h .back, .str (pgOf (stepH h .back))) := by
                    unfold dueF
                    rw [if_neg (by decide), if_neg (by decide)]
                    first | rw [if_pos rfl, if_neg hs] | rw [if_neg (by decide), if_neg hs]
                  rw [dz]
                  generalize stepH h .back = n at *
                  have pg2 : n.ps[n.at_] = pgOf n := by
                    rw [List.getElem?_eq_getElem hv] at pg
                    exact Option.some.inj pg
                  simp only [ea, enc_hist] at st q
                  simp [c__law_due, enc_hist, st, hs, q, ixW_nat hv, pg, pg2, hv]
              · have st := fun M : Mem => lstep_ok (a := .forward) M v rfl
                have ea : (enc Act.forward : W) = .tup [.str "forward"] := rfl
                have hv : (stepH h .forward).at_ < (stepH h .forward).ps.length := by show min (h.ps.length - 1) (h.at_ + 1) < h.ps.length; omega
                have q := fun M : Mem => eqW_enc (α := Hist) M (stepH h .forward) h
                by_cases hs : stepH h .forward = h
                · simp only [ea, enc_hist, hs] at st q
                  simp [c__law_due, enc_hist, dueF, st, hs, ixW_nat]
                · have pg := pgOf_get hv
                  have dz : dueF h 2 w = (stepH h .forward, .str (pgOf (stepH h .forward))) := by
                    unfold dueF
                    rw [if_neg (by decide), if_neg (by decide)]
                    first | rw [if_pos rfl, if_neg hs] | rw [if_neg (by decide), if_neg hs]
                  rw [dz]
                  generalize stepH h .forward = n at *
                  have pg2 : n.ps[n.at_] = pgOf n := by
                    rw [List.getElem?_eq_getElem hv] at pg
                    exact Option.some.inj pg
                  simp only [ea, enc_hist] at st q
                  simp [c__law_due, enc_hist, st, hs, q, ixW_nat hv, pg, pg2, hv]
        · cases e
      · cases e
    · cases e
  · cases e
end BF

set_option Elab.async false
set_option linter.all false
set_option autoImplicit false
set_option maxRecDepth 10000
namespace BF
open PySem Enc
/-! Tab.history -/
def F_T_history : Fn := fnS fun h => some (enc h)
abbrev N_T_history : List Str := ["self"]
def c_T_history : CS :=
  (sRet (e1 (gFld "state") (eV 0)))
theorem history_eq {M : Mem} {n : Nat} {h : Hist} (e : M[n]? = some (tabO h)) : F_T_history [.ref n] M = some (enc h, M) := fnS_eq e rfl
theorem keeps_T_history : Keeps 1 c_T_history F_T_history := by
  refine keepsS (fun h w k e => ?_) fun M i h w e f => ?_
  · cases e; exact enc_closed h _
  · cases f
    have g := fld_tab e
    simp only [c_T_history, sRet_eq, e1_eq, eV_eq, List.getD_cons_zero, Option.bind_some, g]
end BF

set_option Elab.async false
set_option linter.all false
set_option autoImplicit false
set_option maxRecDepth 10000
namespace BF
open PySem Enc
/-! Tab.__len__ -/
def F_T_len : Fn := fnS fun h => some (.int h.ps.length)
abbrev N_T_len : List Str := ["self"]
def c_T_len : CS :=
  (sRet (eN pLen [(e2 gIx (e1 (gFld "state") (eV 0)) (eL (.int 0)))]))
theorem tlen_eq {M : Mem} {n : Nat} {h : Hist} (e : M[n]? = some (tabO h)) : F_T_len [.ref n] M = some (.int h.ps.length, M) := fnS_eq e rfl
theorem keeps_T_len : Keeps 1 c_T_len F_T_len := by
  refine keepsS (fun h w k e => ?_) fun M i h w e f => ?_
  · cases e; rfl
  · cases f
    have g := fld_tab e
    simp [-gFld_ref, c_T_len, g, enc_hist]
end BF

set_option Elab.async false
set_option linter.all false
set_option autoImplicit false
set_option maxRecDepth 10000
namespace BF
open PySem Enc
/-! Tab.__eq__ -/
def F_T_eq : Fn := fun ws M => match ws with
  | [x, y] => match tabAt M x with
    | some (_, h) => match tabAt M y with
      | some (_, g) => some (.bl (decide (h = g)), M)
      | none => if isTupW y = true then some (.bl false, M) else none
    | none => none
  | _ => none
abbrev N_T_eq : List Str := ["self", "other"]
def c_T_eq : CS :=
  (sRet (eAnd (e1 (gIsT "state") (eV 1)) (e2 gEq (e1 (gFld "state") (eV 0)) (e1 (gFld "state") (eV 1)))))
theorem teq_eq {M : Mem} {n m : Nat} {h g : Hist} (e : M[n]? = some (tabO h)) (e2 : M[m]? = some (tabO g)) : F_T_eq [.ref n, .ref m] M = some (.bl (decide (h = g)), M) := by
  unfold F_T_eq
  simp only [tabAt_eq e, tabAt_eq e2]
theorem teq_tup {M : Mem} {n : Nat} {h : Hist} {ws : List W} (e : M[n]? = some (tabO h)) : F_T_eq [.ref n, .tup ws] M = some (.bl false, M) := by
  unfold F_T_eq
  simp only [tabAt_eq e, show tabAt M (.tup ws) = none from rfl, isTupW, if_true]
theorem keeps_T_eq : Keeps 2 c_T_eq F_T_eq := by
  refine KeepsP.keeps ?_
  intro ws M w M' c hw e
  unfold F_T_eq at e
  split at e
  · rename_i x y
    split at e
    · rename_i i h hx
      obtain ⟨rfl, h1⟩ := tabAt_some hx
      have g1 := fld_tab h1
      split at e
      · rename_i j g hy
        obtain ⟨rfl, h2⟩ := tabAt_some hy
        cases e
        have g2 := fld_tab h2
        have g3 := is_tab h2
        have q := eqW_enc (α := Hist) M h g
        refine ⟨[], .inl ?_, Nat.le_refl _, c, rfl⟩
        have g4 : gIsT "state" M (.ref j) = some (.bl true, M) := by unfold gIsT; rw [if_pos g3]
        simp only [c_T_eq, List.map_cons, List.map_nil, List.cons_append, List.nil_append, List.length_cons, List.length_nil, sRet_eq, eAnd_eq, e1_eq, eV_eq, List.getD_cons_zero, List.getD_cons_succ, Option.bind_some, g4, e2_eq, g1, g2, gEq_eq, q, Option.map_some, List.append_nil, Nat.sub_self, List.replicate, List.append_nil]
      · rename_i hy
        split at e
        · rename_i ht
          cases e
          obtain ⟨ws, rfl⟩ : ∃ ws, y = .tup ws := by
            unfold isTupW at ht
            split at ht
            · exact ⟨_, rfl⟩
            · cases ht
          refine ⟨[], .inl ?_, Nat.le_refl _, c, rfl⟩
          have g4 : gIsT "state" M (.tup ws) = some (.bl false, M) := by
            unfold gIsT
            rw [if_neg (by simp [isTab])]
            rfl
          simp [c_T_eq, g4]
        · cases e
    · cases e
  · cases e
end BF

set_option Elab.async false
set_option linter.all false
set_option autoImplicit false
set_option maxRecDepth 10000
namespace BF
open PySem Enc
/-! Tab.__init__ -/
def F_T_init : FnX := fun ws M => match ws with
  | [.ref n, w] => if M[n]? = some (.dT .tab []) then match toD M 40 w with
      | some _ => match w with
        | .str x => if pageS x = true then some (.ok .non (M.set n (tabO ⟨[x], 0⟩))) else some (.er "InvalidPage" M)
        | _ => some (.er "InvalidPage" M)
      | none => none
    else none
  | _ => none
def t_T_init : CT :=
  (tNot (tB (eN F_is_page [(eV 1)])))
abbrev N_T_init : List Str := ["self", "page"]
def c_T_init : CS :=
  (sFldW "state" (eV 0) (eTup [(eTup [(eV 1)]), (eL (.int 0))]))
theorem init_ok {M : Mem} {n : Nat} {x : Str} (e : M[n]? = some (.dT .tab [])) (hx : pageS x = true) : F_T_init [.ref n, .str x] M = some (.ok .non (M.set n (tabO ⟨[x], 0⟩))) := by
  unfold F_T_init
  simp only [e, if_true, toD, hx]
theorem init_er {M : Mem} {n : Nat} {w : W} {d : PyData} (e : M[n]? = some (.dT .tab [])) (hd : toD M 40 w = some d) (hx : isPg w = false) : F_T_init [.ref n, w] M = some (.er "InvalidPage" M) := by
  unfold F_T_init
  simp only [e, if_true, hd]
  cases w with
  | str x =>
    have : pageS x = false := hx
    simp [this]
  | _ => rfl
theorem keeps_T_init : KeepsX 2 t_T_init "InvalidPage" c_T_init F_T_init := by
  intro ws M r hc hw e
  unfold F_T_init at e
  split at e
  · rename_i n w
    split at e
    · rename_i hn
      split at e
      · rename_i d hd
        have g : F_is_page [w] M = some (.bl (isPg w), M) := pB_eq hd
        split at e
        · rename_i x
          split at e
          · rename_i hx
            cases e
            have hx' : isPg (.str x) = true := hx
            have p := put_tab0 hn ⟨[x], 0⟩
            simp only [enc_hist, List.map_cons, List.map_nil] at p
            refine ⟨by simp [t_T_init, g, hx'], .inr ⟨rfl, [some (.ref n), some (.str x)], ?_⟩⟩
            simp at p
            simp [c_T_init, p]
          · rename_i hx
            cases e
            have hx' : isPg (.str x) = false := by simpa [isPg] using hx
            refine ⟨rfl, rfl, by simp [t_T_init, g, hx']⟩
        · rename_i hne
          cases e
          have hx' : isPg w = false := by
            cases w <;> first | rfl | exact absurd rfl (hne _)
          exact ⟨rfl, rfl, by simp [t_T_init, g, hx']⟩
      · cases e
    · cases e
  · cases e
end BF

set_option Elab.async false
set_option linter.all false
set_option autoImplicit false
set_option maxRecDepth 10000
namespace BF
open PySem Enc
/-! Tab.copy -/
def F_T_copy : Fn := fun ws M => match ws with
  | [x] => match tabAt M x with
    | some (_, h) => some (.ref M.length, M ++ [tabO h])
    | none => none
  | _ => none
abbrev N_T_copy : List Str := ["self", "other"]
def c_T_copy : CS :=
  (sSeq (sSet (gV 1) (eN (okX (mkX F_T_init)) [(eL (.str "a"))]))
  (sSeq (sFldW "state" (eV 1) (e1 (gFld "state") (eV 0)))
  (sRet (eV 1))))
theorem copy_eq {M : Mem} {n : Nat} {h : Hist} (e : M[n]? = some (tabO h)) : F_T_copy [.ref n] M = some (.ref M.length, M ++ [tabO h]) := by
  unfold F_T_copy
  simp only [tabAt_eq e]
theorem make_a (M : Mem) : okX (mkX F_T_init) [.str "a"] M = some (.ref M.length, M ++ [tabO ⟨["a"], 0⟩]) := by
  have h1 : (M ++ [MO.dT .tab []])[M.length]? = some (.dT .tab []) := List.getElem?_concat_length
  have := init_ok h1 (x := "a") (by decide +kernel)
  unfold okX mkX
  simp only [this]
  simp
theorem keeps_T_copy : Keeps 2 c_T_copy F_T_copy := by
  refine KeepsP.keeps ?_
  intro ws M w M' c hw e
  unfold F_T_copy at e
  split at e
  · rename_i x
    split at e
    · rename_i i h hx
      obtain ⟨rfl, h1⟩ := tabAt_some hx
      cases e
      have hi : i < M.length := (List.getElem?_eq_some_iff.mp h1).1
      have h2 : (M ++ [tabO ⟨["a"], 0⟩])[i]? = some (tabO h) := by rw [List.getElem?_append_left hi]; exact h1
      have g := fld_tab h2
      have p := put_tab (M := M ++ [tabO ⟨["a"], 0⟩]) (n := M.length) (h := ⟨["a"], 0⟩) List.getElem?_concat_length h
      refine ⟨[], .inl ?_, by simp, ?_, by simp [W.closed]⟩
      · simp only [c_T_copy, List.map_cons, List.map_nil, List.cons_append, List.nil_append, List.length_cons, List.length_nil, List.replicate, sSeq_eq, sSet_eq, eN_eq, eArgs_cons, eArgs_nil, eL_eq, Option.bind_some, make_a, gV_eq, List.set_cons_succ, List.set_cons_zero, sFldW_eq, e1_eq, eV_eq, List.getD_cons_zero, List.getD_cons_succ, g, p, sRet_eq]
        simp
      · intro mo hm
        rcases List.mem_append.mp hm with z | z
        · have := c mo z
          rw [List.length_append]
          exact closed_mono this (by omega)
        · rw [List.mem_singleton.mp z]; exact tabO_closed h _
    · cases e
  · cases e
end BF

set_option Elab.async false
set_option linter.all false
set_option autoImplicit false
set_option maxRecDepth 10000
namespace BF
open PySem Enc
/-! _law_draw -/
def F__law_draw : Fn := fnT1 fun (m : Nat) ns s => if 0 < m ∧ m < 2 ^ 62 then some (drawD ns m s) else none
abbrev N__law_draw : List Str := ["tape", "many", "prime", "cell", "found"]
def c__law_draw : CS :=
  (sSeq (sSet (gV 2) (eL (.int 2305843009213693951)))
  (sSeq (sIf (tB (e2 gLt (e2 gIx (eV 0) (eL (.int 2))) (eV 1))) (sSeq (sSet (gV 3) (eL (.int 0)))
  (sSeq (sIf (tB (e2 gGt (eN pLen [(e2 gIx (eV 0) (eL (.int 0)))]) (eL (.int 0)))) (sSet (gV 3) (e2 gIx (e2 gIx (eV 0) (eL (.int 0))) (e2 gMod (e2 gIx (eV 0) (eL (.int 1))) (eN pLen [(e2 gIx (eV 0) (eL (.int 0)))])))) sNil)
  (sSeq (sIf (tOr (tB (e2 gGe (e2 gIx (eV 0) (eL (.int 1))) (eN pLen [(e2 gIx (eV 0) (eL (.int 0)))]))) (tB (e2 gLt (eV 3) (e2 gPow (eL (.int 10)) (eL (.int 18)))))) (sSeq (sSet (gV 3) (e2 gMod (e2 gAdd (eV 3) (e2 gMul (eL (.int 1000003)) (e2 gIx (eV 0) (eL (.int 1))))) (eV 2)))
  (sSeq (sSet (gV 3) (e2 gMod (e2 gAdd (e2 gAdd (e2 gMul (eV 3) (eV 3)) (e2 gMul (eL (.int 1181783497276652981)) (eV 3))) (eL (.int 2049848353892358983))) (eV 2)))
  (sSet (gV 3) (e2 gMod (e2 gAdd (e2 gMul (eV 3) (eV 3)) (eL (.int 1442695040888963407))) (eV 2))))) sNil)
  (sSeq (sPut putL (eV 0) (eL (.int 1)) (e2 gAdd (e2 gIx (eV 0) (eL (.int 1))) (eL (.int 1))))
  (sPut putL (eV 0) (eL (.int 2)) (eV 3)))))) sNil)
  (sSeq (sSet (gV 4) (e2 gMod (e2 gIx (eV 0) (eL (.int 2))) (eV 1)))
  (sSeq (sPut putL (eV 0) (eL (.int 2)) (e2 gDiv (e2 gIx (eV 0) (eL (.int 2))) (eV 1)))
  (sRet (eV 4))))))
theorem draw_ok (m : Nat) (ns : List Int) (s : Dr) (g : Mem) (h1 : 0 < m) (h2 : m < 2 ^ 62) : F__law_draw [.ref 2, .int m] (TM ns s g) = some (.int ((drawD ns m s).1 : Nat), TM ns (drawD ns m s).2 g) := by
  have := fnT1_eq (fun (m : Nat) ns s => if 0 < m ∧ m < 2 ^ 62 then some (drawD ns m s) else none) m ns s g
  rw [if_pos ⟨h1, h2⟩] at this
  exact this
theorem keeps__law_draw : Keeps 5 c__law_draw F__law_draw := by
  refine keepsT1 fun m ns s g b s' e => ?_
  split at e
  · rename_i hm
    cases e
    obtain ⟨h1, h2⟩ := hm
    obtain ⟨i, c⟩ := s
    refine ⟨[], ?_⟩
    have b1 : small64 1000003 = true := by decide
    have b2 : small64 1181783497276652981 = true := by decide
    have b3 : small62 10 = true := by decide
    have b4 : (0 : Int) < m := by omega
    have b5 : small64 (m : Int) = true := small64_of (by omega)
    have b6 : ∀ x : Int, small64 (x % 2305843009213693951) = true := fun x => by
      have q1 := Int.emod_nonneg x (show (2305843009213693951 : Int) ≠ 0 by decide)
      have q2 := Int.emod_lt_of_pos x (show (0 : Int) < 2305843009213693951 by decide)
      exact small64_of (by omega)
    have b7 : ∀ x : Int, max (x % (m : Int)) 0 = x % m := fun x => by
      have q1 := Int.emod_nonneg x (show (m : Int) ≠ 0 by omega)
      omega
    by_cases hc : c < m
    · by_cases hl : 0 < ns.length
      · have hl' : (0 : Int) < ns.length := by omega
        have j1 := Int.emod_nonneg i (show (ns.length : Int) ≠ 0 by omega)
        have j2 := Int.emod_lt_of_pos i hl'
        have j3 : (ixW ns.length (i % (ns.length : Int))) = some (i % (ns.length : Int)).toNat := by
          have := ixW_nat (n := ns.length) (j := (i % (ns.length : Int)).toNat) (by omega)
          rw [Int.toNat_of_nonneg j1] at this
          exact this
        obtain ⟨cell, j4⟩ : ∃ cell, ns[(i % (ns.length : Int)).toNat]? = some cell := ⟨_, List.getElem?_eq_getElem (by omega)⟩
        by_cases hi : (ns.length : Int) ≤ i
        · simp [c__law_draw, TM, hc, hl, j3, j4, hi, h1, b1, b2, b3, b4, b5, b6, b7, drawD, nextT, mixT]
        · by_cases hs : cell < 1000000000000000000
          · simp [c__law_draw, TM, hc, hl, j3, j4, hi, hs, h1, b1, b2, b3, b4, b5, b6, b7, drawD, nextT, mixT]
          · simp [c__law_draw, TM, hc, hl, j3, j4, hi, hs, h1, b1, b2, b3, b4, b5, b6, b7, drawD, nextT, mixT]
      · by_cases hi : (ns.length : Int) ≤ i
        · simp [c__law_draw, TM, hc, hl, hi, h1, b1, b2, b3, b4, b5, b6, b7, drawD, nextT, mixT]
        · simp [c__law_draw, TM, hc, hl, hi, h1, b1, b2, b3, b4, b5, b6, b7, drawD, nextT, mixT]
    · simp [c__law_draw, TM, hc, h1, b1, b2, b3, b4, b5, b6, b7, drawD, nextT, mixT]
  · cases e
end BF

set_option Elab.async false
set_option linter.all false
set_option autoImplicit false
set_option maxRecDepth 10000
namespace BF
open PySem Enc
/-! what all laws begin with -/
abbrev pool3 : List Str := ["a", "b", "c"]
theorem keeps_lawT {n : Nat} {body : CS} (h : ∀ ns : List Int, ns.length ≤ 63 → ∃ s g, body (some (.ref 0) :: List.replicate (n - 1) none) [.ro (ns.map W.int)] = some (.rt (.bl true) (TM ns s g))) : Keeps n body lawF := keeps_law fun ns hn => by
  obtain ⟨s, g, e⟩ := h ns hn
  exact ⟨_, e⟩
theorem small_sight (d : Nat) (x : Sight) : smallW (d + 2) (enc x) = true := by simp [enc_sight, smallW]
theorem small_hist (d : Nat) (x : Hist) (h : x.ps.length ≤ 100000) : smallW (d + 3) (enc x) = true := by simp [enc_hist, smallW]; exact h
theorem small_oi (d : Nat) (x : Option Int) : smallW (d + 1) (enc x) = true := by cases x <;> rfl
/-- a law's frame: the tape, the pages, so many turns -/
theorem law_shape {n K : Nat} {B : CS} {pe : CE} {pl : List Str} (hk : small62 (K : Int) = true) (hp : ∀ σ M, pe σ M = some (enc pl, M)) (hn : 4 ≤ n)
    (turn : ∀ ns s g σ, σ.length = n → σ[1]? = some (some (.ref 2)) → σ[2]? = some (some (enc pl)) → ∃ σ2 s' g', B σ (TM ns s g) = some (.nx σ2 (TM ns s' g')) ∧ σ2.length = n ∧ σ2[1]? = some (some (.ref 2)) ∧ σ2[2]? = some (some (enc pl))) :
    Keeps n (sSeq (sSet (gV 1) (eLst [(eN pList [(eV 0)]), (eL (.int 0)), (eL (.int 0))])) (sSeq (sSet (gV 2) pe) (sSeq (sFor (iRange1 (eL (.int K))) (gV 3) B) (sRet (eL (.bl true)))))) lawF := by
  refine keeps_lawT fun ns hl => ?_
  obtain ⟨m, rfl⟩ : ∃ m, n = m + 4 := ⟨n - 4, by omega⟩
  have key := forL_ind (gd := gdT) (g := gV 3) (body := B) (rangeW 0 K) (fun _ σ M => ∃ s g, M = TM ns s g ∧ σ.length = m + 4 ∧ σ[1]? = some (some (.ref 2)) ∧ σ[2]? = some (some (enc pl)))
    (σ := some (.ref 0) :: some (.ref 2) :: some (enc pl) :: none :: List.replicate m none) (M := TM ns (0, 0) []) ⟨_, _, rfl, by simp, rfl, rfl⟩ (fun _ _ _ _ => rfl) (by
    intro i w σ M _ ⟨s, g, hM, hl, h1, h2⟩
    subst hM
    obtain ⟨σ2, s', g', e, l1, l2, l3⟩ := turn ns s g (σ.set 3 (some w)) (by simpa using hl) (by simpa using h1) (by simpa using h2)
    exact ⟨σ.set 3 (some w), rfl, σ2, _, .inl e, _, _, rfl, l1, l2, l3⟩)
  obtain ⟨σ', M', e, s, g, hM, _⟩ := key
  subst hM
  refine ⟨s, g, ?_⟩
  have kl : ns.length ≤ 16777216 := by omega
  have e0 : List.replicate (m + 4 - 1) (none : Option W) = none :: none :: none :: List.replicate m none := rfl
  rw [e0]
  simp only [TM] at e
  simp [hp, e, kl, hk, TM]
theorem law_tape {R : CS} {n : Nat} {ns : List Int} (hl : ns.length ≤ 63) : (sSeq (sSet (gV 1) (eLst [(eN pList [(eV 0)]), (eL (.int 0)), (eL (.int 0))])) R) (some (.ref 0) :: none :: List.replicate n none) [.ro (ns.map W.int)] = R (some (.ref 0) :: some (.ref 2) :: List.replicate n none) (TM ns (0, 0) []) := by
  have kl : ns.length ≤ 16777216 := by omega
  simp [kl, TM]
end BF

set_option Elab.async false
set_option linter.all false
set_option autoImplicit false
set_option maxRecDepth 10000
namespace BF
open PySem Enc
/-! a call does what is due -/
theorem scal_D {w : W} (h : isScal w = true) (M : Mem) : ∃ d, toD M 40 w = some d := by
  cases w <;> first | exact ⟨_, rfl⟩ | cases h
theorem set_same {M : Mem} {n : Nat} {mo : MO} (e : M[n]? = some mo) : M.set n mo = M := by
  refine List.ext_getElem? fun i => ?_
  by_cases hi : n = i
  · subst hi
    rw [List.getElem?_set_self (List.getElem?_eq_some_iff.mp e).1, e]
  · rw [List.getElem?_set_ne hi]
/-- what an item may be -/
def okItem (way : Int) (w : W) : Prop := isScal w = true ∧ (way = 0 → isPg w = match w with
  | .str x => okPage x
  | _ => false)
theorem due_room {h : Hist} (way : Int) (w : W) (v : h.at_ < h.ps.length) : (dueF h way w).1.at_ < (dueF h way w).1.ps.length ∧ (dueF h way w).1.ps.length ≤ h.ps.length + 1 := by
  unfold dueF
  repeat' split
  all_goals try exact ⟨v, Nat.le_succ _⟩
  · refine ⟨?_, ?_⟩
    · simp [stepH]; omega
    · simp [stepH]; omega
  · rename_i hi
    refine ⟨?_, Nat.le_succ _⟩
    show _ < h.ps.length
    simp only
    omega
  · exact ⟨by show h.at_ - 1 < h.ps.length; omega, Nat.le_succ _⟩
  · exact ⟨by show min (h.ps.length - 1) (h.at_ + 1) < h.ps.length; omega, Nat.le_succ _⟩
theorem hd1 : hdTup "InvalidPage" = some (.tup [.str "page"]) := rfl
theorem hd2 : hdTup "NoBack" = some (.tup [.str "back"]) := rfl
theorem hd3 : hdTup "NoForward" = some (.tup [.str "forward"]) := rfl
theorem hd4 : hdTup "NoSuchEntry" = some (.tup [.str "entry"]) := rfl
theorem call_due {M : Mem} {n : Nat} {h : Hist} {way : Int} {w : W} (e : M[n]? = some (tabO h)) (v : valid h) (h0 : 0 ≤ way) (h3 : way ≤ 3) (hw : okItem way w) : F__law_call [.ref n, .int way, w] M = some ((dueF h way w).2, M.set n (tabO (dueF h way w).1)) := by
  obtain ⟨hs, hp⟩ := hw
  obtain ⟨d, hd⟩ := scal_D hs M
  have v1 := v.1
  have ss := set_same e
  unfold F__law_call
  simp only [is_tab e, if_true]
  by_cases w0 : way = 0
  · have hq := hp w0
    clear hp
    subst w0
    cases w with
    | str x =>
      replace hq : pageS x = okPage x := hq
      by_cases q : okPage x = true
      · rw [q] at hq
        simp only [callR, if_true, visit_ok e v hq, dueF, q]
      · have q' : okPage x = false := by simpa using q
        rw [q'] at hq
        simp only [callR, if_true, visit_er e v hd (show isPg (.str x) = false from hq), hd1, Option.map_some, dueF, q', Bool.false_eq_true, if_false, ss]
    | tup _ => cases hs
    | ref _ => cases hs
    | _ => simp only [callR, if_true, visit_er e v hd hq, hd1, Option.map_some, dueF, ss]
  · by_cases w3 : way = 3
    · subst w3
      have c : callR n 3 w M = F_T_go [.ref n, w] M := rfl
      cases w with
      | int i =>
        by_cases hi : 0 ≤ i ∧ i < h.ps.length
        · obtain ⟨j, rfl⟩ : ∃ j : Nat, i = j := ⟨i.toNat, by omega⟩
          have g := go_ok (i := j) e (by omega)
          have dz : dueF h 3 (.int (j : Int)) = (⟨h.ps, j⟩, .str (pgOf ⟨h.ps, j⟩)) := by
            unfold dueF
            rw [if_neg (by decide), if_pos rfl]
            simp only [if_pos hi, Int.toNat_natCast]
          rw [c, g, dz]
        · have g := go_er e hd (by simp [isIx]; omega)
          have dz : dueF h 3 (.int i) = (h, .tup [.str "entry"]) := by
            unfold dueF
            rw [if_neg (by decide), if_pos rfl]
            simp only [if_neg hi]
          rw [c, g, dz]
          simp only [hd4, Option.map_some, ss]
      | tup _ => cases hs
      | ref _ => cases hs
      | _ =>
        have g := go_er e hd rfl
        rw [c, g]
        simp only [hd4, Option.map_some]
        refine Eq.trans (congrArg (fun z => some (W.tup [W.str "entry"], z)) ss.symm) ?_
        rfl
    · have h12 : way = 1 ∨ way = 2 := by omega
      rcases h12 with rfl | rfl
      · have c : callR n 1 w M = F_T_back [.ref n] M := rfl
        by_cases z : h.at_ = 0
        · have hs : stepH h .back = h := by
            obtain ⟨ps, i⟩ := h
            simp only at z
            subst z; rfl
          have dz : dueF h 1 w = (h, .tup [.str "back"]) := by
            unfold dueF
            rw [if_neg (by decide), if_neg (by decide), if_pos rfl, if_pos hs]
          rw [c, back_er e v z, dz]
          simp only [hd2, Option.map_some, ss]
        · have hs : ¬ stepH h .back = h := fun q => by
            have := congrArg Hist.at_ q
            simp [stepH] at this
            omega
          have dz : dueF h 1 w = (stepH h .back, .str (pgOf (stepH h .back))) := by
            unfold dueF
            rw [if_neg (by decide), if_neg (by decide), if_pos rfl, if_neg hs]
          rw [c, back_ok e v z, dz]
      · have c : callR n 2 w M = F_T_forward [.ref n] M := rfl
        by_cases z : h.at_ + 1 = h.ps.length
        · have hs : stepH h .forward = h := by
            obtain ⟨ps, i⟩ := h
            simp only at z
            show (⟨ps, min (ps.length - 1) (i + 1)⟩ : Hist) = ⟨ps, i⟩
            rw [show min (ps.length - 1) (i + 1) = i by omega]
          have dz : dueF h 2 w = (h, .tup [.str "forward"]) := by
            unfold dueF
            rw [if_neg (by decide), if_neg (by decide), if_neg (by decide), if_pos hs]
          rw [c, forward_er e v z, dz]
          simp only [hd3, Option.map_some, ss]
        · have hs : ¬ stepH h .forward = h := fun q => by
            have := congrArg Hist.at_ q
            simp [stepH] at this
            omega
          have dz : dueF h 2 w = (stepH h .forward, .str (pgOf (stepH h .forward))) := by
            unfold dueF
            rw [if_neg (by decide), if_neg (by decide), if_neg (by decide), if_neg hs]
          rw [c, forward_ok e v z, dz]
theorem due_small (h : Hist) (way : Int) (w : W) : okW 8 (dueF h way w).2 = true ∧ smallW 8 (dueF h way w).2 = true := by
  unfold dueF
  repeat' split
  all_goals exact ⟨rfl, rfl⟩
theorem like_due (h : Hist) (way : Int) (w : W) (M : Mem) : F__law_like 8 [(dueF h way w).2, (dueF h way w).2] M = some (.bl true, M) := by
  obtain ⟨h1, h2⟩ := due_small h way w
  unfold F__law_like
  simp only
  rw [likeW_P M 8 _ _ h1 h1 (fun z hz => hz.elim (fun e => e ▸ h2) (fun e => e ▸ h2)) (by decide)]
  simp
theorem like_hist (h : Hist) (M : Mem) (hl : h.ps.length ≤ 1000) : F__law_like 8 [enc h, enc h] M = some (.bl true, M) := by
  have := like_enc 8 h h M (by decide) (by decide) (small_hist 5 _ (by omega)) (small_hist 5 _ (by omega))
  rw [decide_eq_true rfl] at this
  exact this
end BF

set_option Elab.async false
set_option linter.all false
set_option autoImplicit false
set_option maxRecDepth 10000
namespace BF
open PySem Enc
/-! one turn, statement by statement -/
abbrev st1 : CS := sSet (gV 7) (e2 gIx (eLst [(eL (.int 0)), (eL (.int 0)), (eL (.int 1)), (eL (.int 1)), (eL (.int 2)), (eL (.int 3))]) (eN F__law_draw [(eV 1), (eL (.int 6))]))
abbrev st2 : CS := sSet (gV 8) (e2 gIx (eLst [(eL (.str "a")), (eL (.str "b")), (eL (.str "zzzzzzzz")), (eL (.str "A")), (eL (.str "")), (eL .non), (eL (.int 5))]) (eN pMax [(eL (.int 0)), (e2 gSub (eN F__law_draw [(eV 1), (eL (.int 10))]) (eL (.int 3)))]))
abbrev st3 : CS := sIf (tB (e2 gEq (eV 7) (eL (.int 3)))) (sSet (gV 8) (e2 gIx (eLst [(eN F__law_draw [(eV 1), (eN pLen [(e2 gIx (eV 3) (eL (.int 0)))])]), (eN pLen [(e2 gIx (eV 3) (eL (.int 0)))]), (e1 gNeg (eL (.int 1))), (eL (.bl true)), (eL (.str "0"))]) (eN pMax [(eL (.int 0)), (e2 gSub (eN F__law_draw [(eV 1), (eL (.int 9))]) (eL (.int 4)))]))) sNil
abbrev st4 : CS := sSet (gT [(gV 3), (gV 9)]) (eN F__law_due [(eV 3), (eV 7), (eV 8)])
abbrev st5 : CS := sIf (tOr (tNot (tB (eN (F__law_like 8) [(eN F__law_call [(eV 2), (eV 7), (eV 8)]), (eV 9)]))) (tNot (tB (eN (F__law_like 8) [(eMT "state" F_T_history (eV 2) []), (eV 3)])))) (sRet (eL (.bl false))) sNil
abbrev st6 : CS := sIf (tOr (tB (e2 gNe (eMT "state" F_T_history (eV 4) []) (eV 5))) (tB (e2 gNe (e2 (gEqT "state" F_T_eq) (eV 2) (eV 4)) (e2 gEq (eV 3) (eV 5))))) (sRet (eL (.bl false))) sNil
abbrev st7 : CS := sIf (tOr (tB (e2 gNe (eN (pLenT "state" F_T_len) [(eV 2)]) (eN pLen [(e2 gIx (eV 3) (eL (.int 0)))]))) (tB (e2 (gEqT "state" F_T_eq) (eV 2) (eV 3)))) (sRet (eL (.bl false))) sNil
abbrev st8 : CS := sIf (tB (e2 gEq (eN F__law_draw [(eV 1), (eL (.int 5))]) (eL (.int 0)))) (sPar [4, 5] [(eMT "state" F_T_copy (eV 2) []), (eV 3)]) sNil
abbrev st9 : CS := sIf (tB (e2 gEq (eN F__law_draw [(eV 1), (eL (.int 5))]) (eL (.int 0)))) (sSet (gT [(gV 2), (gV 3), (gV 4), (gV 5)]) (eTup [(eV 4), (eV 5), (eV 2), (eV 3)])) sNil
theorem gix0 (h : Hist) (M : Mem) : gIx M (enc h) (.int 0) = some (.tup (h.ps.map W.str), M) := by
  rw [enc_hist]; simp
theorem tm_app (ns : List Int) (s : Dr) (g l : Mem) : TM ns s g ++ l = TM ns s (g ++ l) := rfl
theorem tm_len (ns : List Int) (s : Dr) (g : Mem) : (TM ns s g).length = g.length + 3 := rfl
theorem tm_get (ns : List Int) (s : Dr) (g : Mem) (n : Nat) : (TM ns s g)[n + 3]? = g[n]? := rfl
theorem tm_set (ns : List Int) (s : Dr) (g : Mem) (n : Nat) (mo : MO) : (TM ns s g).set (n + 3) mo = TM ns s (g.set n mo) := rfl
theorem draw_at {ns : List Int} {s : Dr} (m : Nat) (i : Int) (hi : i = (m : Int)) (h1 : 0 < m) (h2 : m < 2 ^ 62) : ∃ (d : Nat) (s' : Dr), d < m ∧ ∀ G, F__law_draw [.ref 2, .int i] (TM ns s G) = some (.int (d : Int), TM ns s' G) := by
  subst hi
  exact ⟨(drawD ns m s).1, (drawD ns m s).2, drawD_lt ns s h1, fun G => draw_ok m ns s G h1 h2⟩
section
variable {ns : List Int} {s : Dr} {g : Mem} {h k : Hist} {s0 s2 s3 s4 s5 s6 s7 s8 s9 s10 : Option W}
theorem st1_ok : ∃ s' g1, ∃ way : Int, (0 ≤ way ∧ way ≤ 3) ∧ st1 [s0, some (.ref 2), s2, s3, s4, s5, s6, s7, s8, s9, s10] (TM ns s g) = some (.nx [s0, some (.ref 2), s2, s3, s4, s5, s6, some (.int way), s8, s9, s10] (TM ns s' (g ++ g1))) := by
  obtain ⟨d, s', lt, dr⟩ := draw_at (ns := ns) (s := s) 6 6 (by decide) (by decide) (by decide)
  have c : d = 0 ∨ d = 1 ∨ d = 2 ∨ d = 3 ∨ d = 4 ∨ d = 5 := by omega
  refine ⟨s', [.lst [.int 0, .int 0, .int 1, .int 1, .int 2, .int 3]], ([0, 0, 1, 1, 2, 3] : List Int).getD d 0, ?_, ?_⟩
  · rcases c with rfl | rfl | rfl | rfl | rfl | rfl <;> decide
  · rcases c with rfl | rfl | rfl | rfl | rfl | rfl <;> simp [dr, tm_app, tm_len, tm_get, ixW]
def items7 : List W := [.str "a", .str "b", .str "zzzzzzzz", .str "A", .str "", .non, .int 5]
theorem st2_ok : ∃ s' g1, ∃ w, w ∈ items7 ∧ st2 [s0, some (.ref 2), s2, s3, s4, s5, s6, s7, s8, s9, s10] (TM ns s g) = some (.nx [s0, some (.ref 2), s2, s3, s4, s5, s6, s7, some w, s9, s10] (TM ns s' (g ++ g1))) := by
  obtain ⟨d, s', lt, dr⟩ := draw_at (ns := ns) (s := s) 10 10 (by decide) (by decide) (by decide)
  have c : d = 0 ∨ d = 1 ∨ d = 2 ∨ d = 3 ∨ d = 4 ∨ d = 5 ∨ d = 6 ∨ d = 7 ∨ d = 8 ∨ d = 9 := by omega
  refine ⟨s', [.lst items7], items7.getD (d - 3) .non, ?_, ?_⟩
  · rcases c with rfl | rfl | rfl | rfl | rfl | rfl | rfl | rfl | rfl | rfl <;> decide
  · rcases c with rfl | rfl | rfl | rfl | rfl | rfl | rfl | rfl | rfl | rfl <;> simp [dr, tm_app, tm_len, tm_get, ixW, items7]
theorem okItem7 {way : Int} {w : W} (hw : w ∈ items7) : okItem way w := by
  simp only [items7, List.mem_cons, List.not_mem_nil, or_false] at hw
  rcases hw with rfl | rfl | rfl | rfl | rfl | rfl | rfl <;> exact ⟨rfl, fun _ => by decide +kernel⟩
theorem st3_ok {way : Int} {w : W} (v : valid h) (hw : w ∈ items7) : ∃ s' g1 w', okItem way w' ∧ st3 [s0, some (.ref 2), s2, some (enc h), s4, s5, s6, some (.int way), some w, s9, s10] (TM ns s g) = some (.nx [s0, some (.ref 2), s2, some (enc h), s4, s5, s6, some (.int way), some w', s9, s10] (TM ns s' (g ++ g1))) := by
  by_cases h3 : way = 3
  · subst h3
    obtain ⟨d, s', lt, dr⟩ := draw_at (ns := ns) (s := s) h.ps.length h.ps.length rfl (by have := v.1; omega) (by have := v.2; omega)
    obtain ⟨d2, s'', lt2, dr2⟩ := draw_at (ns := ns) (s := s') 9 9 (by decide) (by decide) (by decide)
    have c : d2 = 0 ∨ d2 = 1 ∨ d2 = 2 ∨ d2 = 3 ∨ d2 = 4 ∨ d2 = 5 ∨ d2 = 6 ∨ d2 = 7 ∨ d2 = 8 := by omega
    refine ⟨s'', [.lst [.int d, .int h.ps.length, .int (-1), .bl true, .str "0"]], [W.int d, .int h.ps.length, .int (-1), .bl true, .str "0"].getD (d2 - 4) .non, ?_, ?_⟩
    · rcases c with rfl | rfl | rfl | rfl | rfl | rfl | rfl | rfl | rfl <;> exact ⟨rfl, fun z => absurd z (by decide)⟩
    · rcases c with rfl | rfl | rfl | rfl | rfl | rfl | rfl | rfl | rfl <;> simp [gix0, dr, dr2, tm_app, tm_len, tm_get, ixW]
  · refine ⟨s, [], w, okItem7 hw, ?_⟩
    simp [h3]
end
end BF

set_option Elab.async false
set_option linter.all false
set_option autoImplicit false
set_option maxRecDepth 10000
namespace BF
open PySem Enc
/-! .. further statements -/
theorem mt_hist {M : Mem} {n : Nat} {h : Hist} (e : M[n]? = some (tabO h)) {σ : Sl} {o : CE} (ho : o σ M = some (.ref n, M)) : (eMT "state" F_T_history o []) σ M = some (enc h, M) := by
  rw [eMT_eq, ho]
  simp only [Option.bind_some, is_tab e, if_true, eArgs_nil, history_eq e]
theorem mt_copy {M : Mem} {n : Nat} {h : Hist} (e : M[n]? = some (tabO h)) {σ : Sl} {o : CE} (ho : o σ M = some (.ref n, M)) : (eMT "state" F_T_copy o []) σ M = some (.ref M.length, M ++ [tabO h]) := by
  rw [eMT_eq, ho]
  simp only [Option.bind_some, is_tab e, if_true, eArgs_nil, copy_eq e]
theorem len_tab {M : Mem} {n : Nat} {h : Hist} (e : M[n]? = some (tabO h)) (hl : h.ps.length ≤ 1000) : pLenT "state" F_T_len [.ref n] M = some (.int h.ps.length, M) := pLenT_eq (is_tab e) (tlen_eq e) (by omega) (small62_of (by omega))
theorem eq_tabs {M : Mem} {n m : Nat} {h k : Hist} (e : M[n]? = some (tabO h)) (e2 : M[m]? = some (tabO k)) : gEqT "state" F_T_eq M (.ref n) (.ref m) = some (.bl (decide (h = k)), M) := gEqT_eq (by rw [is_tab e, is_tab e2]; rfl) (teq_eq e e2)
theorem eq_tab_tup {M : Mem} {n : Nat} {h k : Hist} (e : M[n]? = some (tabO h)) : gEqT "state" F_T_eq M (.ref n) (enc k) = some (.bl false, M) := gEqT_eq (by rw [is_tab e]; rfl) (teq_tup e)
section
variable {M : Mem} {a b : Nat} {h k : Hist} {s0 s1 s2 s3 s4 s5 s6 s7 s8 s9 s10 : Option W}
theorem st4_ok {way : Int} {w : W} (v : valid h) (h0 : 0 ≤ way) (h3 : way ≤ 3) (hw : okItem way w) : st4 [s0, s1, s2, some (enc h), s4, s5, s6, some (.int way), some w, s9, s10] M =
    some (.nx [s0, s1, s2, some (enc (dueF h way w).1), s4, s5, s6, some (.int way), some w, some (dueF h way w).2, s10] M) := by
  obtain ⟨d, hd⟩ := scal_D hw.1 M
  have du := due_ok v h0 h3 hd
  generalize (dueF h way w).1 = h' at *
  generalize (dueF h way w).2 = dv at *
  simp [du]
theorem st5_ok {way : Int} {w dv : W} {h' : Hist} (hl : h'.ps.length ≤ 1000) (e : M[a]? = some (tabO h)) (c : F__law_call [.ref a, .int way, w] M = some (dv, M.set a (tabO h'))) (lk : ∀ M, F__law_like 8 [dv, dv] M = some (.bl true, M)) :
    st5 [s0, s1, some (.ref a), some (enc h'), s4, s5, s6, some (.int way), some w, some dv, s10] M = some (.nx [s0, s1, some (.ref a), some (enc h'), s4, s5, s6, some (.int way), some w, some dv, s10] (M.set a (tabO h'))) := by
  have e' : (M.set a (tabO h'))[a]? = some (tabO h') := List.getElem?_set_self (List.getElem?_eq_some_iff.mp e).1
  have hi := mt_hist e' (σ := [s0, s1, some (.ref a), some (enc h'), s4, s5, s6, some (.int way), some w, some dv, s10]) (o := eV 2) rfl
  have l2 := fun M => like_hist h' M hl
  simp [-eMT_eq, c, lk, hi, l2]
theorem st6_ok (e : M[a]? = some (tabO h)) (e2 : M[b]? = some (tabO k)) : st6 [s0, s1, some (.ref a), some (enc h), some (.ref b), some (enc k), s6, s7, s8, s9, s10] M = some (.nx [s0, s1, some (.ref a), some (enc h), some (.ref b), some (enc k), s6, s7, s8, s9, s10] M) := by
  have hi := mt_hist e2 (σ := [s0, s1, some (.ref a), some (enc h), some (.ref b), some (enc k), s6, s7, s8, s9, s10]) (o := eV 4) rfl
  have q1 := eqW_enc (α := Hist) M k k
  have q2 := eqW_enc (α := Hist) M h k
  have q3 := eq_tabs e e2
  simp [-eMT_eq, hi, q1, q2, q3]
theorem st7_ok (hl : h.ps.length ≤ 1000) (e : M[a]? = some (tabO h)) : st7 [s0, s1, some (.ref a), some (enc h), s4, s5, s6, s7, s8, s9, s10] M = some (.nx [s0, s1, some (.ref a), some (enc h), s4, s5, s6, s7, s8, s9, s10] M) := by
  have q1 := len_tab e hl
  have q2 := eq_tab_tup (k := h) e
  simp [gix0, q1, q2]
end
section
variable {ns : List Int} {s : Dr} {g : Mem} {a b : Nat} {h k : Hist} {s0 s6 s7 s8 s9 s10 : Option W}
/-- where the two tabs stand -/
def TabsAt (g : Mem) (a b : Nat) (h k : Hist) : Prop := g[a]? = some (tabO h) ∧ g[b]? = some (tabO k) ∧ a ≠ b
theorem TabsAt.app {g g1 : Mem} {a b : Nat} {h k : Hist} (t : TabsAt g a b h k) : TabsAt (g ++ g1) a b h k := by
  obtain ⟨t1, t2, t3⟩ := t
  refine ⟨?_, ?_, t3⟩
  · rw [List.getElem?_append_left (List.getElem?_eq_some_iff.mp t1).1]; exact t1
  · rw [List.getElem?_append_left (List.getElem?_eq_some_iff.mp t2).1]; exact t2
theorem st8_ok (t : TabsAt g a b h k) : ∃ s' g' b' k', (k' = h ∨ k' = k) ∧ TabsAt g' a b' h k' ∧ st8 [s0, some (.ref 2), some (.ref (a + 3)), some (enc h), some (.ref (b + 3)), some (enc k), s6, s7, s8, s9, s10] (TM ns s g) =
    some (.nx [s0, some (.ref 2), some (.ref (a + 3)), some (enc h), some (.ref (b' + 3)), some (enc k'), s6, s7, s8, s9, s10] (TM ns s' g')) := by
  obtain ⟨d, s', lt, dr⟩ := draw_at (ns := ns) (s := s) 5 5 (by decide) (by decide) (by decide)
  by_cases h0 : d = 0
  · subst h0
    have e : (TM ns s' g)[a + 3]? = some (tabO h) := t.1
    have cp := mt_copy e (σ := [s0, some (.ref 2), some (.ref (a + 3)), some (enc h), some (.ref (b + 3)), some (enc k), s6, s7, s8, s9, s10]) (o := eV 2) rfl
    refine ⟨s', g ++ [tabO h], g.length, h, .inl rfl, ⟨t.app.1, List.getElem?_concat_length, ?_⟩, ?_⟩
    · have := (List.getElem?_eq_some_iff.mp t.1).1
      omega
    · simp [-eMT_eq, dr, cp]
  · refine ⟨s', g, b, k, .inr rfl, t, ?_⟩
    have : ¬ (d : Int) = 0 := by omega
    simp [-eMT_eq, dr, h0]
theorem st9_ok (t : TabsAt g a b h k) : ∃ s' a' b' h' k', (h' = h ∧ k' = k ∨ h' = k ∧ k' = h) ∧ TabsAt g a' b' h' k' ∧ st9 [s0, some (.ref 2), some (.ref (a + 3)), some (enc h), some (.ref (b + 3)), some (enc k), s6, s7, s8, s9, s10] (TM ns s g) =
    some (.nx [s0, some (.ref 2), some (.ref (a' + 3)), some (enc h'), some (.ref (b' + 3)), some (enc k'), s6, s7, s8, s9, s10] (TM ns s' g)) := by
  obtain ⟨d, s', lt, dr⟩ := draw_at (ns := ns) (s := s) 5 5 (by decide) (by decide) (by decide)
  by_cases h0 : d = 0
  · subst h0
    refine ⟨s', b, a, k, h, .inr ⟨rfl, rfl⟩, ⟨t.2.1, t.1, t.2.2.symm⟩, ?_⟩
    simp [dr]
  · refine ⟨s', a, b, h, k, .inl ⟨rfl, rfl⟩, t, ?_⟩
    simp [dr, h0]
end
end BF

set_option Elab.async false
set_option linter.all false
set_option autoImplicit false
set_option maxRecDepth 10000
namespace BF
open PySem Enc
/-! _law_made -/
def F__law_made : Fn := fun ws M => match ws with
  | [w] => match toD M 40 w with
    | some _ => some (.str (if isPg w = true then "made" else "page"), M)
    | none => none
  | _ => none
theorem made_eq {M : Mem} {w : W} {d : PyData} (h : toD M 40 w = some d) : F__law_made [w] M = some (.str (if isPg w = true then "made" else "page"), M) := by
  unfold F__law_made
  simp only [h]
abbrev N__law_made : List Str := ["item", "e"]
def c__law_made : CS :=
  (sSeq (sTry (xExpr (xMk F_T_init [(eV 0)])) hdStr)
  (sRet (eL (.str "made"))))
theorem keeps__law_made : Keeps 2 c__law_made F__law_made := by
  refine KeepsP.keeps ?_
  intro ws M u M' hc hw e
  unfold F__law_made at e
  split at e
  · rename_i w
    split at e
    · rename_i d hd
      cases e
      have hn : (M ++ [MO.dT .tab []])[M.length]? = some (.dT .tab []) := List.getElem?_concat_length
      have hd' : toD (M ++ [MO.dT .tab []]) 40 w = some d := toD_app 40 w d hd
      have ea : (eArgs [eV 0]) [some w, none] M = some ([w], M) := by simp
      by_cases hp : isPg w = true
      · obtain ⟨x, rfl⟩ : ∃ x, w = .str x := by cases w <;> first | exact ⟨_, rfl⟩ | cases hp
        have q := init_ok hn (x := x) hp
        have q2 : mkX F_T_init [.str x] M = some (.ok (.ref M.length) ((M ++ [MO.dT .tab []]).set M.length (tabO ⟨[x], 0⟩))) := by
          unfold mkX
          rw [q]
        refine ⟨[tabO ⟨[x], 0⟩], .inl ?_, Nat.le_refl _, hc, rfl⟩
        rw [if_pos hp]
        have q3 : (sTry (xExpr (xMk F_T_init [(eV 0)])) hdStr) [some (.str x), none] M = some (.nx [some (.str x), none] (M ++ [tabO ⟨[x], 0⟩])) := by
          unfold sTry xExpr xMk
          simp only [ea, Option.bind_some, q2]
          simp
        show c__law_made [some (.str x), none] M = _
        unfold c__law_made
        rw [sSeq_eq, q3]
        rfl
      · have hp' : isPg w = false := by simpa using hp
        have q := init_er hn hd' hp'
        have q2 : mkX F_T_init [w] M = some (.er "InvalidPage" (M ++ [MO.dT .tab []])) := by
          unfold mkX
          rw [q]
        refine ⟨[MO.dT .tab []], .inl ?_, Nat.le_refl _, hc, rfl⟩
        rw [if_neg hp]
        have q3 : (sTry (xExpr (xMk F_T_init [(eV 0)])) hdStr) [some w, none] M = some (.rt (.str "page") (M ++ [MO.dT .tab []])) := by
          unfold sTry xExpr xMk
          simp only [ea, Option.bind_some, q2]
          rfl
        show c__law_made [some w, none] M = _
        unfold c__law_made
        rw [sSeq_eq, q3]
        rfl
    · cases e
  · cases e
end BF

set_option Elab.async false
set_option linter.all false
set_option autoImplicit false
set_option maxRecDepth 10000
namespace BF
open PySem Enc
/-! the law -/
abbrev b1_law_k20 : CS :=
  (sSeq (sSet (gV 7) (e2 gIx (eLst [(eL (.int 0)), (eL (.int 0)), (eL (.int 1)), (eL (.int 1)), (eL (.int 2)), (eL (.int 3))]) (eN F__law_draw [(eV 1), (eL (.int 6))])))
  (sSeq (sSet (gV 8) (e2 gIx (eLst [(eL (.str "a")), (eL (.str "b")), (eL (.str "zzzzzzzz")), (eL (.str "A")), (eL (.str "")), (eL .non), (eL (.int 5))]) (eN pMax [(eL (.int 0)), (e2 gSub (eN F__law_draw [(eV 1), (eL (.int 10))]) (eL (.int 3)))])))
  (sSeq (sIf (tB (e2 gEq (eV 7) (eL (.int 3)))) (sSet (gV 8) (e2 gIx (eLst [(eN F__law_draw [(eV 1), (eN pLen [(e2 gIx (eV 3) (eL (.int 0)))])]), (eN pLen [(e2 gIx (eV 3) (eL (.int 0)))]), (e1 gNeg (eL (.int 1))), (eL (.bl true)), (eL (.str "0"))]) (eN pMax [(eL (.int 0)), (e2 gSub (eN F__law_draw [(eV 1), (eL (.int 9))]) (eL (.int 4)))]))) sNil)
  (sSeq (sSet (gT [(gV 3), (gV 9)]) (eN F__law_due [(eV 3), (eV 7), (eV 8)]))
  (sSeq (sIf (tOr (tNot (tB (eN (F__law_like 8) [(eN F__law_call [(eV 2), (eV 7), (eV 8)]), (eV 9)]))) (tNot (tB (eN (F__law_like 8) [(eMT "state" F_T_history (eV 2) []), (eV 3)])))) (sRet (eL (.bl false))) sNil)
  (sSeq (sIf (tOr (tB (e2 gNe (eMT "state" F_T_history (eV 4) []) (eV 5))) (tB (e2 gNe (e2 (gEqT "state" F_T_eq) (eV 2) (eV 4)) (e2 gEq (eV 3) (eV 5))))) (sRet (eL (.bl false))) sNil)
  (sSeq (sIf (tOr (tB (e2 gNe (eN (pLenT "state" F_T_len) [(eV 2)]) (eN pLen [(e2 gIx (eV 3) (eL (.int 0)))]))) (tB (e2 (gEqT "state" F_T_eq) (eV 2) (eV 3)))) (sRet (eL (.bl false))) sNil)
  (sSeq (sIf (tB (e2 gEq (eN F__law_draw [(eV 1), (eL (.int 5))]) (eL (.int 0)))) (sPar [4, 5] [(eMT "state" F_T_copy (eV 2) []), (eV 3)]) sNil)
  (sIf (tB (e2 gEq (eN F__law_draw [(eV 1), (eL (.int 5))]) (eL (.int 0)))) (sSet (gT [(gV 2), (gV 3), (gV 4), (gV 5)]) (eTup [(eV 4), (eV 5), (eV 2), (eV 3)])) sNil)))))))))
abbrev N_law_k20 : List Str := ["script", "tape", "tab", "history", "twin", "kept", "turn", "way", "item", "due", "bad"]
def c_law_k20 : CS :=
  (sSeq (sSet (gV 1) (eLst [(eN pList [(eV 0)]), (eL (.int 0)), (eL (.int 0))]))
  (sSeq (sPar [2, 3] [(eN (okX (mkX F_T_init)) [(eL (.str "a"))]), (eTup [(eTup [(eL (.str "a"))]), (eL (.int 0))])])
  (sSeq (sPar [4, 5] [(eMT "state" F_T_copy (eV 2) []), (eV 3)])
  (sSeq (sFor (iRange1 (eL (.int 50))) (gV 6) (sSeq (sSet (gV 7) (e2 gIx (eLst [(eL (.int 0)), (eL (.int 0)), (eL (.int 1)), (eL (.int 1)), (eL (.int 2)), (eL (.int 3))]) (eN F__law_draw [(eV 1), (eL (.int 6))])))
  (sSeq (sSet (gV 8) (e2 gIx (eLst [(eL (.str "a")), (eL (.str "b")), (eL (.str "zzzzzzzz")), (eL (.str "A")), (eL (.str "")), (eL .non), (eL (.int 5))]) (eN pMax [(eL (.int 0)), (e2 gSub (eN F__law_draw [(eV 1), (eL (.int 10))]) (eL (.int 3)))])))
  (sSeq (sIf (tB (e2 gEq (eV 7) (eL (.int 3)))) (sSet (gV 8) (e2 gIx (eLst [(eN F__law_draw [(eV 1), (eN pLen [(e2 gIx (eV 3) (eL (.int 0)))])]), (eN pLen [(e2 gIx (eV 3) (eL (.int 0)))]), (e1 gNeg (eL (.int 1))), (eL (.bl true)), (eL (.str "0"))]) (eN pMax [(eL (.int 0)), (e2 gSub (eN F__law_draw [(eV 1), (eL (.int 9))]) (eL (.int 4)))]))) sNil)
  (sSeq (sSet (gT [(gV 3), (gV 9)]) (eN F__law_due [(eV 3), (eV 7), (eV 8)]))
  (sSeq (sIf (tOr (tNot (tB (eN (F__law_like 8) [(eN F__law_call [(eV 2), (eV 7), (eV 8)]), (eV 9)]))) (tNot (tB (eN (F__law_like 8) [(eMT "state" F_T_history (eV 2) []), (eV 3)])))) (sRet (eL (.bl false))) sNil)
  (sSeq (sIf (tOr (tB (e2 gNe (eMT "state" F_T_history (eV 4) []) (eV 5))) (tB (e2 gNe (e2 (gEqT "state" F_T_eq) (eV 2) (eV 4)) (e2 gEq (eV 3) (eV 5))))) (sRet (eL (.bl false))) sNil)
  (sSeq (sIf (tOr (tB (e2 gNe (eN (pLenT "state" F_T_len) [(eV 2)]) (eN pLen [(e2 gIx (eV 3) (eL (.int 0)))]))) (tB (e2 (gEqT "state" F_T_eq) (eV 2) (eV 3)))) (sRet (eL (.bl false))) sNil)
  (sSeq (sIf (tB (e2 gEq (eN F__law_draw [(eV 1), (eL (.int 5))]) (eL (.int 0)))) (sPar [4, 5] [(eMT "state" F_T_copy (eV 2) []), (eV 3)]) sNil)
  (sIf (tB (e2 gEq (eN F__law_draw [(eV 1), (eL (.int 5))]) (eL (.int 0)))) (sSet (gT [(gV 2), (gV 3), (gV 4), (gV 5)]) (eTup [(eV 4), (eV 5), (eV 2), (eV 3)])) sNil))))))))))
  (sSeq (sSet (gV 10) (eLst [(eL .non), (eL (.str "")), (eL (.str "A")), (eL (.str "abcdefghi")), (eL (.int 5)), (eTup [(eL (.str "a"))])]))
  (sRet (eAnd (e2 gEq (eLc (iLst (eV 10)) (gV 8) tTrue (eN F__law_made [(eV 8)]) [8]) (e2 gRepL (eLst [(eL (.str "page"))]) (eL (.int 6)))) (e2 gEq (eN F__law_made [(eL (.str "abcdefgh"))]) (eL (.str "made"))))))))))
theorem turn_ok {ns : List Int} {s : Dr} {g : Mem} {a b m : Nat} {h k : Hist} {s0 s6 s7 s8 s9 s10 : Option W} (t : TabsAt g a b h k) (vh : h.at_ < h.ps.length) (vk : k.at_ < k.ps.length) (lh : h.ps.length ≤ m) (lk : k.ps.length ≤ m) (hm : m + 1 ≤ 1000) :
    ∃ s' g' a' b' h' k' s7' s8' s9', TabsAt g' a' b' h' k' ∧ h'.at_ < h'.ps.length ∧ k'.at_ < k'.ps.length ∧ h'.ps.length ≤ m + 1 ∧ k'.ps.length ≤ m + 1 ∧
      b1_law_k20 [s0, some (.ref 2), some (.ref (a + 3)), some (enc h), some (.ref (b + 3)), some (enc k), s6, s7, s8, s9, s10] (TM ns s g) =
        some (.nx [s0, some (.ref 2), some (.ref (a' + 3)), some (enc h'), some (.ref (b' + 3)), some (enc k'), s6, s7', s8', s9', s10] (TM ns s' g')) := by
  have v : valid h := ⟨vh, by omega⟩
  obtain ⟨s1, g1, way, ⟨w0, w3⟩, z1⟩ := st1_ok (ns := ns) (s := s) (g := g) (s0 := s0) (s2 := some (.ref (a + 3))) (s3 := some (enc h)) (s4 := some (.ref (b + 3))) (s5 := some (enc k)) (s6 := s6) (s7 := s7) (s8 := s8) (s9 := s9) (s10 := s10)
  obtain ⟨s2, g2, w, hw, z2⟩ := st2_ok (ns := ns) (s := s1) (g := g ++ g1) (s0 := s0) (s2 := some (.ref (a + 3))) (s3 := some (enc h)) (s4 := some (.ref (b + 3))) (s5 := some (enc k)) (s6 := s6) (s7 := some (.int way)) (s8 := s8) (s9 := s9) (s10 := s10)
  obtain ⟨s3, g3, w', hw', z3⟩ := st3_ok (ns := ns) (s := s2) (g := g ++ g1 ++ g2) (s0 := s0) (s2 := some (.ref (a + 3))) (s4 := some (.ref (b + 3))) (s5 := some (enc k)) (s6 := s6) (s9 := s9) (s10 := s10) (way := way) v hw
  have t3 : TabsAt (g ++ g1 ++ g2 ++ g3) a b h k := t.app.app.app
  have z4 := st4_ok (M := TM ns s3 (g ++ g1 ++ g2 ++ g3)) (s0 := s0) (s1 := some (.ref 2)) (s2 := some (.ref (a + 3))) (s4 := some (.ref (b + 3))) (s5 := some (enc k)) (s6 := s6) (s9 := s9) (s10 := s10) v w0 w3 hw'
  have cd := call_due (M := TM ns s3 (g ++ g1 ++ g2 ++ g3)) (n := a + 3) t3.1 v w0 w3 hw'
  have ld := fun M => like_due h way w' M
  obtain ⟨r1, r2⟩ := due_room way w' vh
  generalize (dueF h way w').1 = h1 at *
  generalize (dueF h way w').2 = dv at *
  have l1 : h1.ps.length ≤ 1000 := by omega
  have z5 := st5_ok (a := a + 3) (s0 := s0) (s1 := some (.ref 2)) (s4 := some (.ref (b + 3))) (s5 := some (enc k)) (s6 := s6) (s10 := s10) (way := way) (w := w') l1 (show (TM ns s3 (g ++ g1 ++ g2 ++ g3))[a + 3]? = some (tabO h) from t3.1) cd ld
  rw [tm_set] at z5
  have t5 : TabsAt ((g ++ g1 ++ g2 ++ g3).set a (tabO h1)) a b h1 k := by
    refine ⟨List.getElem?_set_self (List.getElem?_eq_some_iff.mp t3.1).1, ?_, t3.2.2⟩
    rw [List.getElem?_set_ne t3.2.2]; exact t3.2.1
  generalize (g ++ g1 ++ g2 ++ g3).set a (tabO h1) = G at *
  have z6 := st6_ok (M := TM ns s3 G) (a := a + 3) (b := b + 3) (s0 := s0) (s1 := some (.ref 2)) (s6 := s6) (s7 := some (.int way)) (s8 := some w') (s9 := some dv) (s10 := s10) (h := h1) (k := k) t5.1 t5.2.1
  have z7 := st7_ok (M := TM ns s3 G) (a := a + 3) (s0 := s0) (s1 := some (.ref 2)) (s4 := some (.ref (b + 3))) (s5 := some (enc k)) (s6 := s6) (s7 := some (.int way)) (s8 := some w') (s9 := some dv) (s10 := s10) (h := h1) l1 t5.1
  obtain ⟨s8', G8, b8, k8, hk8, t8, z8⟩ := st8_ok (ns := ns) (s := s3) (s0 := s0) (s6 := s6) (s7 := some (.int way)) (s8 := some w') (s9 := some dv) (s10 := s10) t5
  obtain ⟨s9', a9, b9, h9, k9, hk9, t9, z9⟩ := st9_ok (ns := ns) (s := s8') (s0 := s0) (s6 := s6) (s7 := some (.int way)) (s8 := some w') (s9 := some dv) (s10 := s10) t8
  have vk8 : k8.at_ < k8.ps.length ∧ k8.ps.length ≤ m + 1 := by
    rcases hk8 with rfl | rfl
    · exact ⟨r1, by omega⟩
    · exact ⟨vk, by omega⟩
  have f9 : h9.at_ < h9.ps.length ∧ k9.at_ < k9.ps.length ∧ h9.ps.length ≤ m + 1 ∧ k9.ps.length ≤ m + 1 := by
    rcases hk9 with ⟨rfl, rfl⟩ | ⟨rfl, rfl⟩
    · exact ⟨r1, vk8.1, by omega, vk8.2⟩
    · exact ⟨vk8.1, r1, vk8.2, by omega⟩
  refine ⟨s9', G8, a9, b9, h9, k9, some (.int way), some w', some dv, t9, f9.1, f9.2.1, f9.2.2.1, f9.2.2.2, ?_⟩
  show (sSeq st1 (sSeq st2 (sSeq st3 (sSeq st4 (sSeq st5 (sSeq st6 (sSeq st7 (sSeq st8 st9)))))))) _ _ = _
  rw [sSeq_eq, z1, Option.bind_some]
  simp only []
  rw [sSeq_eq, z2, Option.bind_some]
  simp only []
  rw [sSeq_eq, z3, Option.bind_some]
  simp only []
  rw [sSeq_eq, z4, Option.bind_some]
  simp only []
  rw [sSeq_eq, z5, Option.bind_some]
  simp only []
  rw [sSeq_eq, z6, Option.bind_some]
  simp only []
  rw [sSeq_eq, z7, Option.bind_some]
  simp only []
  rw [sSeq_eq, z8, Option.bind_some]
  simp only []
  exact z9
abbrev bads : List W := [.non, .str "", .str "A", .str "abcdefghi", .int 5, .tup [.str "a"]]
def six : List Str := ["page", "page", "page", "page", "page", "page"]
theorem six_eq : six.map W.str = [.str "page", .str "page", .str "page", .str "page", .str "page", .str "page"] := rfl
theorem made_bad {w : W} (hw : w ∈ bads) (M : Mem) : F__law_made [w] M = some (.str "page", M) := by
  have key : ∀ (w : W) (d : PyData), toD M 40 w = some d → isPg w = false → F__law_made [w] M = some (.str "page", M) := fun w d h1 h2 => by
    rw [made_eq h1, h2]
    rfl
  simp only [bads, List.mem_cons, List.not_mem_nil, or_false] at hw
  rcases hw with rfl | rfl | rfl | rfl | rfl | rfl
  · exact key _ .none rfl rfl
  · exact key _ (.str "") rfl (by decide +kernel)
  · exact key _ (.str "A") rfl (by decide +kernel)
  · exact key _ (.str "abcdefghi") rfl (by decide +kernel)
  · exact key _ (.int 5) rfl rfl
  · exact key _ (.tuple [.str "a"]) rfl rfl
theorem made_good (M : Mem) : F__law_made [.str "abcdefgh"] M = some (.str "made", M) := by
  rw [made_eq (d := .str "abcdefgh") rfl, show isPg (.str "abcdefgh") = true by decide +kernel]
  rfl
/-- what stands behind the turns -/
theorem last_ok {M : Mem} {s0 s1 s2 s3 s4 s5 s6 s7 s8 s9 s10 : Option W} : ∃ g, (sSeq (sSet (gV 10) (eLst [(eL .non), (eL (.str "")), (eL (.str "A")), (eL (.str "abcdefghi")), (eL (.int 5)), (eTup [(eL (.str "a"))])]))
    (sRet (eAnd (e2 gEq (eLc (iLst (eV 10)) (gV 8) tTrue (eN F__law_made [(eV 8)]) [8]) (e2 gRepL (eLst [(eL (.str "page"))]) (eL (.int 6)))) (e2 gEq (eN F__law_made [(eL (.str "abcdefgh"))]) (eL (.str "made")))))) [s0, s1, s2, s3, s4, s5, s6, s7, s8, s9, s10] M =
      some (.rt (.bl true) (M ++ g)) := by
  have key := lcL_pure (gd := fun M' => decide (M'[M.length]? = some (.lst bads))) (g := gV 8) (e := eN F__law_made [(eV 8)]) (vs := [8]) (σ := [s0, s1, s2, s3, s4, s5, s6, s7, s8, s9, some (.ref M.length)]) bads (fun _ => .str "page") (M ++ [.lst bads]) [] (by simp) (fun l => by simp) (fun w hw l => by
    refine ⟨_, rfl, ?_⟩
    have := made_bad hw (M ++ [.lst bads] ++ [.lst l])
    simp only [wipe, eN_eq, eArgs_cons, eArgs_nil]
    rw [show (eV 8) (List.set (List.set [s0, s1, s2, s3, s4, s5, s6, s7, s8, s9, some (.ref M.length)] 8 none) 8 (some w)) (M ++ [.lst bads] ++ [.lst l]) = some (w, M ++ [.lst bads] ++ [.lst l]) from rfl]
    simp only [Option.bind_some]
    exact this)
  have q := eqW_lst (α := Str) (M ++ [.lst bads] ++ [.lst (six.map W.str)] ++ [.lst [.str "page"]] ++ [.lst (six.map W.str)]) (M.length + 1) (M.length + 2 + 1) six six (by simp; try rfl) (by
    rw [List.append_assoc, List.append_assoc, List.append_assoc, List.getElem?_append_right (by omega), show M.length + 2 + 1 - M.length = 3 by omega]
    rfl)
  refine ⟨[.lst bads] ++ [.lst (six.map W.str)] ++ [.lst [.str "page"]] ++ [.lst (six.map W.str)], ?_⟩
  have mg := fun M => made_good M
  simp [bads] at key q
  rw [six_eq] at q
  rw [six_eq]
  simp [key, q, mg, bads]
theorem keeps_law_k20 : Keeps 11 c_law_k20 lawF := by
  refine keeps_lawT fun ns hl => ?_
  have key := forL_ind (gd := gdT) (g := gV 6) (body := b1_law_k20) (rangeW 0 50) (fun i σ M => ∃ s g a b h k s6 s7 s8 s9, M = TM ns s g ∧ σ = [some (.ref 0), some (.ref 2), some (.ref (a + 3)), some (enc h), some (.ref (b + 3)), some (enc k), s6, s7, s8, s9, none] ∧ TabsAt g a b h k ∧
      h.at_ < h.ps.length ∧ k.at_ < k.ps.length ∧ h.ps.length ≤ i + 1 ∧ k.ps.length ≤ i + 1)
    (σ := [some (.ref 0), some (.ref 2), some (.ref 3), some (enc (⟨["a"], 0⟩ : Hist)), some (.ref 4), some (enc (⟨["a"], 0⟩ : Hist)), none, none, none, none, none]) (M := TM ns (0, 0) [tabO ⟨["a"], 0⟩, tabO ⟨["a"], 0⟩])
    ⟨(0, 0), _, 0, 1, ⟨["a"], 0⟩, ⟨["a"], 0⟩, none, none, none, none, rfl, rfl, ⟨rfl, rfl, by decide⟩, by decide, by decide, by decide, by decide⟩ (fun _ _ _ _ => rfl) (by
    rintro i w σ M hw ⟨s, g, a, b, h, k, s6, s7, s8, s9, rfl, rfl, t, vh, vk, lh, lk⟩
    obtain ⟨hi, rfl⟩ := rangeW_get hw
    obtain ⟨s', g', a', b', h', k', s7', s8', s9', t', f1, f2, f3, f4, e⟩ := turn_ok (ns := ns) (s := s) (s0 := some (.ref 0)) (s6 := some (.int (0 + (i : Nat)))) (s7 := s7) (s8 := s8) (s9 := s9) (s10 := none) t vh vk lh lk (by omega)
    exact ⟨_, rfl, _, _, .inl e, s', g', a', b', h', k', _, s7', s8', s9', rfl, rfl, t', f1, f2, f3, f4⟩)
  obtain ⟨σ', M', e, s, g, a, b, h, k, s6, s7, s8, s9, rfl, rfl, _⟩ := key
  obtain ⟨g2, e2⟩ := last_ok (M := TM ns s g) (s0 := some (.ref 0)) (s1 := some (.ref 2)) (s2 := some (.ref (a + 3))) (s3 := some (enc h)) (s4 := some (.ref (b + 3))) (s5 := some (enc k)) (s6 := s6) (s7 := s7) (s8 := s8) (s9 := s9) (s10 := none)
  refine ⟨s, g ++ g2, ?_⟩
  have mk := make_a (TM ns (0, 0) [])
  have cp := mt_copy (M := TM ns (0, 0) [tabO ⟨["a"], 0⟩]) (n := 3) (h := ⟨["a"], 0⟩) rfl (σ := [some (.ref 0), some (.ref 2), some (.ref 3), some (enc (⟨["a"], 0⟩ : Hist)), none, none, none, none, none, none, none]) (o := eV 2) rfl
  have z1 : (sPar [2, 3] [(eN (okX (mkX F_T_init)) [(eL (.str "a"))]), (eTup [(eTup [(eL (.str "a"))]), (eL (.int 0))])]) [some (.ref 0), some (.ref 2), none, none, none, none, none, none, none, none, none] (TM ns (0, 0) []) =
      some (.nx [some (.ref 0), some (.ref 2), some (.ref 3), some (enc (⟨["a"], 0⟩ : Hist)), none, none, none, none, none, none, none] (TM ns (0, 0) [tabO ⟨["a"], 0⟩])) := by
    rw [enc_hist]
    simp [mk]
  have z2 : (sPar [4, 5] [(eMT "state" F_T_copy (eV 2) []), (eV 3)]) [some (.ref 0), some (.ref 2), some (.ref 3), some (enc (⟨["a"], 0⟩ : Hist)), none, none, none, none, none, none, none] (TM ns (0, 0) [tabO ⟨["a"], 0⟩]) =
      some (.nx [some (.ref 0), some (.ref 2), some (.ref 3), some (enc (⟨["a"], 0⟩ : Hist)), some (.ref 4), some (enc (⟨["a"], 0⟩ : Hist)), none, none, none, none, none] (TM ns (0, 0) [tabO ⟨["a"], 0⟩, tabO ⟨["a"], 0⟩])) := by
    simp [-eMT_eq, cp]
  unfold c_law_k20
  refine (law_tape (n := 9) hl).trans ?_
  show (sSeq _ _) [some (.ref 0), some (.ref 2), none, none, none, none, none, none, none, none, none] (TM ns (0, 0) []) = _
  rw [sSeq_eq, z1, Option.bind_some]
  simp only []
  rw [sSeq_eq, z2, Option.bind_some]
  simp only []
  have z3 : (sFor (iRange1 (eL (.int 50))) (gV 6) b1_law_k20) [some (.ref 0), some (.ref 2), some (.ref 3), some (enc (⟨["a"], 0⟩ : Hist)), some (.ref 4), some (enc (⟨["a"], 0⟩ : Hist)), none, none, none, none, none] (TM ns (0, 0) [tabO ⟨["a"], 0⟩, tabO ⟨["a"], 0⟩]) =
      some (.nx [some (.ref 0), some (.ref 2), some (.ref (a + 3)), some (enc h), some (.ref (b + 3)), some (enc k), s6, s7, s8, s9, none] (TM ns s g)) := by
    have k50 : small62 50 = true := by decide
    rw [sFor_eq, iRange1_eq]
    simp only [eL_eq, Option.bind_some, k50, if_true]
    exact e
  rw [sSeq_eq, z3, Option.bind_some]
  simp only []
  rw [e2, tm_app]
end BF

namespace BF
open PySem PySem.Spec
open PyProof.Rows L2
/-! ### the text of k20 -/
def topS (i : Nat) : Stmt := PySem.Challenge.pw_backforward_k20_tabs_call_by_call.main.body.getD i (.Pass ⟨0, 0, 0, 0⟩)
abbrev s_is_page : Stmt := topS 8
theorem sc_is_page : FnScope N_is_page ["value"] (defScope s_is_page) := ⟨rfl, rfl, rfl, by decide +kernel, rfl, by decide +kernel, by decide +kernel⟩
theorem bi_is_page : BindsAll "is_page" s_is_page ["value"] := fun _ _ _ _ _ _ us hl => match us, hl with | [_], _ => rfl
abbrev s_T_init : Stmt := inClass (topS 12) 0
theorem sc_T_init : FnScope N_T_init ["self", "page"] (defScope s_T_init) := ⟨rfl, rfl, rfl, by decide +kernel, rfl, by decide +kernel, by decide +kernel⟩
theorem bi_T_init : BindsAllM "__init__" "Tab.__init__" s_T_init ["self", "page"] := fun _ _ _ _ _ _ us hl => match us, hl with | [_, _], _ => rfl
abbrev s_T_copy : Stmt := inClass (topS 12) 6
theorem sc_T_copy : FnScope N_T_copy ["self"] (defScope s_T_copy) := ⟨rfl, rfl, rfl, by decide +kernel, rfl, by decide +kernel, by decide +kernel⟩
theorem bi_T_copy : BindsAllM "copy" "Tab.copy" s_T_copy ["self"] := fun _ _ _ _ _ _ us hl => match us, hl with | [_], _ => rfl
abbrev s__law_draw : Stmt := topS 14
theorem sc__law_draw : FnScope N__law_draw ["tape", "many"] (defScope s__law_draw) := ⟨rfl, rfl, rfl, by decide +kernel, rfl, by decide +kernel, by decide +kernel⟩
theorem bi__law_draw : BindsAll "_law_draw" s__law_draw ["tape", "many"] := fun _ _ _ _ _ _ us hl => match us, hl with | [_, _], _ => rfl
abbrev s__law_step : Stmt := topS 18
theorem sc__law_step : FnScope N__law_step ["history", "action"] (defScope s__law_step) := ⟨rfl, rfl, rfl, by decide +kernel, rfl, by decide +kernel, by decide +kernel⟩
theorem bi__law_step : BindsAll "_law_step" s__law_step ["history", "action"] := fun _ _ _ _ _ _ us hl => match us, hl with | [_, _], _ => rfl
abbrev s__law_whole : Stmt := topS 15
theorem sc__law_whole : FnScope N__law_whole ["item"] (defScope s__law_whole) := ⟨rfl, rfl, rfl, by decide +kernel, rfl, by decide +kernel, by decide +kernel⟩
theorem bi__law_whole : BindsAll "_law_whole" s__law_whole ["item"] := fun _ _ _ _ _ _ us hl => match us, hl with | [_], _ => rfl
abbrev s__law_within : Stmt := topS 16
theorem sc__law_within : FnScope N__law_within ["item", "low", "high"] (defScope s__law_within) := ⟨rfl, rfl, rfl, by decide +kernel, rfl, by decide +kernel, by decide +kernel⟩
theorem bi__law_within : BindsAll "_law_within" s__law_within ["item", "low", "high"] := fun _ _ _ _ _ _ us hl => match us, hl with | [_, _, _], _ => rfl
abbrev s__law_due : Stmt := topS 21
theorem sc__law_due : FnScope N__law_due ["history", "way", "item"] (defScope s__law_due) := ⟨rfl, rfl, rfl, by decide +kernel, rfl, by decide +kernel, by decide +kernel⟩
theorem bi__law_due : BindsAll "_law_due" s__law_due ["history", "way", "item"] := fun _ _ _ _ _ _ us hl => match us, hl with | [_, _, _], _ => rfl
abbrev s__law_like : Stmt := topS 17
theorem sc__law_like : FnScope N__law_like ["one", "two"] (defScope s__law_like) := ⟨rfl, rfl, rfl, by decide +kernel, rfl, by decide +kernel, by decide +kernel⟩
theorem bi__law_like : BindsAll "_law_like" s__law_like ["one", "two"] := fun _ _ _ _ _ _ us hl => match us, hl with | [_, _], _ => rfl
abbrev s_after : Stmt := topS 10
theorem sc_after : FnScope N_after ["history", "action"] (defScope s_after) := ⟨rfl, rfl, rfl, by decide +kernel, rfl, by decide +kernel, by decide +kernel⟩
theorem bi_after : BindsAll "after" s_after ["history", "action"] := fun _ _ _ _ _ _ us hl => match us, hl with | [_, _], _ => rfl
abbrev s_T_visit : Stmt := inClass (topS 12) 1
theorem sc_T_visit : FnScope N_T_visit ["self", "page"] (defScope s_T_visit) := ⟨rfl, rfl, rfl, by decide +kernel, rfl, by decide +kernel, by decide +kernel⟩
theorem bi_T_visit : BindsAllM "visit" "Tab.visit" s_T_visit ["self", "page"] := fun _ _ _ _ _ _ us hl => match us, hl with | [_, _], _ => rfl
abbrev s_T_page : Stmt := inClass (topS 12) 4
theorem sc_T_page : FnScope N_T_page ["self"] (defScope s_T_page) := ⟨rfl, rfl, rfl, by decide +kernel, rfl, by decide +kernel, by decide +kernel⟩
theorem bi_T_page : BindsAllM "page" "Tab.page" s_T_page ["self"] := fun _ _ _ _ _ _ us hl => match us, hl with | [_], _ => rfl
abbrev s_T_back : Stmt := inClass (topS 12) 2
theorem sc_T_back : FnScope N_T_back ["self"] (defScope s_T_back) := ⟨rfl, rfl, rfl, by decide +kernel, rfl, by decide +kernel, by decide +kernel⟩
theorem bi_T_back : BindsAllM "back" "Tab.back" s_T_back ["self"] := fun _ _ _ _ _ _ us hl => match us, hl with | [_], _ => rfl
abbrev s_T_forward : Stmt := inClass (topS 12) 3
theorem sc_T_forward : FnScope N_T_forward ["self"] (defScope s_T_forward) := ⟨rfl, rfl, rfl, by decide +kernel, rfl, by decide +kernel, by decide +kernel⟩
theorem bi_T_forward : BindsAllM "forward" "Tab.forward" s_T_forward ["self"] := fun _ _ _ _ _ _ us hl => match us, hl with | [_], _ => rfl
abbrev s_is_index : Stmt := topS 9
theorem sc_is_index : FnScope N_is_index ["value", "count"] (defScope s_is_index) := ⟨rfl, rfl, rfl, by decide +kernel, rfl, by decide +kernel, by decide +kernel⟩
theorem bi_is_index : BindsAll "is_index" s_is_index ["value", "count"] := fun _ _ _ _ _ _ us hl => match us, hl with | [_, _], _ => rfl
abbrev s_T_go : Stmt := inClass (topS 12) 5
theorem sc_T_go : FnScope N_T_go ["self", "place"] (defScope s_T_go) := ⟨rfl, rfl, rfl, by decide +kernel, rfl, by decide +kernel, by decide +kernel⟩
theorem bi_T_go : BindsAllM "go" "Tab.go" s_T_go ["self", "place"] := fun _ _ _ _ _ _ us hl => match us, hl with | [_, _], _ => rfl
abbrev s__law_word : Stmt := topS 19
theorem sc__law_word : FnScope N__law_word ["e"] (defScope s__law_word) := ⟨rfl, rfl, rfl, by decide +kernel, rfl, by decide +kernel, by decide +kernel⟩
theorem bi__law_word : BindsAll "_law_word" s__law_word ["e"] := fun _ _ _ _ _ _ us hl => match us, hl with | [_], _ => rfl
abbrev s__law_call : Stmt := topS 20
theorem sc__law_call : FnScope N__law_call ["tab", "way", "item"] (defScope s__law_call) := ⟨rfl, rfl, rfl, by decide +kernel, rfl, by decide +kernel, by decide +kernel⟩
theorem bi__law_call : BindsAll "_law_call" s__law_call ["tab", "way", "item"] := fun _ _ _ _ _ _ us hl => match us, hl with | [_, _, _], _ => rfl
abbrev s_T_history : Stmt := inClass (topS 12) 7
theorem sc_T_history : FnScope N_T_history ["self"] (defScope s_T_history) := ⟨rfl, rfl, rfl, by decide +kernel, rfl, by decide +kernel, by decide +kernel⟩
theorem bi_T_history : BindsAllM "history" "Tab.history" s_T_history ["self"] := fun _ _ _ _ _ _ us hl => match us, hl with | [_], _ => rfl
abbrev s_T_eq : Stmt := inClass (topS 12) 9
theorem sc_T_eq : FnScope N_T_eq ["self", "other"] (defScope s_T_eq) := ⟨rfl, rfl, rfl, by decide +kernel, rfl, by decide +kernel, by decide +kernel⟩
theorem bi_T_eq : BindsAllM "__eq__" "Tab.__eq__" s_T_eq ["self", "other"] := fun _ _ _ _ _ _ us hl => match us, hl with | [_, _], _ => rfl
abbrev s_T_len : Stmt := inClass (topS 12) 8
theorem sc_T_len : FnScope N_T_len ["self"] (defScope s_T_len) := ⟨rfl, rfl, rfl, by decide +kernel, rfl, by decide +kernel, by decide +kernel⟩
theorem bi_T_len : BindsAllM "__len__" "Tab.__len__" s_T_len ["self"] := fun _ _ _ _ _ _ us hl => match us, hl with | [_], _ => rfl
abbrev s__law_made : Stmt := topS 22
theorem sc__law_made : FnScope N__law_made ["item"] (defScope s__law_made) := ⟨rfl, rfl, rfl, by decide +kernel, rfl, by decide +kernel, by decide +kernel⟩
theorem bi__law_made : BindsAll "_law_made" s__law_made ["item"] := fun _ _ _ _ _ _ us hl => match us, hl with | [_], _ => rfl
abbrev s_law : Stmt := topS 23
theorem sc_law : FnScope N_law_k20 ["script"] (defScope s_law) := ⟨rfl, rfl, rfl, by decide +kernel, rfl, by decide +kernel, by decide +kernel⟩
theorem bi_law : BindsAll "law" s_law ["script"] := fun _ _ _ _ _ _ us hl => match us, hl with | [_], _ => rfl
section
variable {P : Program} {w : World} {K : PySem.W.Frag} {mg : Str → Option Value} {base : Heap} {Ch C1 C2 C3 C4 : Addr}
theorem kn_is_page (D_is_page : DefAt K mg "is_page" s_is_page) (z_isinstance : mg "isinstance" = none) (z_str : mg "str" = none) (z_len : mg "len" = none) (z_all : mg "all" = none) (m_LETTERS : GlobV mg "LETTERS" (.str "abcdefghijklmnopqrstuvwxyz")) : Known P w K mg base 2 "is_page" ["value"] F_is_page :=
  known D_is_page sc_is_page bi_is_page keeps_is_page fun f cdv A outer s H E hr =>
  (ss_one (s_ret (r_and (r_isi "str" (by simp) (by rfl) z_isinstance (by rfl) z_str (by decide +kernel) (r_var 0)) (r_and (r_chain op_le l_le op_le l_le r_int (r_callB call_len_str n_lenS (by rfl) z_len (by decide +kernel) (a_cons (r_var 0) a_nil)) r_int) (r_one (r_callB (cr_all rfl) n_all (by rfl) z_all (by decide +kernel) (a_cons (r_lc (own := [("letter", 1)]) sc_is_page.nd (i_str (r_var 0)) (by kernel_rfl) (fun _ _ _ _ _ => (gw_name 1 sc_is_page.nd)) (fun _ _ _ _ _ => ts_nil) (fun _ _ _ _ _ => (r_cmp op_inS l_inS (r_var 1) (r_globS (by rfl) m_LETTERS) (by rfl)))) a_nil)))))))
theorem kn_T_init (D_T_init : MethAt K mg "__init__" "Tab.__init__" s_T_init) (G_is_page : Known P w K mg base 2 "is_page" ["value"] F_is_page) (h_T : TabC K mg "state") (h_X : ErrC K mg "InvalidPage" C1) : KnownMX P w K mg base 4 "__init__" ["self", "page"] F_T_init :=
  knownMX D_T_init sc_T_init bi_T_init h_X rfl keeps_T_init (fun _ _ _ _ _ _ _ => rfl) fun f cdv A outer s H E hr => ⟨(t_not (t_val (r_callK G_is_page (hr.mono (by decide)) (by rfl) (a_cons (r_var 1) a_nil)))),
  (ss_one (s_fld h_T (r_var 0) (r_tup (a_cons (r_tup (a_cons (r_var 1) a_nil)) (a_cons r_int a_nil)))))⟩
theorem kn_T_copy (D_T_copy : MethAt K mg "copy" "Tab.copy" s_T_copy) (G_T_init : KnownMX P w K mg base 4 "__init__" ["self", "page"] F_T_init) (h_M : MkC K mg "Tab") (h_T : TabC K mg "state") : KnownM P w K mg base 6 "copy" ["self"] F_T_copy :=
  knownM D_T_copy sc_T_copy bi_T_copy keeps_T_copy fun f cdv A outer s H E hr =>
  (ss_cons (s_set 1 sc_T_copy.nd (r_mk h_M G_T_init (hr.mono (by decide)) (by rfl) (a_cons r_str a_nil)))
  (ss_cons (s_fld h_T (r_var 1) (r_fld h_T (r_var 0)))
  (ss_one (s_ret (r_var 1)))))
theorem kn__law_draw (D__law_draw : DefAt K mg "_law_draw" s__law_draw) (z_len : mg "len" = none) : Known P w K mg base 2 "_law_draw" ["tape", "many"] F__law_draw :=
  known D__law_draw sc__law_draw bi__law_draw keeps__law_draw fun f cdv A outer s H E hr =>
  (ss_cons (s_set 2 sc__law_draw.nd r_int)
  (ss_cons (s_if (t_cmp op_lt l_lt (r_ix ix_seq l_ix (r_var 0) r_int) (r_var 1) (nomark _)) (ss_cons (s_set 3 sc__law_draw.nd r_int)
  (ss_cons (s_if (t_cmp op_gt l_gt (r_callB call_len_seq n_len (by rfl) z_len (by decide +kernel) (a_cons (r_ix ix_seq l_ix (r_var 0) r_int) a_nil)) r_int (nomark _)) (ss_one (s_set 3 sc__law_draw.nd (r_ix ix_seq l_ix (r_ix ix_seq l_ix (r_var 0) r_int) (r_op op_mod l_mod (r_ix ix_seq l_ix (r_var 0) r_int) (r_callB call_len_seq n_len (by rfl) z_len (by decide +kernel) (a_cons (r_ix ix_seq l_ix (r_var 0) r_int) a_nil)))))) ss_nil)
  (ss_cons (s_if (t_w (w_or (t_cmp op_ge l_ge (r_ix ix_seq l_ix (r_var 0) r_int) (r_callB call_len_seq n_len (by rfl) z_len (by decide +kernel) (a_cons (r_ix ix_seq l_ix (r_var 0) r_int) a_nil)) (nomark _)) (w_one (t_cmp op_lt l_lt (r_var 3) (r_op op_pow l_pow r_int r_int) (nomark _))))) (ss_cons (s_set 3 sc__law_draw.nd (r_op op_mod l_mod (r_op o_add l_add (r_var 3) (r_op op_mul l_mul r_int (r_ix ix_seq l_ix (r_var 0) r_int))) (r_var 2)))
  (ss_cons (s_set 3 sc__law_draw.nd (r_op op_mod l_mod (r_op o_add l_add (r_op o_add l_add (r_op op_mul l_mul (r_var 3) (r_var 3)) (r_op op_mul l_mul r_int (r_var 3))) r_int) (r_var 2)))
  (ss_one (s_set 3 sc__law_draw.nd (r_op op_mod l_mod (r_op o_add l_add (r_op op_mul l_mul (r_var 3) (r_var 3)) r_int) (r_var 2)))))) ss_nil)
  (ss_cons (s_put set_list p_lst (r_op o_add l_add (r_ix ix_seq l_ix (r_var 0) r_int) r_int) (r_var 0) r_int)
  (ss_one (s_put set_list p_lst (r_var 3) (r_var 0) r_int)))))) ss_nil)
  (ss_cons (s_set 4 sc__law_draw.nd (r_op op_mod l_mod (r_ix ix_seq l_ix (r_var 0) r_int) (r_var 1)))
  (ss_cons (s_put set_list p_lst (r_op op_fdivW l_div (r_ix ix_seq l_ix (r_var 0) r_int) (r_var 1)) (r_var 0) r_int)
  (ss_one (s_ret (r_var 4)))))))
theorem kn__law_step (D__law_step : DefAt K mg "_law_step" s__law_step) (z_list : mg "list" = none) (z_tuple : mg "tuple" = none) (z_len : mg "len" = none) : Known P w K mg base 2 "_law_step" ["history", "action"] F__law_step :=
  known D__law_step sc__law_step bi__law_step keeps__law_step fun f cdv A outer s H E hr =>
  (ss_cons (s_asg (r_var 0) (g_tup rfl (gs_cons (g_name 2 sc__law_step.nd) (gs_cons (g_name 3 sc__law_step.nd) gs_nil))))
  (ss_cons (s_par2 4 5 rfl sc__law_step.nd (a_cons (r_callTy call_list_of n_list (by rfl) z_list (by decide +kernel) (a_cons (r_sl o_sl l_sl (r_var 2) o_none (o_some (r_var 3))) a_nil)) (a_cons (r_callTy call_list_of n_list (by rfl) z_list (by decide +kernel) (a_cons (r_sl o_sl l_sl (r_var 2) (o_some (r_op o_add l_add (r_var 3) r_int)) o_none) a_nil)) a_nil)))
  (ss_cons (s_set 6 sc__law_step.nd (r_ix ix_seq l_ix (r_var 2) (r_var 3)))
  (ss_cons (s_if (t_cmp (op_eqD (hu64 hr)) l_eq (r_ix ix_seq l_ix (r_var 1) r_int) r_str (nomark _)) (ss_one (s_par3 4 6 5 rfl sc__law_step.nd (a_cons (r_op o_add l_add (r_var 4) (r_lst (a_cons (r_var 6) a_nil))) (a_cons (r_ix ix_seq l_ix (r_var 1) r_int) (a_cons (r_lst a_nil) a_nil))))) (ss_one (s_if (t_w (w_and (t_cmp (op_eqD (hu64 hr)) l_eq (r_ix ix_seq l_ix (r_var 1) r_int) r_str (nomark _)) (w_one (t_cmp (op_neD (hu64 hr)) l_ne (r_var 4) (r_lst a_nil) (nomark _))))) (ss_cons (s_set 5 sc__law_step.nd (r_op o_add l_add (r_lst (a_cons (r_var 6) a_nil)) (r_var 5)))
  (ss_one (s_set 6 sc__law_step.nd (r_meth0 PySem.F.slot_list_pop PySem.F.type_list_pop mt_pop m_pop (r_var 4))))) (ss_one (s_if (t_w (w_and (t_cmp (op_eqD (hu64 hr)) l_eq (r_ix ix_seq l_ix (r_var 1) r_int) r_str (nomark _)) (w_one (t_cmp (op_neD (hu64 hr)) l_ne (r_var 5) (r_lst a_nil) (nomark _))))) (ss_cons (s_set 4 sc__law_step.nd (r_op o_add l_add (r_var 4) (r_lst (a_cons (r_var 6) a_nil))))
  (ss_one (s_set 6 sc__law_step.nd (r_meth PySem.F.slot_list_pop PySem.F.type_list_pop mt_popAt m_popAt (r_var 5) (a_cons r_int a_nil))))) ss_nil)))))
  (ss_one (s_ret (r_tup (a_cons (r_callTy call_tuple_of n_tuple (by rfl) z_tuple (by decide +kernel) (a_cons (r_op o_add l_add (r_op o_add l_add (r_var 4) (r_lst (a_cons (r_var 6) a_nil))) (r_var 5)) a_nil)) (a_cons (r_callB call_len_seq n_len (by rfl) z_len (by decide +kernel) (a_cons (r_var 4) a_nil)) a_nil)))))))))
theorem kn__law_whole (D__law_whole : DefAt K mg "_law_whole" s__law_whole) (z_isinstance : mg "isinstance" = none) (z_int : mg "int" = none) (z_bool : mg "bool" = none) : Known P w K mg base 2 "_law_whole" ["item"] F__law_whole :=
  known D__law_whole sc__law_whole bi__law_whole keeps__law_whole fun f cdv A outer s H E hr =>
  (ss_one (s_ret (r_and (r_isi "int" (by simp) (by rfl) z_isinstance (by rfl) z_int (by decide +kernel) (r_var 0)) (r_one (r_not (r_isi "bool" (by simp) (by rfl) z_isinstance (by rfl) z_bool (by decide +kernel) (r_var 0)))))))
theorem kn__law_within (D__law_within : DefAt K mg "_law_within" s__law_within) (G__law_whole : Known P w K mg base 2 "_law_whole" ["item"] F__law_whole) : Known P w K mg base 4 "_law_within" ["item", "low", "high"] F__law_within :=
  known D__law_within sc__law_within bi__law_within keeps__law_within fun f cdv A outer s H E hr =>
  (ss_one (s_ret (r_and (r_callK G__law_whole (hr.mono (by decide)) (by rfl) (a_cons (r_var 0) a_nil)) (r_one (r_chain op_le l_le op_le l_le (r_var 1) (r_var 0) (r_var 2))))))
theorem kn__law_due (D__law_due : DefAt K mg "_law_due" s__law_due) (G__law_step : Known P w K mg base 2 "_law_step" ["history", "action"] F__law_step) (G__law_within : Known P w K mg base 4 "_law_within" ["item", "low", "high"] F__law_within) (z_isinstance : mg "isinstance" = none) (z_str : mg "str" = none) (z_len : mg "len" = none) : Known P w K mg base 6 "_law_due" ["history", "way", "item"] F__law_due :=
  known D__law_due sc__law_due bi__law_due keeps__law_due fun f cdv A outer s H E hr =>
  (ss_cons (s_asg (r_var 0) (g_tup rfl (gs_cons (g_name 3 sc__law_due.nd) (gs_cons (g_name 4 sc__law_due.nd) gs_nil))))
  (ss_cons (s_if (t_cmp (op_eqD (hu64 hr)) l_eq (r_var 1) r_int (nomark _)) (ss_cons (s_if (t_w (w_or (t_not (t_val (r_isi "str" (by simp) (by rfl) z_isinstance (by rfl) z_str (by decide +kernel) (r_var 2)))) (w_one (t_cmp (op_notInU (hu65 hr)) l_notInU (r_var 2) (r_tup (a_cons r_str (a_cons r_str (a_cons r_str a_nil)))) (by rfl))))) (ss_one (s_ret (r_tup (a_cons (r_var 0) (a_cons (r_tup (a_cons r_str a_nil)) a_nil))))) ss_nil)
  (ss_one (s_ret (r_tup (a_cons (r_callK G__law_step (hr.mono (by decide)) (by rfl) (a_cons (r_var 0) (a_cons (r_tup (a_cons r_str (a_cons (r_var 2) a_nil))) a_nil))) (a_cons (r_op op_sub l_sub (r_op op_sub l_sub (r_callB call_len_seq n_len (by rfl) z_len (by decide +kernel) (a_cons (r_var 3) a_nil)) r_int) (r_var 4)) a_nil)))))) ss_nil)
  (ss_cons (s_if (t_cmp (op_eqD (hu64 hr)) l_eq (r_var 1) r_int (nomark _)) (ss_cons (s_if (t_not (t_val (r_callK G__law_within (hr.mono (by decide)) (by rfl) (a_cons (r_var 2) (a_cons r_int (a_cons (r_op op_sub l_sub (r_callB call_len_seq n_len (by rfl) z_len (by decide +kernel) (a_cons (r_var 3) a_nil)) r_int) a_nil)))))) (ss_one (s_ret (r_tup (a_cons (r_var 0) (a_cons (r_tup (a_cons r_str a_nil)) a_nil))))) ss_nil)
  (ss_one (s_ret (r_tup (a_cons (r_tup (a_cons (r_var 3) (a_cons (r_var 2) a_nil))) (a_cons (r_ix ix_seq l_ix (r_var 3) (r_var 2)) a_nil)))))) ss_nil)
  (ss_cons (s_set 5 sc__law_due.nd (r_callK G__law_step (hr.mono (by decide)) (by rfl) (a_cons (r_var 0) (a_cons (r_ix ix_seq l_ix (r_lst (a_cons (r_tup (a_cons r_str a_nil)) (a_cons (r_tup (a_cons r_str a_nil)) a_nil))) (r_op op_sub l_sub (r_var 1) r_int)) a_nil))))
  (ss_one (s_ret (r_if (t_cmp (op_neD (hu64 hr)) l_ne (r_var 5) (r_var 0) (nomark _)) (r_tup (a_cons (r_var 5) (a_cons (r_ix ix_seq l_ix (r_ix ix_seq l_ix (r_var 5) r_int) (r_ix ix_seq l_ix (r_var 5) r_int)) a_nil))) (r_tup (a_cons (r_var 0) (a_cons (r_tup (a_cons (r_ix ix_seq l_ix (r_lst (a_cons r_str (a_cons r_str a_nil))) (r_op op_sub l_sub (r_var 1) r_int)) a_nil)) a_nil))))))))))
theorem kn__law_like (D__law_like : DefAt K mg "_law_like" s__law_like) (z_isinstance : mg "isinstance" = none) (z_list : mg "list" = none) (z_tuple : mg "tuple" = none) (z_len : mg "len" = none) (z_range : mg "range" = none) (z_bool : mg "bool" = none) : ∀ d : Nat, Known P w K mg base (d + 2) "_law_like" ["one", "two"] (F__law_like d)
  | 0 => known0 D__law_like sc__law_like bi__law_like (fun ws M => F0__law_like ws M)
  | d + 1 => by
    have R := kn__law_like D__law_like z_isinstance z_list z_tuple z_len z_range z_bool d
    exact known D__law_like sc__law_like bi__law_like (keeps__law_like d) fun f cdv A outer s H E hr =>
  (ss_cons (s_if (t_val (r_isi2 "list" "tuple" (by simp) (by simp) (by rfl) z_isinstance (by rfl) z_list (by decide +kernel) (by rfl) z_tuple (by decide +kernel) (r_var 0))) (ss_cons (s_if (t_w (w_or (t_cmp (op_neD (hu64 hr)) l_ne (r_isi "list" (by simp) (by rfl) z_isinstance (by rfl) z_list (by decide +kernel) (r_var 0)) (r_isi "list" (by simp) (by rfl) z_isinstance (by rfl) z_list (by decide +kernel) (r_var 1)) (nomark _)) (w_one (t_cmp (op_neD (hu64 hr)) l_ne (r_isi "tuple" (by simp) (by rfl) z_isinstance (by rfl) z_tuple (by decide +kernel) (r_var 0)) (r_isi "tuple" (by simp) (by rfl) z_isinstance (by rfl) z_tuple (by decide +kernel) (r_var 1)) (nomark _))))) (ss_one (s_ret r_bl)) ss_nil)
  (ss_cons (s_if (t_cmp (op_neD (hu64 hr)) l_ne (r_callB call_len_seq n_len (by rfl) z_len (by decide +kernel) (a_cons (r_var 0) a_nil)) (r_callB call_len_seq n_len (by rfl) z_len (by decide +kernel) (a_cons (r_var 1) a_nil)) (nomark _)) (ss_one (s_ret r_bl)) ss_nil)
  (ss_one (s_ret (r_cmp (op_eqD (hu64 hr)) l_eq (r_lc (own := [("k", 2)]) sc__law_like.nd (i_range1 (by rfl) z_range (a_cons (r_callB call_len_seq n_len (by rfl) z_len (by decide +kernel) (a_cons (r_var 0) a_nil)) a_nil)) (by kernel_rfl) (fun _ _ _ _ _ => (gw_name 2 sc__law_like.nd)) (fun _ _ _ _ _ => (ts_one (t_not (t_val (r_callK R (hr.mono (by omega)) (by rfl) (a_cons (r_ix ix_seq l_ix (r_var 0) (r_var 2)) (a_cons (r_ix ix_seq l_ix (r_var 1) (r_var 2)) a_nil))))))) (fun _ _ _ _ _ => (r_var 2))) (r_lst a_nil) (nomark _)))))) ss_nil)
  (ss_cons (s_if (t_val (r_isi2 "list" "tuple" (by simp) (by simp) (by rfl) z_isinstance (by rfl) z_list (by decide +kernel) (by rfl) z_tuple (by decide +kernel) (r_var 1))) (ss_one (s_ret r_bl)) ss_nil)
  (ss_one (s_ret (r_and (r_cmp (op_eqD (hu64 hr)) l_eq (r_isi "bool" (by simp) (by rfl) z_isinstance (by rfl) z_bool (by decide +kernel) (r_var 0)) (r_isi "bool" (by simp) (by rfl) z_isinstance (by rfl) z_bool (by decide +kernel) (r_var 1)) (nomark _)) (r_one (r_cmp (op_eqD (hu64 hr)) l_eq (r_var 0) (r_var 1) (nomark _))))))))
theorem kn_after (D_after : DefAt K mg "after" s_after) (z_max : mg "max" = none) (z_min : mg "min" = none) (z_len : mg "len" = none) : Known P w K mg base 2 "after" ["history", "action"] F_after :=
  known D_after sc_after bi_after keeps_after fun f cdv A outer s H E hr =>
  (ss_cons (s_asg (r_var 0) (g_tup rfl (gs_cons (g_name 2 sc_after.nd) (gs_cons (g_name 3 sc_after.nd) gs_nil))))
  (ss_cons (s_if (t_cmp (op_eqD (hu64 hr)) l_eq (r_ix ix_seq l_ix (r_var 1) r_int) r_str (nomark _)) (ss_one (s_ret (r_tup (a_cons (r_op o_add l_add (r_sl o_sl l_sl (r_var 2) o_none (o_some (r_op o_add l_add (r_var 3) r_int))) (r_tup (a_cons (r_ix ix_seq l_ix (r_var 1) r_int) a_nil))) (a_cons (r_op o_add l_add (r_var 3) r_int) a_nil))))) ss_nil)
  (ss_cons (s_if (t_cmp (op_eqD (hu64 hr)) l_eq (r_ix ix_seq l_ix (r_var 1) r_int) r_str (nomark _)) (ss_one (s_ret (r_tup (a_cons (r_var 2) (a_cons (r_callB (call_max2 rfl) n_max (by rfl) z_max (by decide +kernel) (a_cons r_int (a_cons (r_op op_sub l_sub (r_var 3) r_int) a_nil))) a_nil))))) ss_nil)
  (ss_one (s_ret (r_tup (a_cons (r_var 2) (a_cons (r_callB (call_min2 rfl) n_min (by rfl) z_min (by decide +kernel) (a_cons (r_op op_sub l_sub (r_callB call_len_seq n_len (by rfl) z_len (by decide +kernel) (a_cons (r_var 2) a_nil)) r_int) (a_cons (r_op o_add l_add (r_var 3) r_int) a_nil))) a_nil))))))))
theorem kn_T_visit (D_T_visit : MethAt K mg "visit" "Tab.visit" s_T_visit) (G_is_page : Known P w K mg base 2 "is_page" ["value"] F_is_page) (G_after : Known P w K mg base 2 "after" ["history", "action"] F_after) (z_len : mg "len" = none) (h_T : TabC K mg "state") (h_X : ErrC K mg "InvalidPage" C1) : KnownMX P w K mg base 4 "visit" ["self", "page"] F_T_visit :=
  knownMX D_T_visit sc_T_visit bi_T_visit h_X rfl keeps_T_visit (fun _ _ _ _ _ _ _ => rfl) fun f cdv A outer s H E hr => ⟨(t_not (t_val (r_callK G_is_page (hr.mono (by decide)) (by rfl) (a_cons (r_var 1) a_nil)))),
  (ss_cons (s_asg (r_fld h_T (r_var 0)) (g_tup rfl (gs_cons (g_name 2 sc_T_visit.nd) (gs_cons (g_name 3 sc_T_visit.nd) gs_nil))))
  (ss_cons (s_fld h_T (r_var 0) (r_callK G_after (hr.mono (by decide)) (by rfl) (a_cons (r_fld h_T (r_var 0)) (a_cons (r_tup (a_cons r_str (a_cons (r_var 1) a_nil))) a_nil))))
  (ss_one (s_ret (r_op op_sub l_sub (r_op op_sub l_sub (r_callB call_len_seq n_len (by rfl) z_len (by decide +kernel) (a_cons (r_var 2) a_nil)) r_int) (r_var 3))))))⟩
theorem kn_T_page (D_T_page : MethAt K mg "page" "Tab.page" s_T_page) (h_T : TabC K mg "state") : KnownM P w K mg base 2 "page" ["self"] F_T_page :=
  knownM D_T_page sc_T_page bi_T_page keeps_T_page fun f cdv A outer s H E hr =>
  (ss_one (s_ret (r_ix ix_seq l_ix (r_ix ix_seq l_ix (r_fld h_T (r_var 0)) r_int) (r_ix ix_seq l_ix (r_fld h_T (r_var 0)) r_int))))
theorem kn_T_back (D_T_back : MethAt K mg "back" "Tab.back" s_T_back) (G_after : Known P w K mg base 2 "after" ["history", "action"] F_after) (G_T_page : KnownM P w K mg base 2 "page" ["self"] F_T_page) (h_T : TabC K mg "state") (h_X : ErrC K mg "NoBack" C2) : KnownMX P w K mg base 4 "back" ["self"] F_T_back :=
  knownMX D_T_back sc_T_back bi_T_back h_X rfl keeps_T_back (fun _ _ _ _ _ _ _ => rfl) fun f cdv A outer s H E hr => ⟨(t_cmp (op_eqD (hu64 hr)) l_eq (r_ix ix_seq l_ix (r_fld h_T (r_var 0)) r_int) r_int (nomark _)),
  (ss_cons (s_fld h_T (r_var 0) (r_callK G_after (hr.mono (by decide)) (by rfl) (a_cons (r_fld h_T (r_var 0)) (a_cons (r_tup (a_cons r_str a_nil)) a_nil))))
  (ss_one (s_ret (r_mt0 h_T G_T_page (hr.mono (by decide)) (r_var 0)))))⟩
theorem kn_T_forward (D_T_forward : MethAt K mg "forward" "Tab.forward" s_T_forward) (G_after : Known P w K mg base 2 "after" ["history", "action"] F_after) (G_T_page : KnownM P w K mg base 2 "page" ["self"] F_T_page) (z_len : mg "len" = none) (h_T : TabC K mg "state") (h_X : ErrC K mg "NoForward" C3) : KnownMX P w K mg base 4 "forward" ["self"] F_T_forward :=
  knownMX D_T_forward sc_T_forward bi_T_forward h_X rfl keeps_T_forward (fun _ _ _ _ _ _ _ => rfl) fun f cdv A outer s H E hr => ⟨(t_cmp (op_eqD (hu64 hr)) l_eq (r_ix ix_seq l_ix (r_fld h_T (r_var 0)) r_int) (r_op op_sub l_sub (r_callB call_len_seq n_len (by rfl) z_len (by decide +kernel) (a_cons (r_ix ix_seq l_ix (r_fld h_T (r_var 0)) r_int) a_nil)) r_int) (nomark _)),
  (ss_cons (s_fld h_T (r_var 0) (r_callK G_after (hr.mono (by decide)) (by rfl) (a_cons (r_fld h_T (r_var 0)) (a_cons (r_tup (a_cons r_str a_nil)) a_nil))))
  (ss_one (s_ret (r_mt0 h_T G_T_page (hr.mono (by decide)) (r_var 0)))))⟩
theorem kn_is_index (D_is_index : DefAt K mg "is_index" s_is_index) (z_isinstance : mg "isinstance" = none) (z_int : mg "int" = none) (z_bool : mg "bool" = none) : Known P w K mg base 2 "is_index" ["value", "count"] F_is_index :=
  known D_is_index sc_is_index bi_is_index keeps_is_index fun f cdv A outer s H E hr =>
  (ss_one (s_ret (r_and (r_isi "int" (by simp) (by rfl) z_isinstance (by rfl) z_int (by decide +kernel) (r_var 0)) (r_and (r_not (r_isi "bool" (by simp) (by rfl) z_isinstance (by rfl) z_bool (by decide +kernel) (r_var 0))) (r_one (r_chain op_le l_le op_lt l_lt r_int (r_var 0) (r_var 1)))))))
theorem kn_T_go (D_T_go : MethAt K mg "go" "Tab.go" s_T_go) (G_is_index : Known P w K mg base 2 "is_index" ["value", "count"] F_is_index) (G_T_page : KnownM P w K mg base 2 "page" ["self"] F_T_page) (z_len : mg "len" = none) (h_T : TabC K mg "state") (h_X : ErrC K mg "NoSuchEntry" C4) : KnownMX P w K mg base 4 "go" ["self", "place"] F_T_go :=
  knownMX D_T_go sc_T_go bi_T_go h_X rfl keeps_T_go (fun _ _ _ _ _ _ _ => rfl) fun f cdv A outer s H E hr => ⟨(t_not (t_val (r_callK G_is_index (hr.mono (by decide)) (by rfl) (a_cons (r_var 1) (a_cons (r_callB call_len_seq n_len (by rfl) z_len (by decide +kernel) (a_cons (r_ix ix_seq l_ix (r_fld h_T (r_var 0)) r_int) a_nil)) a_nil))))),
  (ss_cons (s_fld h_T (r_var 0) (r_tup (a_cons (r_ix ix_seq l_ix (r_fld h_T (r_var 0)) r_int) (a_cons (r_var 1) a_nil))))
  (ss_one (s_ret (r_mt0 h_T G_T_page (hr.mono (by decide)) (r_var 0)))))⟩
theorem kn__law_word (D__law_word : DefAt K mg "_law_word" s__law_word) (z_isinstance : mg "isinstance" = none) (h_E : ErrsC K mg Ch C1 C2 C3 C4) : KnownE P w K mg base "_law_word" s__law_word "e" N__law_word wordOf := ⟨D__law_word, sc__law_word, bi__law_word, fun c u C a oe h1 h2 hz0 hf f cdv A outer s H hot ha => by
  obtain ⟨b1, b2, b3, b4, ee, iw⟩ := h_E.word h1 h2
  have HC := ee.isx
  have k1 := ee.k1
  have k2 := ee.k2
  have k3 := ee.k3
  have k4 := ee.k4
  have g1 := h_E.g1
  have g2 := h_E.g2
  have g3 := h_E.g3
  have g4 := h_E.g4
  have hz := hz0.zc
  have hp : (a, oe) ∈ (L2H.cxH CX0 P w K mg base N__law_word "_law_word" (defScope s__law_word) f cdv A outer s H (fun _ _ _ => False) (a, oe)).pn := List.mem_cons_self
  replace hot : L2H.Hot1 (L2H.cxH CX0 P w K mg base N__law_word "_law_word" (defScope s__law_word) f cdv A outer s H (fun _ _ _ => False) (a, oe)).A (a, oe) := hot
  exact word_of (n := 4) rfl (z_cons (z_set 1 sc__law_word.nd (z_lst (za_cons (z_tup (za_cons (z_of r_str) (za_cons (z_is hp HC hz hf k1 (by rfl) z_isinstance (by rfl) g1) za_nil))) (za_cons (z_tup (za_cons (z_of r_str) (za_cons (z_is hp HC hz hf k2 (by rfl) z_isinstance (by rfl) g2) za_nil))) za_nil))))
  (z_cons (z_set 1 sc__law_word.nd (z_op o_add l_add (z_of (r_var 1)) (z_lst (za_cons (z_tup (za_cons (z_of r_str) (za_cons (z_is hp HC hz hf k3 (by rfl) z_isinstance (by rfl) g3) za_nil))) (za_cons (z_tup (za_cons (z_of r_str) (za_cons (z_is hp HC hz hf k4 (by rfl) z_isinstance (by rfl) g4) za_nil))) za_nil)))))
  (z_ret (r_join0 (r_lcH (own := [("word", 2), ("good", 3)]) hot hp sc__law_word.nd (r_var 1) (by kernel_rfl) (fun _ _ _ _ _ hh => gw_tupH hh (gsw_cons (gw_name 2 sc__law_word.nd) (gsw_cons (gw_name 3 sc__law_word.nd) gsw_nil))) (fun _ _ _ _ _ => ts_one (t_val (r_var 3))) (fun _ _ _ _ _ => (r_var 2))))))) iw.ok.1 iw.ok.2 (ev_word iw)⟩
theorem kn__law_call (D__law_call : DefAt K mg "_law_call" s__law_call) (G_T_visit : KnownMX P w K mg base 4 "visit" ["self", "page"] F_T_visit) (G_T_back : KnownMX P w K mg base 4 "back" ["self"] F_T_back) (G_T_forward : KnownMX P w K mg base 4 "forward" ["self"] F_T_forward) (G_T_go : KnownMX P w K mg base 4 "go" ["self", "place"] F_T_go) (G__law_word : KnownE P w K mg base "_law_word" s__law_word "e" N__law_word wordOf) (h_T : TabC K mg "state") (h_E : ErrsC K mg Ch C1 C2 C3 C4) : Known P w K mg base 6 "_law_call" ["tab", "way", "item"] F__law_call :=
  known D__law_call sc__law_call bi__law_call keeps__law_call fun f cdv A outer s H E hr =>
  (ss_one (s_try (i := 3) (hd := hdTup) rfl rfl sc__law_call.nd rfl rfl ⟨rfl, by decide, .inl h_E.g⟩
    (fun W pn xe tk => (x_cons (x_if (t_cmp (op_eqD (hu64 hr)) l_eq (r_var 1) r_int (nomark _)) (x_one (x_ret (x_mt h_T G_T_visit (hr.mono (by decide)) tk (r_var 0) (a_cons (r_var 2) a_nil)))) x_nil)
  (x_cons (x_if (t_cmp (op_eqD (hu64 hr)) l_eq (r_var 1) r_int (nomark _)) (x_one (x_ret (x_mt0 h_T G_T_back (hr.mono (by decide)) tk (r_var 0)))) x_nil)
  (x_one (x_ret (x_eif (t_cmp (op_eqD (hu64 hr)) l_eq (r_var 1) r_int (nomark _)) (x_mt0 h_T G_T_forward (hr.mono (by decide)) tk (r_var 0)) (x_mt h_T G_T_go (hr.mono (by decide)) tk (r_var 0) (a_cons (r_var 2) a_nil))))))))
    (fun c w hw => h_E.knows (hdTup_of hw))
    (fun c w C a oe pn hw h2 hz hv => by
      obtain ⟨u, h1, rfl⟩ := hdTup_inv hw
      exact su_ret (su_tup (r_callE (i := 3) G__law_word ⟨(hr.mono (by decide : 1 ≤ _)).dp, (hr.mono (by decide : 1 ≤ _)).un⟩ (hot_suite hz hv) List.mem_cons_self h1 h2 hz hv (by rfl) rfl (.inl rfl))))))
theorem kn_T_history (D_T_history : MethAt K mg "history" "Tab.history" s_T_history) (h_T : TabC K mg "state") : KnownM P w K mg base 2 "history" ["self"] F_T_history :=
  knownM D_T_history sc_T_history bi_T_history keeps_T_history fun f cdv A outer s H E hr =>
  (ss_one (s_ret (r_fld h_T (r_var 0))))
theorem kn_T_eq (D_T_eq : MethAt K mg "__eq__" "Tab.__eq__" s_T_eq) (z_isinstance : mg "isinstance" = none) (h_I : IsC K mg "Tab") (h_T : TabC K mg "state") : KnownM P w K mg base 2 "__eq__" ["self", "other"] F_T_eq :=
  knownM D_T_eq sc_T_eq bi_T_eq keeps_T_eq fun f cdv A outer s H E hr =>
  (ss_one (s_ret (r_and (r_isT h_I (by rfl) z_isinstance (by rfl) (r_var 1)) (r_one (r_cmp (op_eqD (hu64 hr)) l_eq (r_fld h_T (r_var 0)) (r_fld h_T (r_var 1)) (nomark _))))))
theorem kn_T_len (D_T_len : MethAt K mg "__len__" "Tab.__len__" s_T_len) (z_len : mg "len" = none) (h_T : TabC K mg "state") : KnownM P w K mg base 2 "__len__" ["self"] F_T_len :=
  knownM D_T_len sc_T_len bi_T_len keeps_T_len fun f cdv A outer s H E hr =>
  (ss_one (s_ret (r_callB call_len_seq n_len (by rfl) z_len (by decide +kernel) (a_cons (r_ix ix_seq l_ix (r_fld h_T (r_var 0)) r_int) a_nil))))
theorem kn__law_made (D__law_made : DefAt K mg "_law_made" s__law_made) (G_T_init : KnownMX P w K mg base 4 "__init__" ["self", "page"] F_T_init) (G__law_word : KnownE P w K mg base "_law_word" s__law_word "e" N__law_word wordOf) (h_M : MkC K mg "Tab") (h_E : ErrsC K mg Ch C1 C2 C3 C4) : Known P w K mg base 6 "_law_made" ["item"] F__law_made :=
  known D__law_made sc__law_made bi__law_made keeps__law_made fun f cdv A outer s H E hr =>
  (ss_cons (s_try (i := 1) (hd := hdStr) rfl rfl sc__law_made.nd rfl rfl ⟨rfl, by decide, .inl h_E.g⟩
    (fun W pn xe tk => (x_one (x_expr (x_mk h_M G_T_init (hr.mono (by decide)) (by rfl) tk (a_cons (r_var 0) a_nil)))))
    (fun c w hw => h_E.knows (hdStr_of hw))
    (fun c w C a oe pn hw h2 hz hv => by
      obtain ⟨u, h1, rfl⟩ := hdStr_inv hw
      exact su_ret (r_callE (i := 1) G__law_word ⟨(hr.mono (by decide : 1 ≤ _)).dp, (hr.mono (by decide : 1 ≤ _)).un⟩ (hot_suite hz hv) List.mem_cons_self h1 h2 hz hv (by rfl) rfl (.inl rfl))))
  (ss_one (s_ret r_str)))
theorem kn_law {f : Addr} {fd : FuncData} (D : Fun K "law" "law" s_law f fd) (G_T_init : KnownMX P w K mg base 4 "__init__" ["self", "page"] F_T_init) (G_T_copy : KnownM P w K mg base 6 "copy" ["self"] F_T_copy) (G__law_draw : Known P w K mg base 2 "_law_draw" ["tape", "many"] F__law_draw) (G__law_due : Known P w K mg base 6 "_law_due" ["history", "way", "item"] F__law_due) (G__law_like : Known P w K mg base 10 "_law_like" ["one", "two"] (F__law_like 8)) (G__law_call : Known P w K mg base 6 "_law_call" ["tab", "way", "item"] F__law_call) (G_T_history : KnownM P w K mg base 2 "history" ["self"] F_T_history) (G_T_eq : KnownM P w K mg base 2 "__eq__" ["self", "other"] F_T_eq) (G_T_len : KnownM P w K mg base 2 "__len__" ["self"] F_T_len) (G__law_made : Known P w K mg base 6 "_law_made" ["item"] F__law_made) (z_list : mg "list" = none) (z_range : mg "range" = none) (z_max : mg "max" = none) (z_len : mg "len" = none) (h_M : MkC K mg "Tab") (h_T : TabC K mg "state") (h_Q : EqC K mg) : FnOk P w K mg base CX0 12 f fd ["script"] (spF ⟨K, w, tabOf mg⟩ (["script"] : List Str).length lawF) :=
  fn_ok D sc_law keeps_law_k20 fun cdv A outer s H E hr =>
  (ss_cons (s_set 1 sc_law.nd (r_lst (a_cons (r_callTy call_list_of n_list (by rfl) z_list (by decide +kernel) (a_cons (r_var 0) a_nil)) (a_cons r_int (a_cons r_int a_nil)))))
  (ss_cons (s_par2 2 3 rfl sc_law.nd (a_cons (r_mk h_M G_T_init (hr.mono (by decide)) (by rfl) (a_cons r_str a_nil)) (a_cons (r_tup (a_cons (r_tup (a_cons r_str a_nil)) (a_cons r_int a_nil))) a_nil)))
  (ss_cons (s_par2 4 5 rfl sc_law.nd (a_cons (r_mt0 h_T G_T_copy (hr.mono (by decide)) (r_var 2)) (a_cons (r_var 3) a_nil)))
  (ss_cons (s_for (i_range1 (by rfl) z_range (a_cons r_int a_nil)) (g_name 6 sc_law.nd) (ss_cons (s_set 7 sc_law.nd (r_ix ix_seq l_ix (r_lst (a_cons r_int (a_cons r_int (a_cons r_int (a_cons r_int (a_cons r_int (a_cons r_int a_nil))))))) (r_callK G__law_draw (hr.mono (by decide)) (by rfl) (a_cons (r_var 1) (a_cons r_int a_nil)))))
  (ss_cons (s_set 8 sc_law.nd (r_ix ix_seq l_ix (r_lst (a_cons r_str (a_cons r_str (a_cons r_str (a_cons r_str (a_cons r_str (a_cons r_non (a_cons r_int a_nil)))))))) (r_callB (call_max2 rfl) n_max (by rfl) z_max (by decide +kernel) (a_cons r_int (a_cons (r_op op_sub l_sub (r_callK G__law_draw (hr.mono (by decide)) (by rfl) (a_cons (r_var 1) (a_cons r_int a_nil))) r_int) a_nil)))))
  (ss_cons (s_if (t_cmp (op_eqD (hu64 hr)) l_eq (r_var 7) r_int (nomark _)) (ss_one (s_set 8 sc_law.nd (r_ix ix_seq l_ix (r_lst (a_cons (r_callK G__law_draw (hr.mono (by decide)) (by rfl) (a_cons (r_var 1) (a_cons (r_callB call_len_seq n_len (by rfl) z_len (by decide +kernel) (a_cons (r_ix ix_seq l_ix (r_var 3) r_int) a_nil)) a_nil))) (a_cons (r_callB call_len_seq n_len (by rfl) z_len (by decide +kernel) (a_cons (r_ix ix_seq l_ix (r_var 3) r_int) a_nil)) (a_cons (r_un un_neg l_neg r_int) (a_cons r_bl (a_cons r_str a_nil)))))) (r_callB (call_max2 rfl) n_max (by rfl) z_max (by decide +kernel) (a_cons r_int (a_cons (r_op op_sub l_sub (r_callK G__law_draw (hr.mono (by decide)) (by rfl) (a_cons (r_var 1) (a_cons r_int a_nil))) r_int) a_nil)))))) ss_nil)
  (ss_cons (s_asg (r_callK G__law_due (hr.mono (by decide)) (by rfl) (a_cons (r_var 3) (a_cons (r_var 7) (a_cons (r_var 8) a_nil)))) (g_tup rfl (gs_cons (g_name 3 sc_law.nd) (gs_cons (g_name 9 sc_law.nd) gs_nil))))
  (ss_cons (s_if (t_w (w_or (t_not (t_val (r_callK G__law_like (hr.mono (by decide)) (by rfl) (a_cons (r_callK G__law_call (hr.mono (by decide)) (by rfl) (a_cons (r_var 2) (a_cons (r_var 7) (a_cons (r_var 8) a_nil)))) (a_cons (r_var 9) a_nil))))) (w_one (t_not (t_val (r_callK G__law_like (hr.mono (by decide)) (by rfl) (a_cons (r_mt0 h_T G_T_history (hr.mono (by decide)) (r_var 2)) (a_cons (r_var 3) a_nil)))))))) (ss_one (s_ret r_bl)) ss_nil)
  (ss_cons (s_if (t_w (w_or (t_cmp (op_neD (hu64 hr)) l_ne (r_mt0 h_T G_T_history (hr.mono (by decide)) (r_var 4)) (r_var 5) (nomark _)) (w_one (t_cmp (op_neD (hu64 hr)) l_ne (r_cmp (op_eqT h_Q G_T_eq (hr.mono (by decide))) l_eqT (r_var 2) (r_var 4) (nomark _)) (r_cmp (op_eqD (hu64 hr)) l_eq (r_var 3) (r_var 5) (nomark _)) (nomark _))))) (ss_one (s_ret r_bl)) ss_nil)
  (ss_cons (s_if (t_w (w_or (t_cmp (op_neD (hu64 hr)) l_ne (r_callB (call_lenT G_T_len (hr.mono (by decide))) n_lenT (by rfl) z_len (by decide +kernel) (a_cons (r_var 2) a_nil)) (r_callB call_len_seq n_len (by rfl) z_len (by decide +kernel) (a_cons (r_ix ix_seq l_ix (r_var 3) r_int) a_nil)) (nomark _)) (w_one (t_cmp (op_eqT h_Q G_T_eq (hr.mono (by decide))) l_eqT (r_var 2) (r_var 3) (nomark _))))) (ss_one (s_ret r_bl)) ss_nil)
  (ss_cons (s_if (t_cmp (op_eqD (hu64 hr)) l_eq (r_callK G__law_draw (hr.mono (by decide)) (by rfl) (a_cons (r_var 1) (a_cons r_int a_nil))) r_int (nomark _)) (ss_one (s_par2 4 5 rfl sc_law.nd (a_cons (r_mt0 h_T G_T_copy (hr.mono (by decide)) (r_var 2)) (a_cons (r_var 3) a_nil)))) ss_nil)
  (ss_one (s_if (t_cmp (op_eqD (hu64 hr)) l_eq (r_callK G__law_draw (hr.mono (by decide)) (by rfl) (a_cons (r_var 1) (a_cons r_int a_nil))) r_int (nomark _)) (ss_one (s_asg (r_tup (a_cons (r_var 4) (a_cons (r_var 5) (a_cons (r_var 2) (a_cons (r_var 3) a_nil))))) (g_tup rfl (gs_cons (g_name 2 sc_law.nd) (gs_cons (g_name 3 sc_law.nd) (gs_cons (g_name 4 sc_law.nd) (gs_cons (g_name 5 sc_law.nd) gs_nil))))))) ss_nil)))))))))))
  (ss_cons (s_set 10 sc_law.nd (r_lst (a_cons r_non (a_cons r_str (a_cons r_str (a_cons r_str (a_cons r_int (a_cons (r_tup (a_cons r_str a_nil)) a_nil))))))))
  (ss_one (s_ret (r_and (r_cmp (op_eqD (hu64 hr)) l_eq (r_lc (own := [("item", 8)]) sc_law.nd (i_lst (r_var 10)) (by kernel_rfl) (fun _ _ _ _ _ => (gw_name 8 sc_law.nd)) (fun _ _ _ _ _ => ts_nil) (fun _ _ _ _ _ => (r_callK G__law_made (hr.mono (by decide)) (by rfl) (a_cons (r_var 8) a_nil)))) (r_op op_rep l_repL (r_lst (a_cons r_str a_nil)) r_int) (nomark _)) (r_one (r_cmp (op_eqD (hu64 hr)) l_eq (r_callK G__law_made (hr.mono (by decide)) (by rfl) (a_cons r_str a_nil)) r_str (nomark _)))))))))))
end
theorem all_k20 {l : PySem.W.OpenLaw} {w : World} {K : PySem.W.Frag} {h : Heap} {mg : Str → Option Value} {fa f Ch C1 C2 C3 C4 : Addr} {oc : Value} {od an : Option Addr} {osl : Array (Option Value)} {kV doc pm cdv ct : Value} (X : K.In h) (G : h.Ns mainGlobals mg) (hfa : mg "law" = some (.ref fa))
    (a : PySem.W.nsIn K mainGlobals "law" = some (some (.ref f))) (lk : K.lookup f = some ⟨oc, od, .func (PySem.W.fnOf "law" "law" (defArgs s_law) (defBody s_law) (defScope s_law) .none kV doc pm an cdv ct), osl⟩) (c : PySem.W.codeIn K cdv "law" = true) (kp : PySem.W.keepIn K (.ref f) = true)
    (D_is_page : DefAt K mg "is_page" s_is_page) (D_T_init : MethAt K mg "__init__" "Tab.__init__" s_T_init) (D_T_copy : MethAt K mg "copy" "Tab.copy" s_T_copy) (D__law_draw : DefAt K mg "_law_draw" s__law_draw) (D__law_step : DefAt K mg "_law_step" s__law_step) (D__law_whole : DefAt K mg "_law_whole" s__law_whole) (D__law_within : DefAt K mg "_law_within" s__law_within) (D__law_due : DefAt K mg "_law_due" s__law_due) (D__law_like : DefAt K mg "_law_like" s__law_like) (D_after : DefAt K mg "after" s_after) (D_T_visit : MethAt K mg "visit" "Tab.visit" s_T_visit) (D_T_page : MethAt K mg "page" "Tab.page" s_T_page) (D_T_back : MethAt K mg "back" "Tab.back" s_T_back) (D_T_forward : MethAt K mg "forward" "Tab.forward" s_T_forward) (D_is_index : DefAt K mg "is_index" s_is_index) (D_T_go : MethAt K mg "go" "Tab.go" s_T_go) (D__law_word : DefAt K mg "_law_word" s__law_word) (D__law_call : DefAt K mg "_law_call" s__law_call) (D_T_history : MethAt K mg "history" "Tab.history" s_T_history) (D_T_eq : MethAt K mg "__eq__" "Tab.__eq__" s_T_eq) (D_T_len : MethAt K mg "__len__" "Tab.__len__" s_T_len) (D__law_made : DefAt K mg "_law_made" s__law_made) (z_all : mg "all" = none) (z_bool : mg "bool" = none) (z_int : mg "int" = none) (z_isinstance : mg "isinstance" = none) (z_len : mg "len" = none) (z_list : mg "list" = none) (z_max : mg "max" = none) (z_min : mg "min" = none) (z_range : mg "range" = none) (z_str : mg "str" = none) (z_tuple : mg "tuple" = none) (m_LETTERS : GlobV mg "LETTERS" (.str "abcdefghijklmnopqrstuvwxyz")) (h_T : TabC K mg "state") (h_M : MkC K mg "Tab") (h_Q : EqC K mg) (h_I : IsC K mg "Tab") (h_E : ErrsC K mg Ch C1 C2 C3 C4) (h_XC1 : ErrC K mg "InvalidPage" C1) (h_XC2 : ErrC K mg "NoBack" C2) (h_XC3 : ErrC K mg "NoForward" C3) (h_XC4 : ErrC K mg "NoSuchEntry" C4) :
    ∃ fd : FuncData, (∀ (s : Shared) (v : Value), BindsTo s fd ⟨[v], []⟩ [("script", v)]) ∧ ∀ base : Heap, K.In base → base.Ns mainGlobals mg → FnOk l.prog w K mg base CX0 12 fa fd ["script"] (spLaw K) :=
  law_head X G hfa a lk c kp bi_law fun base fd D => by
    have G_is_page := kn_is_page (P := l.prog) (w := w) (base := base) D_is_page z_isinstance z_str z_len z_all m_LETTERS
    have G_T_init := kn_T_init (P := l.prog) (w := w) (base := base) D_T_init G_is_page h_T h_XC1
    have G_T_copy := kn_T_copy (P := l.prog) (w := w) (base := base) D_T_copy G_T_init h_M h_T
    have G__law_draw := kn__law_draw (P := l.prog) (w := w) (base := base) D__law_draw z_len
    have G__law_step := kn__law_step (P := l.prog) (w := w) (base := base) D__law_step z_list z_tuple z_len
    have G__law_whole := kn__law_whole (P := l.prog) (w := w) (base := base) D__law_whole z_isinstance z_int z_bool
    have G__law_within := kn__law_within (P := l.prog) (w := w) (base := base) D__law_within G__law_whole
    have G__law_due := kn__law_due (P := l.prog) (w := w) (base := base) D__law_due G__law_step G__law_within z_isinstance z_str z_len
    have G__law_like := kn__law_like (P := l.prog) (w := w) (base := base) D__law_like z_isinstance z_list z_tuple z_len z_range z_bool 8
    have G_after := kn_after (P := l.prog) (w := w) (base := base) D_after z_max z_min z_len
    have G_T_visit := kn_T_visit (P := l.prog) (w := w) (base := base) D_T_visit G_is_page G_after z_len h_T h_XC1
    have G_T_page := kn_T_page (P := l.prog) (w := w) (base := base) D_T_page h_T
    have G_T_back := kn_T_back (P := l.prog) (w := w) (base := base) D_T_back G_after G_T_page h_T h_XC2
    have G_T_forward := kn_T_forward (P := l.prog) (w := w) (base := base) D_T_forward G_after G_T_page z_len h_T h_XC3
    have G_is_index := kn_is_index (P := l.prog) (w := w) (base := base) D_is_index z_isinstance z_int z_bool
    have G_T_go := kn_T_go (P := l.prog) (w := w) (base := base) D_T_go G_is_index G_T_page z_len h_T h_XC4
    have G__law_word := kn__law_word (P := l.prog) (w := w) (base := base) D__law_word z_isinstance h_E
    have G__law_call := kn__law_call (P := l.prog) (w := w) (base := base) D__law_call G_T_visit G_T_back G_T_forward G_T_go G__law_word h_T h_E
    have G_T_history := kn_T_history (P := l.prog) (w := w) (base := base) D_T_history h_T
    have G_T_eq := kn_T_eq (P := l.prog) (w := w) (base := base) D_T_eq z_isinstance h_I h_T
    have G_T_len := kn_T_len (P := l.prog) (w := w) (base := base) D_T_len z_len h_T
    have G__law_made := kn__law_made (P := l.prog) (w := w) (base := base) D__law_made G_T_init G__law_word h_M h_E
    exact kn_law D G_T_init G_T_copy G__law_draw G__law_due G__law_like G__law_call G_T_history G_T_eq G_T_len G__law_made z_list z_range z_max z_len h_M h_T h_Q
end BF
open PySem PySem.W PyProof.Rows
set_option maxHeartbeats 0 in
theorem PySem.Challenge.cw_backforward_k20_tabs_call_by_call_holds : PySem.Challenge.rw_backforward_k20_tabs_call_by_call.Holds := by
  w_on; o_law; k_head; (case hw => w_witness2)
  k_fill
  refine L2.walk_of (l := PySem.Challenge.rw_backforward_k20_tabs_call_by_call) (n := 63) (k := 12) (x := "script") (CX := fun _ => L2.CX0) (sp := fun w => BF.spLaw _) rfl (by decide) rfl ⟨rfl, by decide, by decide⟩ (fun w h Y => PySem.W.kIn_of Y) ?F (fun _ H a ns hl ho hS => ⟨a, ns, rfl, ho, hS, hl, fun _ => rfl⟩) (fun _ _ _ _ _ h => h)
  case F =>
    intro w mg fa h KX G hmg
    refine' BF.all_k20 KX G hmg ?a0 ?l0 ?c0 ?k0 (BF.defAt KX G ?a1 ?l1 ?c1 ?k1) (BF.methAt (PySem.W.mg_of KX G ?tb) ?a2 ?i2 ?l2 ?c2 ?k2) (BF.methAt (PySem.W.mg_of KX G ?tb) ?a3 ?i3 ?l3 ?c3 ?k3) (BF.defAt KX G ?a4 ?l4 ?c4 ?k4) (BF.defAt KX G ?a5 ?l5 ?c5 ?k5) (BF.defAt KX G ?a6 ?l6 ?c6 ?k6) (BF.defAt KX G ?a7 ?l7 ?c7 ?k7) (BF.defAt KX G ?a8 ?l8 ?c8 ?k8) (BF.defAt KX G ?a9 ?l9 ?c9 ?k9) (BF.defAt KX G ?a10 ?l10 ?c10 ?k10) (BF.methAt (PySem.W.mg_of KX G ?tb) ?a11 ?i11 ?l11 ?c11 ?k11) (BF.methAt (PySem.W.mg_of KX G ?tb) ?a12 ?i12 ?l12 ?c12 ?k12) (BF.methAt (PySem.W.mg_of KX G ?tb) ?a13 ?i13 ?l13 ?c13 ?k13) (BF.methAt (PySem.W.mg_of KX G ?tb) ?a14 ?i14 ?l14 ?c14 ?k14) (BF.defAt KX G ?a15 ?l15 ?c15 ?k15) (BF.methAt (PySem.W.mg_of KX G ?tb) ?a16 ?i16 ?l16 ?c16 ?k16) (BF.defAt KX G ?a17 ?l17 ?c17 ?k17) (BF.defAt KX G ?a18 ?l18 ?c18 ?k18) (BF.methAt (PySem.W.mg_of KX G ?tb) ?a19 ?i19 ?l19 ?c19 ?k19) (BF.methAt (PySem.W.mg_of KX G ?tb) ?a20 ?i20 ?l20 ?c20 ?k20) (BF.methAt (PySem.W.mg_of KX G ?tb) ?a21 ?i21 ?l21 ?c21 ?k21) (BF.defAt KX G ?a22 ?l22 ?c22 ?k22) (PySem.W.mg_none_of KX G ?z_all) (PySem.W.mg_none_of KX G ?z_bool) (PySem.W.mg_none_of KX G ?z_int) (PySem.W.mg_none_of KX G ?z_isinstance) (PySem.W.mg_none_of KX G ?z_len) (PySem.W.mg_none_of KX G ?z_list) (PySem.W.mg_none_of KX G ?z_max) (PySem.W.mg_none_of KX G ?z_min) (PySem.W.mg_none_of KX G ?z_range) (PySem.W.mg_none_of KX G ?z_str) (PySem.W.mg_none_of KX G ?z_tuple) ⟨_, PySem.W.mg_of KX G ?m_LETTERS, ⟨_, ?r_LETTERS⟩⟩ (BF.tabC (PySem.W.mg_of KX G ?tb) ?pg ?hd ?po ?sa ?nS) (BF.mkC (PySem.W.mg_of KX G ?tb) ?mk ?kc) (BF.eqC (PySem.W.mg_of KX G ?tb) ?nf) (BF.isC (PySem.W.mg_of KX G ?tb) (BF.tabC (PySem.W.mg_of KX G ?tb) ?pg ?hd ?po ?sa ?nS) ?cca ?hn ?ht ?mo ?clt ?tyt ?nf) (BF.errsC (PySem.W.mg_of KX G ?eh) (PySem.W.mg_of KX G ?ea) (PySem.W.mg_of KX G ?eb) (PySem.W.mg_of KX G ?ec) (PySem.W.mg_of KX G ?ed) ?bh ?dh ?th ?hn ?ht ?xga1 ?xgg1 ?xb1 ?xd1 ?xcc1 ?xmo1 ?xcl1 ?xt1 ?xsh1 ?xga2 ?xgg2 ?xb2 ?xd2 ?xcc2 ?xmo2 ?xcl2 ?xt2 ?xsh2 ?xga3 ?xgg3 ?xb3 ?xd3 ?xcc3 ?xmo3 ?xcl3 ?xt3 ?xsh3 ?xga4 ?xgg4 ?xb4 ?xd4 ?xcc4 ?xmo4 ?xcl4 ?xt4 ?xsh4 ?n12 ?e12 ?n13 ?e13 ?n14 ?e14 ?n21 ?e21 ?n23 ?e23 ?n24 ?e24 ?n31 ?e31 ?n32 ?e32 ?n34 ?e34 ?n41 ?e41 ?n42 ?e42 ?n43 ?e43) ⟨PySem.W.mg_of KX G ?ea, ?y1, ?q1, ?xb1, ?xt1⟩ ⟨PySem.W.mg_of KX G ?eb, ?y2, ?q2, ?xb2, ?xt2⟩ ⟨PySem.W.mg_of KX G ?ec, ?y3, ?q3, ?xb3, ?xt3⟩ ⟨PySem.W.mg_of KX G ?ed, ?y4, ?q4, ?xb4, ?xt4⟩
    (case tb => k_is); (case eh => k_is); (case ea => k_is); (case eb => k_is); (case ec => k_is); (case ed => k_is); (case a0 => k_is); (case l0 => k_is); (case c0 => k_is); (case k0 => k_is); (case a1 => k_is); (case l1 => k_is); (case c1 => k_is); (case k1 => k_is); (case a2 => k_is); (case i2 => k_is); (case l2 => k_is); (case c2 => k_is); (case k2 => k_is); (case a3 => k_is); (case i3 => k_is); (case l3 => k_is); (case c3 => k_is); (case k3 => k_is); (case a4 => k_is); (case l4 => k_is); (case c4 => k_is); (case k4 => k_is); (case a5 => k_is); (case l5 => k_is); (case c5 => k_is); (case k5 => k_is); (case a6 => k_is); (case l6 => k_is); (case c6 => k_is); (case k6 => k_is); (case a7 => k_is); (case l7 => k_is); (case c7 => k_is); (case k7 => k_is); (case a8 => k_is); (case l8 => k_is); (case c8 => k_is); (case k8 => k_is); (case a9 => k_is); (case l9 => k_is); (case c9 => k_is); (case k9 => k_is); (case a10 => k_is); (case l10 => k_is); (case c10 => k_is); (case k10 => k_is); (case a11 => k_is); (case i11 => k_is); (case l11 => k_is); (case c11 => k_is); (case k11 => k_is); (case a12 => k_is); (case i12 => k_is); (case l12 => k_is); (case c12 => k_is); (case k12 => k_is); (case a13 => k_is); (case i13 => k_is); (case l13 => k_is); (case c13 => k_is); (case k13 => k_is); (case a14 => k_is); (case i14 => k_is); (case l14 => k_is); (case c14 => k_is); (case k14 => k_is); (case a15 => k_is); (case l15 => k_is); (case c15 => k_is); (case k15 => k_is); (case a16 => k_is); (case i16 => k_is); (case l16 => k_is); (case c16 => k_is); (case k16 => k_is); (case a17 => k_is); (case l17 => k_is); (case c17 => k_is); (case k17 => k_is); (case a18 => k_is); (case l18 => k_is); (case c18 => k_is); (case k18 => k_is); (case a19 => k_is); (case i19 => k_is); (case l19 => k_is); (case c19 => k_is); (case k19 => k_is); (case a20 => k_is); (case i20 => k_is); (case l20 => k_is); (case c20 => k_is); (case k20 => k_is); (case a21 => k_is); (case i21 => k_is); (case l21 => k_is); (case c21 => k_is); (case k21 => k_is); (case a22 => k_is); (case l22 => k_is); (case c22 => k_is); (case k22 => k_is); (case z_all => k_is); (case z_bool => k_is); (case z_int => k_is); (case z_isinstance => k_is); (case z_len => k_is); (case z_list => k_is); (case z_max => k_is); (case z_min => k_is); (case z_range => k_is); (case z_str => k_is); (case z_tuple => k_is); (case m_LETTERS => k_is); (case pg => k_is); (case hd => k_is); (case po => k_is); (case sa => k_is); (case nS => k_is); (case mk => k_is); (case kc => k_is); (case nf => k_is); (case cca => k_is); (case hn => k_is); (case ht => k_is); (case mo => k_is); (case clt => k_is); (case tyt => k_is); (case bh => k_is); (case dh => k_is); (case th => k_is); (case xga1 => k_is); (case xgg1 => k_is); (case xb1 => k_is); (case xd1 => k_is); (case xcc1 => k_is); (case xmo1 => k_is); (case xcl1 => k_is); (case xt1 => k_is); (case xsh1 => k_is); (case xga2 => k_is); (case xgg2 => k_is); (case xb2 => k_is); (case xd2 => k_is); (case xcc2 => k_is); (case xmo2 => k_is); (case xcl2 => k_is); (case xt2 => k_is); (case xsh2 => k_is); (case xga3 => k_is); (case xgg3 => k_is); (case xb3 => k_is); (case xd3 => k_is); (case xcc3 => k_is); (case xmo3 => k_is); (case xcl3 => k_is); (case xt3 => k_is); (case xsh3 => k_is); (case xga4 => k_is); (case xgg4 => k_is); (case xb4 => k_is); (case xd4 => k_is); (case xcc4 => k_is); (case xmo4 => k_is); (case xcl4 => k_is); (case xt4 => k_is); (case xsh4 => k_is); (case n12 => k_is); (case n13 => k_is); (case n14 => k_is); (case n21 => k_is); (case n23 => k_is); (case n24 => k_is); (case n31 => k_is); (case n32 => k_is); (case n34 => k_is); (case n41 => k_is); (case n42 => k_is); (case n43 => k_is); (case y1 => k_exc); (case q1 => k_is); (case y2 => k_exc); (case q2 => k_is); (case y3 => k_exc); (case q3 => k_is); (case y4 => k_exc); (case q4 => k_is); (case r_LETTERS => exact rfl); (case e12 => exact rfl); (case e13 => exact rfl); (case e14 => exact rfl); (case e21 => exact rfl); (case e23 => exact rfl); (case e24 => exact rfl); (case e31 => exact rfl); (case e32 => exact rfl); (case e34 => exact rfl); (case e41 => exact rfl); (case e42 => exact rfl); (case e43 => exact rfl)
