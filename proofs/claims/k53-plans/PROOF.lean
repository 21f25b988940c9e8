import PyProof.Rows.All
import Wide.All
import OpenK.AllK
import Wide.FinOn
import HandS.ForMost
import HandS.ForExc
import HandS.TryMany
import HandS.IsInst
import HandS.TupAny
import HandS.TupMul
import HandS.Deep
import HandS.Conv
import HandS.Wide
import HandS.Gcd
import HandS.Zip
import PyProof.ListMulAny
import PyProof.Rows.SeqMore
import HandS.Strs
import HandS.SetFor
import KE.GoesEnum
import HandS.Iter
import KE.KTupSum
import KE.DataMinMax
import PySem.Challenge.RW_ledgertongue_k53_whole_plans
set_option Elab.async false
set_option linter.all false
set_option maxRecDepth 100000
set_option autoImplicit false
/-! ## LtOps -/
set_option maxHeartbeats 4000000
/-! Lt, ahead of all: operations on lists that are only read. -/
namespace Lt
open PySem PySem.Spec PyProof.Rows L2
section
variable {X : Cx}
/-- xs + ys, two lists -/
def rCatL (K : PySem.W.Frag) : R2 := fun x y H Q => ∃ a b xs ys, x = .ref a ∧ y = .ref b ∧ SqL K H a xs ∧ SqL K H b ys ∧ xs.length + ys.length ≤ sizeLine ∧ ∀ p, H p = none → Q (.ref p) (upd H p (.lst (xs ++ ys)))
theorem op_catL : OpR X (binaryOp .Add) (rCatL X.K) := by
  intro pins s σ H x y v u Q I rx ry h
  obtain ⟨a, b, xs, ys, rfl, rfl, ha, hb, hz, q⟩ := h
  cases rx
  cases ry
  obtain ⟨i1, r1, p1, _⟩ := I.list ha
  obtain ⟨i2, r2, p2, _⟩ := I.list hb
  obtain ⟨⟨c1, d1, t1, l1⟩, o1, k1, n1, e1⟩ := p1.isList
  obtain ⟨⟨c2, d2, t2, l2⟩, o2, k2, n2, e2⟩ := p2.isList
  simp only at k1 e1 k2 e2
  subst k1 e1 k2 e2
  have hsz : i1.toArray.size + i2.toArray.size ≤ sizeLine := by rw [List.size_toArray, List.size_toArray, ← r1.length, ← r2.length]; exact hz
  refine concat_meets ⟨_, o1, rfl⟩ ⟨_, o2, rfl⟩ noFill_list_add seq_list_add PySem.F.slot_list_add PySem.F.entry_list_add (PySem.F.args_list_add_2 _ _) (list_addW a b i1.toArray i2.toArray n1 n2 d1 d2 l1 l2 hsz) ⟨o1, o2, ?_⟩
  rw [show i1.toArray ++ i2.toArray = (i1 ++ i2).toArray by simp]
  exact ⟨.ref _, _, I.lnew (t' := s.toks) (r1.append r2) (by rw [List.length_append]; exact hz), rfl, q _ I.fresh⟩
/-- xs * k -/
def rRepL (K : PySem.W.Frag) : R2 := fun x y H Q => ∃ a k xs, x = .ref a ∧ y = .int k ∧ SqL K H a xs ∧ -(2 ^ 63) ≤ k ∧ k < 2 ^ 63 ∧ xs.length * k.toNat ≤ sizeLine ∧ ∀ p, H p = none → Q (.ref p) (upd H p (.lst (List.replicate k.toNat xs).flatten))
theorem op_repL : OpR X (binaryOp .Mult) (rRepL X.K) := by
  intro pins s σ H x y v u Q I rx ry h
  obtain ⟨a, k, xs, rfl, rfl, ha, h1, h2, hz, q⟩ := h
  cases rx
  obtain ⟨t, rfl⟩ := ry
  obtain ⟨its, r, p, _⟩ := I.list ha
  obtain ⟨⟨c1, d1, t1, l1⟩, o1, k1, n1, e1⟩ := p.isList
  simp only at k1 e1
  subst k1 e1
  have hl : its.toArray.size * k.toNat ≤ sizeLine := by rw [List.size_toArray, ← r.length]; exact hz
  have m1 : ¬ its.toArray.size * k.toNat > (2 ^ 63 - 1) / 8 := by
    have : (sizeLine : Nat) ≤ (2 ^ 63 - 1) / 8 := by decide
    omega
  have m2 : ¬ (!Builtin.List.listFitsIndex k) = true := by rw [fitsIndex_both h1 h2]; exact Bool.false_ne_true
  have m3 : ¬ Builtin.List.listTooLong (its.toArray.size * k.toNat) = true := by rw [notLongL hl]; exact Bool.false_ne_true
  have new : List.foldl (fun x1 x2 => x1 ++ x2) #[] (List.replicate (if its.toArray.isEmpty = true then 0 else k.toNat) its.toArray) = (List.replicate k.toNat its).flatten.toArray := by
    have f0 : ∀ m : Nat, List.foldl (fun x1 x2 => x1 ++ x2) #[] (List.replicate m its.toArray) = (List.replicate m its).flatten.toArray := fun m => by
      have z := foldl_rep its m []
      rwa [List.nil_append] at z
    rw [f0]
    cases its with
    | nil => simp
    | cons c r' => rw [if_neg (by simp)]
  refine wpAny_binaryOp_repeat_ref (T := "list") (U := "int") (by decide) ⟨_, o1, rfl⟩ (fun s' => typeIs_int s' k t) noFill_list_mul PySem.F.fills_int_mul PySem.F.slot_int_rmul repeat_list PySem.F.slot_int_index.lookup
    (call_meets PySem.F.slot_int_rmul (typeIs_int s k t) PySem.F.entry_int_rmul (PySem.F.args_int_rmul_2 _ _) (lm_int_rmul_list_any k t a its.toArray n1 d1 l1)
      ⟨o1, rfl, ⟨_, o1, rfl⟩, call_meets PySem.F.slot_list_mul ⟨_, o1, rfl⟩ PySem.F.entry_list_mul (PySem.F.args_list_mul_2 _ _) (lm_list_mul_any a its.toArray n1 d1 l1 k t m2 m1 m3) ⟨o1, ?_⟩⟩)
  rw [new]
  exact ⟨.ref _, _, I.lnew (t' := s.toks) (r.rep k.toNat) (by rw [PyProof.Rows.lm_len_rep_flat, Nat.mul_comm]; exact hz), rfl, q _ I.fresh⟩
end
end Lt
/-! ## LtDen -/
set_option maxHeartbeats 4000000
/-! Lt, part 1: what a def means, as a plain function over PyData. -/
namespace Lt
open PySem
theorem line_val : sizeLine = 16777216 := by decide

/-- a result: a value, an error of the class of that name, or nothing that is told -/
inductive Rs (α : Type) where
  | ok (a : α) | exc (c : Str) | bad
def Rs.bind {α β : Type} : Rs α → (α → Rs β) → Rs β
  | .ok a, f => f a
  | .exc c, _ => .exc c
  | .bad, _ => .bad
@[simp] theorem Rs.bind_ok {α β : Type} (a : α) (f : α → Rs β) : (Rs.ok a).bind f = f a := (rfl)
@[simp] theorem Rs.bind_exc {α β : Type} (c : Str) (f : α → Rs β) : (Rs.exc c : Rs α).bind f = .exc c := (rfl)
@[simp] theorem Rs.bind_bad {α β : Type} (f : α → Rs β) : (Rs.bad : Rs α).bind f = .bad := (rfl)
/-- the slots of a def's names -/
abbrev Lv := List (Option PyData)
/-- how a statement ends -/
inductive Os where
  | nx (e : Lv) | rt (p : PyData) | bk (e : Lv) | ct (e : Lv) | exc (c : Str) (e : Lv) | bad
abbrev DE := Lv → Rs PyData
abbrev DT := Lv → Rs Bool
abbrev DA := Lv → Rs (List PyData)
abbrev DL := Lv → Rs (List PyData)
abbrev DS := Lv → Os
abbrev DG := PyData → Lv → Option Lv

/-- a value's operation: nothing is told where it fails -/
def Rs.ofO {α : Type} : Option α → Rs α
  | some a => .ok a
  | none => .bad
@[simp] theorem Rs.ofO_some {α : Type} (a : α) : Rs.ofO (some a) = .ok a := (rfl)
@[simp] theorem Rs.ofO_none {α : Type} : (Rs.ofO none : Rs α) = .bad := (rfl)
/-! ### operations by values -/
def mulOk (i j : Int) : Bool := decide (-18446744073709551616 < i ∧ i < 18446744073709551616) || decide (-18446744073709551616 < j ∧ j < 18446744073709551616)
def pAdd : PyData → PyData → Option PyData
  | .int i, .int j => some (.int (i + j))
  | .str x, .str y => if x.length + y.length ≤ sizeLine then some (.str (x ++ y)) else none
  | .tuple xs, .tuple ys => if xs.length + ys.length ≤ sizeLine then some (.tuple (xs ++ ys)) else none
  | .list xs, .list ys => if xs.length + ys.length ≤ sizeLine then some (.list (xs ++ ys)) else none
  | _, _ => none
def pSub : PyData → PyData → Option PyData
  | .int i, .int j => some (.int (i - j))
  | _, _ => none
def pMul : PyData → PyData → Option PyData
  | .int i, .int j => if mulOk i j then some (.int (i * j)) else none
  | .list xs, .int k => if -9223372036854775808 ≤ k ∧ k < 9223372036854775808 ∧ xs.length * k.toNat ≤ sizeLine then some (.list (List.replicate k.toNat xs).flatten) else none
  | .tuple xs, .int k => if xs ≠ [] ∧ 2 ≤ k ∧ k ≤ 1000 ∧ xs.length ≤ 1000 then some (.tuple (List.replicate k.toNat xs).flatten) else none
  | _, _ => none
/-- two lists: a fresh one; a list times a number: a fresh one -/
def pCatL : PyData → PyData → Option PyData
  | .list xs, .list ys => if xs.length + ys.length ≤ sizeLine then some (.list (xs ++ ys)) else none
  | _, _ => none
def fdivOk (j : Int) : Bool := decide (0 < j ∧ j < 18446744073709551616) || decide (0 < j ∧ j.natAbs.log2 < 9000)
def pFdiv : PyData → PyData → Option PyData
  | .int i, .int j => if fdivOk j = true then some (.int (i / j)) else none
  | _, _ => none
def pMod : PyData → PyData → Option PyData
  | .int i, .int j => if 0 < j then some (.int (i % j)) else none
  | _, _ => none
def pPow : PyData → PyData → Option PyData
  | .int i, .int j => if 0 ≤ j ∧ j ≤ 1000000 ∧ i.natAbs < 2 ^ 64 then some (.int (i ^ j.toNat)) else none
  | _, _ => none
def pNeg : PyData → Option PyData
  | .int i => some (.int (-i))
  | _ => none
/-- the scalars' own comparison -/
def scalD : PyData → PyData → Bool
  | .none, .none => true | .none, .int _ => true | .int _, .none => true | .none, .bool _ => true | .bool _, .none => true | .none, .str _ => true | .str _, .none => true
  | .int _, .int _ => true | .bool _, .bool _ => true | .str _, .str _ => true | .int _, .str _ => true | .str _, .int _ => true | .bool _, .str _ => true | .str _, .bool _ => true
  | _, _ => false
def eqOk (x y : PyData) : Bool := scalD x y || (SeqAt.shaped x && SeqAt.shaped y)
def pEq (x y : PyData) : Option PyData := if eqOk x y = true then some (.bool (PyData.eqv x y)) else none
def pNe (x y : PyData) : Option PyData := if eqOk x y = true then some (.bool (!PyData.eqv x y)) else none
def pLt : PyData → PyData → Option PyData
  | .int i, .int j => some (.bool (decide (i < j)))
  | .str x, .str y => some (.bool (decide (x.cps.toList < y.cps.toList)))
  | _, _ => none
def pLe : PyData → PyData → Option PyData
  | .int i, .int j => some (.bool (decide (i ≤ j)))
  | _, _ => none
def pGt : PyData → PyData → Option PyData
  | .int i, .int j => some (.bool (decide (j < i)))
  | _, _ => none
def pGe : PyData → PyData → Option PyData
  | .int i, .int j => some (.bool (decide (j ≤ i)))
  | _, _ => none
def isNone : PyData → Bool
  | .none => true | _ => false
def pIsN (x : PyData) : Option PyData := some (.bool (isNone x))
def pNotN (x : PyData) : Option PyData := some (.bool (!isNone x))
def pNot : PyData → Option PyData
  | .bool b => some (.bool (!b))
  | _ => none
/-- the items of a list or a tuple -/
def items? : PyData → Option (List PyData)
  | .list xs => some xs
  | .tuple xs => some xs
  | _ => none
def pIx (x y : PyData) : Option PyData :=
  match x, y with
  | .list xs, .int i => L2.atI xs i
  | .tuple xs, .int i => L2.atI xs i
  | .str x, .int i => if x.length ≤ sizeLine then (L2.atI x.cps.toList i).map fun c => .str ⟨#[c]⟩ else none
  | _, _ => none
def cutD (xs : List PyData) (lo hi : Option Int) : List PyData := (xs.drop (HT.sIx xs.length 0 lo)).take (HT.sIx xs.length xs.length hi - HT.sIx xs.length 0 lo)
def pSlice (x : PyData) (lo hi : Option Int) : Option PyData :=
  match x with
  | .list xs => some (.list (cutD xs lo hi))
  | .tuple xs => some (.tuple (cutD xs lo hi))
  | _ => none
def pLen : PyData → Option PyData
  | .list xs => some (.int xs.length)
  | .tuple xs => some (.int xs.length)
  | .str x => if x.length ≤ sizeLine then some (.int x.length) else none
  | _ => none
def pAbs : PyData → Option PyData
  | .int i => some (.int (if i < 0 then -i else i))
  | _ => none
def pInt : PyData → Option PyData
  | .int i => some (.int i)
  | .bool b => some (.int (if b then 1 else 0))
  | _ => none
def pMax2 : PyData → PyData → Option PyData
  | .int i, .int j => some (.int (if j > i then j else i))
  | _, _ => none
def pMin2 : PyData → PyData → Option PyData
  | .int i, .int j => some (.int (if j < i then j else i))
  | _, _ => none
def intsOf? : List PyData → Option (List Int)
  | [] => some []
  | .int i :: r => (intsOf? r).map (i :: ·)
  | _ => none
def boolsOf? : List PyData → Option (List Bool)
  | [] => some []
  | .bool i :: r => (boolsOf? r).map (i :: ·)
  | _ => none
def maxI : List Int → Int
  | [] => 0
  | [x] => x
  | x :: r => max x (maxI r)
def minI : List Int → Int
  | [] => 0
  | [x] => x
  | x :: r => min x (minI r)
def pSum (x : PyData) : Option PyData :=
  match (items? x).bind intsOf? with
  | some ns => some (.int ns.sum)
  | none => none
def pMaxL (x : PyData) : Option PyData :=
  match (items? x).bind intsOf? with
  | some (n :: ns) => some (.int (maxI (n :: ns)))
  | _ => none
def pMinL (x : PyData) : Option PyData :=
  match (items? x).bind intsOf? with
  | some (n :: ns) => some (.int (minI (n :: ns)))
  | _ => none
def pAny (x : PyData) : Option PyData :=
  match x with
  | .list xs => match boolsOf? xs with
    | some bs => some (.bool (bs.any id))
    | none => none
  | _ => none
def pAll (x : PyData) : Option PyData :=
  match x with
  | .list xs => match boolsOf? xs with
    | some bs => some (.bool (bs.all id))
    | none => none
  | _ => none
def pTuple (x : PyData) : Option PyData :=
  match items? x with
  | some xs => some (.tuple xs)
  | none => none
def pList (x : PyData) : Option PyData :=
  match items? x with
  | some xs => some (.list xs)
  | none => none
/-- the built-in classes that isinstance asks for -/
inductive Ty where
  | int | bool | str | tuple | list | dict
def isTy : PyData → Ty → Bool
  | .int _, .int => true
  | .bool _, .int => true
  | .bool _, .bool => true
  | .str _, .str => true
  | .tuple _, .tuple => true
  | .list _, .list => true
  | .dict _, .dict => true
  | _, _ => false
def pIsi (t : Ty) (x : PyData) : Option PyData := some (.bool (isTy x t))

/-! ### expressions -/
def dVar (i : Nat) : DE := fun e => match e[i]? with
  | some (some p) => .ok p
  | _ => .bad
def dC (p : PyData) : DE := fun _ => .ok p
def d1 (f : PyData → Option PyData) (a : DE) : DE := fun e => (a e).bind fun x => .ofO (f x)
def d2 (f : PyData → PyData → Option PyData) (a b : DE) : DE := fun e => (a e).bind fun x => (b e).bind fun y => .ofO (f x y)
def dNil : DA := fun _ => .ok []
def dCons (a : DE) (r : DA) : DA := fun e => (a e).bind fun x => (r e).bind fun xs => .ok (x :: xs)
def dTup (a : DA) : DE := fun e => (a e).bind fun xs => if xs.length ≤ sizeLine then .ok (.tuple xs) else .bad
def dLst (a : DA) : DE := fun e => (a e).bind fun xs => if xs.length ≤ sizeLine then .ok (.list xs) else .bad
def asBool : PyData → Rs Bool
  | .bool b => .ok b
  | _ => .bad
def tOf (a : DE) : DT := fun e => (a e).bind asBool
def tAnd (a b : DT) : DT := fun e => (a e).bind fun c => if c = true then b e else .ok false
def tOr (a b : DT) : DT := fun e => (a e).bind fun c => if c = true then .ok true else b e
def tNot (a : DT) : DT := fun e => (a e).bind fun c => .ok (!c)
def dAnd (a b : DE) : DE := fun e => (a e).bind fun x => (asBool x).bind fun c => if c = true then b e else .ok (.bool false)
def dOr (a b : DE) : DE := fun e => (a e).bind fun x => (asBool x).bind fun c => if c = true then .ok (.bool true) else b e
def dIf (t : DT) (a b : DE) : DE := fun e => (t e).bind fun c => if c = true then a e else b e
/-- a < b < c, b asked once -/
def dChain (f g : PyData → PyData → Option PyData) (a b c : DE) : DE := fun e => (a e).bind fun x => (b e).bind fun y => (Rs.ofO (f x y)).bind fun z => (asBool z).bind fun k => if k = true then (c e).bind fun w => .ofO (g y w) else .ok (.bool false)
def oNone : Lv → Rs (Option Int) := fun _ => .ok none
def oSome (a : DE) : Lv → Rs (Option Int) := fun e => (a e).bind fun x => match x with
  | .int i => .ok (some i)
  | _ => .bad
def dSlice (a : DE) (lo hi : Lv → Rs (Option Int)) : DE := fun e => (a e).bind fun x => (lo e).bind fun l => (hi e).bind fun h => .ofO (pSlice x l h)
/-- a built-in function's call -/
def dB (f : List PyData → Option PyData) (a : DA) : DE := fun e => (a e).bind fun ps => .ofO (f ps)
def u1 (f : PyData → Option PyData) : List PyData → Option PyData
  | [x] => f x
  | _ => none
def u2 (f : PyData → PyData → Option PyData) : List PyData → Option PyData
  | [x, y] => f x y
  | _ => none
def dCall (n : Nat) (f : List PyData → Rs PyData) (a : DA) : DE := fun e => (a e).bind fun ps => if ps.length = n then f ps else .bad
/-- no list and no dict within -/
def isPure : PyData → Bool
  | .none => true | .bool _ => true | .int _ => true | .str _ => true
  | .tuple xs => isPureAll xs
  | .list _ => false | .dict _ => false
where isPureAll : List PyData → Bool
  | [] => true
  | x :: r => isPure x && isPureAll r
def isPureKv : List (PyData × PyData) → Bool
  | [] => true
  | (a, b) :: r => isPure a && isPure b && isPureKv r
def pureRes (b : Bool) (p : PyData) : Bool := if b then (match p with
    | .list xs => isPure.isPureAll xs
    | .dict kvs => isPureKv kvs
    | _ => false) else isPure p
def dPure (b : Bool) (a : DE) : DE := fun e => (a e).bind fun x => if pureRes b x then .ok x else .bad
/-! ### what a loop walks -/
def lSeq (a : DE) : DL := fun e => (a e).bind fun x => match items? x with
  | some xs => .ok xs
  | none => .bad
def range2 (lo hi : Int) : List PyData := (List.range (hi - lo).toNat).map fun (i : Nat) => PyData.int (lo + i)
def rangeOk (i j : Int) : Bool := decide (-16777216 ≤ i ∧ i ≤ 16777216 ∧ -16777216 ≤ j ∧ j ≤ 16777216 ∧ j - i ≤ 16777216)
def lRange1 (a : DE) : DL := fun e => (a e).bind fun x => match x with
  | .int j => if rangeOk 0 j = true then .ok (range2 0 j) else .bad
  | _ => .bad
def lRange2 (a b : DE) : DL := fun e => (a e).bind fun x => (b e).bind fun y => match x, y with
  | .int i, .int j => if rangeOk i j = true then .ok (range2 i j) else .bad
  | _, _ => .bad
/-! ### targets -/
def gSet (i : Nat) : DG := fun p e => some (e.set i (some p))
def gTupGo : List DG → List PyData → Lv → Option Lv
  | [], [], e => some e
  | g :: gs, p :: ps, e => (g p e).bind fun e' => gTupGo gs ps e'
  | _, _, _ => none
def gTup (gs : List DG) : DG := fun p e => match p with
  | .tuple ps => gTupGo gs ps e
  | _ => none
/-! ### comprehensions -/
def wipeL (e : Lv) : List Nat → Lv
  | [] => e
  | v :: vs => (wipeL e vs).set v none
def lcGo (g : DG) (t : DT) (a : DE) (e : Lv) : List PyData → Rs (List PyData)
  | [] => .ok []
  | x :: xs => (Rs.ofO (g x e)).bind fun e1 => (t e1).bind fun c =>
    if c = true then (a e1).bind fun y => (lcGo g t a e xs).bind fun ys => .ok (y :: ys) else lcGo g t a e xs
/-- within a comprehension no error is carried -/
def noX {α : Type} : Rs α → Rs α
  | .exc _ => .bad
  | r => r
@[simp] theorem noX_ok {α : Type} (a : α) : noX (Rs.ok a) = .ok a := (rfl)
@[simp] theorem noX_bad {α : Type} : noX (Rs.bad : Rs α) = .bad := (rfl)
@[simp] theorem noX_exc {α : Type} (c : Str) : noX (Rs.exc c : Rs α) = .bad := (rfl)
def dLc (l : DL) (own : List Nat) (g : DG) (t : DT) (a : DE) : DE := fun e => (l e).bind fun xs => (noX (lcGo g t a (wipeL e own) xs)).bind fun ys => .ok (.list ys)
def tYes : DT := fun _ => .ok true

/-! ### statements -/
def Os.bind : Os → (Lv → Os) → Os
  | .nx e, f => f e
  | .rt p, _ => .rt p
  | .bk e, _ => .bk e
  | .ct e, _ => .ct e
  | .exc c e, _ => .exc c e
  | .bad, _ => .bad
@[simp] theorem Os.bind_nx (e : Lv) (f : Lv → Os) : (Os.nx e).bind f = f e := (rfl)
@[simp] theorem Os.bind_rt (p : PyData) (f : Lv → Os) : (Os.rt p).bind f = .rt p := (rfl)
@[simp] theorem Os.bind_bk (e : Lv) (f : Lv → Os) : (Os.bk e).bind f = .bk e := (rfl)
@[simp] theorem Os.bind_ct (e : Lv) (f : Lv → Os) : (Os.ct e).bind f = .ct e := (rfl)
@[simp] theorem Os.bind_exc (c : Str) (e : Lv) (f : Lv → Os) : (Os.exc c e).bind f = .exc c e := (rfl)
@[simp] theorem Os.bind_bad (f : Lv → Os) : Os.bad.bind f = .bad := (rfl)
/-- what an expression's result does to a statement -/
def Rs.thenO {α : Type} : Rs α → Lv → (α → Os) → Os
  | .ok a, _, f => f a
  | .exc c, e, _ => .exc c e
  | .bad, _, _ => .bad
@[simp] theorem Rs.thenO_ok {α : Type} (a : α) (e : Lv) (f : α → Os) : (Rs.ok a).thenO e f = f a := (rfl)
@[simp] theorem Rs.thenO_exc {α : Type} (c : Str) (e : Lv) (f : α → Os) : (Rs.exc c : Rs α).thenO e f = .exc c e := (rfl)
@[simp] theorem Rs.thenO_bad {α : Type} (e : Lv) (f : α → Os) : (Rs.bad : Rs α).thenO e f = .bad := (rfl)
def sNext : DS := fun e => .nx e
def sSeq (a b : DS) : DS := fun e => (a e).bind b
def sSet (i : Nat) (a : DE) : DS := fun e => (a e).thenO e fun p => .nx (e.set i (some p))
def sAsg (g : DG) (a : DE) : DS := fun e => (a e).thenO e fun p => (Rs.ofO (g p e)).thenO e .nx
def sExpr (a : DE) : DS := fun e => (a e).thenO e fun _ => .nx e
def sRet (a : DE) : DS := fun e => (a e).thenO e .rt
def sRetN : DS := fun _ => .rt .none
def sIf (t : DT) (a b : DS) : DS := fun e => (t e).thenO e fun c => if c = true then a e else b e
def sRaise (c : Str) : DS := fun e => .exc c e
def sAug (i : Nat) (f : PyData → PyData → Option PyData) (a : DE) : DS := fun e => (dVar i e).thenO e fun x => (a e).thenO e fun y => (Rs.ofO (f x y)).thenO e fun z => .nx (e.set i (some z))
/-- two at once -/
def sPar (i j : Nat) (a c : DE) : DS := fun e => (a e).thenO e fun p => (c e).thenO e fun q => .nx ((e.set i (some p)).set j (some q))
def pAddI : PyData → PyData → Option PyData
  | .int i, .int j => some (.int (i + j))
  | .str x, .str y => if x.length + y.length ≤ sizeLine then some (.str (x ++ y)) else none
  | _, _ => none
def asList : PyData → Option (List PyData)
  | .list xs => some xs
  | _ => none
def sAppend (i : Nat) (a : DE) : DS := fun e => (dVar i e).thenO e fun x => (Rs.ofO (asList x)).thenO e fun xs => (a e).thenO e fun y => if xs.length < sizeLine then .nx (e.set i (some (.list (xs ++ [y])))) else .bad
def forGo (g : DG) (b : DS) : List PyData → Lv → Os
  | [], e => .nx e
  | x :: xs, e => (Rs.ofO (g x e)).thenO e fun e1 => match b e1 with
    | .nx e2 => forGo g b xs e2
    | .ct e2 => forGo g b xs e2
    | .bk e2 => .nx e2
    | .rt p => .rt p
    | .exc c e2 => .exc c e2
    | .bad => .bad
def sFor (l : DL) (g : DG) (b : DS) : DS := fun e => (l e).thenO e fun xs => forGo g b xs e
def sBreak : DS := fun e => .bk e
def sCont : DS := fun e => .ct e
/-- a suite of an except lets nothing out -/
def noExc : Os → Os
  | .exc _ _ => .bad
  | o => o
def trySel : List (List Str × DS) → Str → Lv → Os
  | [], c, e => .exc c e
  | (cs, s) :: r, c, e => if cs.contains c then noExc (s e) else trySel r c e
/-- try .. except: all: the classes that are known here; the handlers with the classes that they take -/
def sTry (all : List Str) (b : DS) (hs : List (List Str × DS)) : DS := fun e => match b e with
  | .exc c e' => if all.contains c then trySel hs c e' else .bad
  | o => o
/-- a def's meaning; m names, rb: it gives back a fresh object -/
def runO (rb : Bool) : Os → Rs PyData
  | .nx _ => if rb then .bad else .ok .none
  | .rt p => .ok p
  | .exc c _ => .exc c
  | _ => .bad
def runD (m : Nat) (rb : Bool) (b : DS) : List PyData → Rs PyData := fun ps => runO rb (b (ps.map some ++ List.replicate (m - ps.length) none))
end Lt
/-! ## LtRel -/
set_option maxHeartbeats 4000000
/-! Lt, part 2: how values and slots bear PyData. F: what is frozen for good; a slot is owned or frozen. -/
namespace Lt
open PySem PySem.Spec PyProof.Rows L2

def kD : Key → PyData
  | .inl i => .int i
  | .inr x => .str x
mutual
inductive Rep (K : PySem.W.Frag) (F : Hp) : V → PyData → Prop
  | non : Rep K F .non .none
  | bl (b : Bool) : Rep K F (.bl b) (.bool b)
  | int (i : Int) : Rep K F (.int i) (.int i)
  | str (x : Str) : Rep K F (.str x) (.str x)
  | tup {a : Addr} {vs : List V} {ps : List PyData} : SqT K F a vs → Reps K F vs ps → Rep K F (.ref a) (.tuple ps)
  | lst {a : Addr} {vs : List V} {ps : List PyData} : SqL K F a vs → Reps K F vs ps → Rep K F (.ref a) (.list ps)
  | dK {a : Addr} {kvs : List (Key × V)} {qs : List (PyData × PyData)} : Rd F a (.dK kvs) → RepK K F kvs qs → Rep K F (.ref a) (.dict qs)
  | dT {a : Addr} {kvs : List (List Key × V)} {qs : List (PyData × PyData)} : Rd F a (.dT kvs) → RepT K F kvs qs → Rep K F (.ref a) (.dict qs)
inductive Reps (K : PySem.W.Frag) (F : Hp) : List V → List PyData → Prop
  | nil : Reps K F [] []
  | cons {v : V} {vs : List V} {p : PyData} {ps : List PyData} : Rep K F v p → Reps K F vs ps → Reps K F (v :: vs) (p :: ps)
inductive RepK (K : PySem.W.Frag) (F : Hp) : List (Key × V) → List (PyData × PyData) → Prop
  | nil : RepK K F [] []
  | cons {k : Key} {v : V} {vs : List (Key × V)} {p : PyData} {ps : List (PyData × PyData)} : Rep K F v p → RepK K F vs ps → RepK K F ((k, v) :: vs) ((kD k, p) :: ps)
inductive RepT (K : PySem.W.Frag) (F : Hp) : List (List Key × V) → List (PyData × PyData) → Prop
  | nil : RepT K F [] []
  | cons {ks : List Key} {v : V} {vs : List (List Key × V)} {p : PyData} {ps : List (PyData × PyData)} : Rep K F v p → RepT K F vs ps → RepT K F ((ks, v) :: vs) ((.tuple (ks.map kD), p) :: ps)
end

/-- what can be read in F can be read in F' -/
def Le (F F' : Hp) : Prop := ∀ a u, Rd F a u → Rd F' a u
theorem Le.of {F F' : Hp} (h : ∀ a o, F a = some o → F' a = some o) : Le F F' := fun a u r => by
  rcases r with r | ⟨o, r⟩
  · exact .inl (h a u r)
  · exact .inr ⟨o, h a _ r⟩
theorem Le.sqL {K : PySem.W.Frag} {F F' : Hp} {a : Addr} {xs : List V} (l : Le F F') (h : SqL K F a xs) : SqL K F' a xs := h.imp (l a _) id
theorem Le.sqT {K : PySem.W.Frag} {F F' : Hp} {a : Addr} {xs : List V} (l : Le F F') (h : SqT K F a xs) : SqT K F' a xs := h.imp (l a _) id
mutual
theorem Rep.mono {K : PySem.W.Frag} {F F' : Hp} (l : Le F F') : ∀ {v : V} {p : PyData}, Rep K F v p → Rep K F' v p
  | _, _, .non => .non
  | _, _, .bl b => .bl b
  | _, _, .int b => .int b
  | _, _, .str b => .str b
  | _, _, .tup h r => .tup (l.sqT h) (r.mono l)
  | _, _, .lst h r => .lst (l.sqL h) (r.mono l)
  | _, _, .dK h r => .dK (l _ _ h) (r.mono l)
  | _, _, .dT h r => .dT (l _ _ h) (r.mono l)
theorem Reps.mono {K : PySem.W.Frag} {F F' : Hp} (l : Le F F') : ∀ {v : List V} {p : List PyData}, Reps K F v p → Reps K F' v p
  | _, _, .nil => .nil
  | _, _, .cons h r => .cons (h.mono l) (r.mono l)
theorem RepK.mono {K : PySem.W.Frag} {F F' : Hp} (l : Le F F') : ∀ {v : List (Key × V)} {p : List (PyData × PyData)}, RepK K F v p → RepK K F' v p
  | _, _, .nil => .nil
  | _, _, .cons h r => .cons (h.mono l) (r.mono l)
theorem RepT.mono {K : PySem.W.Frag} {F F' : Hp} (l : Le F F') : ∀ {v : List (List Key × V)} {p : List (PyData × PyData)}, RepT K F v p → RepT K F' v p
  | _, _, .nil => .nil
  | _, _, .cons h r => .cons (h.mono l) (r.mono l)
end
/-- an object bears a list or a dict -/
def ObjRep (K : PySem.W.Frag) (F : Hp) : HO → PyData → Prop
  | .lst vs, .list ps => Reps K F vs ps
  | .dK kvs, .dict qs => RepK K F kvs qs
  | .dT kvs, .dict qs => RepT K F kvs qs
  | _, _ => False
theorem ObjRep.mono {K : PySem.W.Frag} {F F' : Hp} (l : Le F F') {o : HO} {p : PyData} (h : ObjRep K F o p) : ObjRep K F' o p := by
  cases o <;> cases p <;> first
    | exact False.elim h
    | exact Reps.mono l h
    | exact RepK.mono l h
    | exact RepT.mono l h
/-- .. and stands at a: it is frozen there -/
theorem ObjRep.rep {K : PySem.W.Frag} {F : Hp} {a : Addr} {o : HO} {p : PyData} (h : ObjRep K F o p) (e : F a = some o) : Rep K F (.ref a) p := by
  cases o <;> cases p <;> first
    | exact False.elim h
    | exact .lst (.inl (.inl e)) h
    | exact .dK (.inl e) h
    | exact .dT (.inl e) h

/-- no tuple, nothing locked -/
def NoT (x : Option HO) : Prop := (∀ xs, x ≠ some (.tup xs)) ∧ ∀ o u, x ≠ some (.frz o u)
theorem ObjRep.noT {K : PySem.W.Frag} {F : Hp} {o : HO} {p : PyData} (h : ObjRep K F o p) : NoT (some o) := by
  refine ⟨fun xs e => ?_, fun b u e => ?_⟩ <;> (cases e; cases p <;> exact h)
mutual
theorem Rep.pure {K : PySem.W.Frag} {F F' : Hp} (l : ∀ a xs, SqT K F a xs → SqT K F' a xs) : ∀ {v : V} {p : PyData}, Rep K F v p → isPure p = true → Rep K F' v p
  | _, _, .non, _ => .non
  | _, _, .bl b, _ => .bl b
  | _, _, .int b, _ => .int b
  | _, _, .str b, _ => .str b
  | _, _, .tup h r, q => .tup (l _ _ h) (r.pure l (by simpa only [isPure] using q))
  | _, _, .lst h r, q => by simp [isPure] at q
  | _, _, .dK h r, q => by simp [isPure] at q
  | _, _, .dT h r, q => by simp [isPure] at q
theorem Reps.pure {K : PySem.W.Frag} {F F' : Hp} (l : ∀ a xs, SqT K F a xs → SqT K F' a xs) : ∀ {v : List V} {p : List PyData}, Reps K F v p → isPure.isPureAll p = true → Reps K F' v p
  | _, _, .nil, _ => .nil
  | _, _, .cons h r, q => by
    simp only [isPure.isPureAll, Bool.and_eq_true] at q
    exact .cons (h.pure l q.1) (r.pure l q.2)
end
theorem RepK.pure {K : PySem.W.Frag} {F F' : Hp} (l : ∀ a xs, SqT K F a xs → SqT K F' a xs) : ∀ {v : List (Key × V)} {p : List (PyData × PyData)}, RepK K F v p → isPureKv p = true → RepK K F' v p
  | _, _, .nil, _ => .nil
  | _, _, .cons h r, q => by
    simp only [isPureKv, Bool.and_eq_true] at q
    exact .cons (h.pure l q.1.2) (r.pure l q.2)
theorem RepT.pure {K : PySem.W.Frag} {F F' : Hp} (l : ∀ a xs, SqT K F a xs → SqT K F' a xs) : ∀ {v : List (List Key × V)} {p : List (PyData × PyData)}, RepT K F v p → isPureKv p = true → RepT K F' v p
  | _, _, .nil, _ => .nil
  | _, _, .cons h r, q => by
    simp only [isPureKv, Bool.and_eq_true] at q
    exact .cons (h.pure l q.1.2) (r.pure l q.2)
theorem ObjRep.pure {K : PySem.W.Frag} {F F' : Hp} (l : ∀ a xs, SqT K F a xs → SqT K F' a xs) {o : HO} {p : PyData} (h : ObjRep K F o p) (q : pureRes true p = true) : ObjRep K F' o p := by
  cases o <;> cases p <;> first
    | exact False.elim h
    | exact Reps.pure l h q
    | exact RepK.pure l h q
    | exact RepT.pure l h q

/-- the slots: own are the owned ones; H0 F0: the entry -/
structure Rel (K : PySem.W.Frag) (own : List Nat) (H0 F0 F H : Hp) (σ : L2.St) (e : Lv) : Prop where
  sub : ∀ a o, F a = some o → H a = some o
  base : ∀ a o, H0 a = some o → H a = some o
  fb : ∀ a, H0 a ≠ none → F a = F0 a
  fm : ∀ a o, F0 a = some o → F a = some o
  len : σ.length = e.length
  val : ∀ i p, e[i]? = some (some p) → ∃ v, σ[i]? = some (some v) ∧
    (i ∈ own → ∃ a o, v = .ref a ∧ F a = none ∧ H0 a = none ∧ H a = some o ∧ ObjRep K F o p) ∧ (i ∉ own → Rep K F v p)
  sep : ∀ i j a p q, i ≠ j → i ∈ own → j ∈ own → e[i]? = some (some p) → e[j]? = some (some q) → σ[i]? = some (some (.ref a)) → σ[j]? ≠ some (some (.ref a))

/-- a value has come: the heap has grown from H to H', what is frozen from F to F'; b: it is a fresh object of nobody's -/
structure Got (K : PySem.W.Frag) (b : Bool) (F H F' H' : Hp) (v : V) (p : PyData) : Prop where
  hh : ∀ a o, H a = some o → H' a = some o
  ff : ∀ a o, F a = some o → F' a = some o
  fh : ∀ a o, F' a = some o → H' a = some o
  st : ∀ a, H a ≠ none → F' a = F a
  own : b = true → ∃ a o, v = .ref a ∧ H a = none ∧ F' a = none ∧ H' a = some o ∧ ObjRep K F' o p
  rep : b = false → Rep K F' v p
section
variable {K : PySem.W.Frag} {own : List Nat} {H0 F0 F H F' H' F2 H2 : Hp} {σ : L2.St} {e : Lv} {b c : Bool} {v : V} {p : PyData}
theorem Got.same (g : Got K b F H F' H' v p) : Same H H' := g.hh
theorem Got.le (g : Got K b F H F' H' v p) : Le F F' := .of g.ff
/-- a value that was there -/
theorem Got.here (sub : ∀ a o, F a = some o → H a = some o) (r : Rep K F v p) : Got K false F H F H v p :=
  ⟨fun _ _ h => h, fun _ _ h => h, sub, fun _ _ => rfl, fun h => Bool.noConfusion h, fun _ => r⟩
theorem Got.free (g : Got K b F H F' H' v p) {a : Addr} (h : H' a = none) : H a = none := by
  cases q : H a with
  | none => rfl
  | some o => rw [g.hh a o q] at h; cases h
theorem Got.trans {v' : V} {p' : PyData} (g : Got K c F H F' H' v' p') (g' : Got K b F' H' F2 H2 v p) : Got K b F H F2 H2 v p where
  hh := fun a o h => g'.hh a o (g.hh a o h)
  ff := fun a o h => g'.ff a o (g.ff a o h)
  fh := g'.fh
  st := fun a h => by
    have h1 : H' a ≠ none := fun z => h (g.free z)
    rw [g'.st a h1, g.st a h]
  own := fun hb => by
    obtain ⟨a, o, e1, e2, e3⟩ := g'.own hb
    exact ⟨a, o, e1, g.free e2, e3⟩
  rep := g'.rep
/-- a fresh object is frozen -/
theorem Got.freeze (g : Got K b F H F' H' v p) : ∃ F2, Got K false F H F2 H' v p := by
  cases b with
  | false => exact ⟨F', g⟩
  | true =>
    obtain ⟨a, o, rfl, e1, e2, e3, r⟩ := g.own rfl
    have hm : ∀ x u, F' x = some u → upd F' a o x = some u := fun x u h => by
      rw [upd_ne (ne_of_none h e2)]; exact h
    refine ⟨upd F' a o, g.hh, fun x u h => hm x u (g.ff x u h), fun x u h => ?_, fun x h => ?_, fun h => Bool.noConfusion h, fun _ => (r.mono (.of hm)).rep upd_same⟩
    · by_cases hx : x = a
      · subst hx; rw [upd_same] at h; cases h; exact e3
      · rw [upd_ne hx] at h; exact g.fh x u h
    · rw [upd_ne (fun z => by rw [z] at h; exact h e1)]; exact g.st x h
theorem Rel.grow (r : Rel K own H0 F0 F H σ e) (hh : ∀ a o, H a = some o → H' a = some o) (ff : ∀ a o, F a = some o → F' a = some o) (fh : ∀ a o, F' a = some o → H' a = some o)
    (st : ∀ a, H a ≠ none → F' a = F a) : Rel K own H0 F0 F' H' σ e where
  sub := fh
  base := fun a o h => hh a o (r.base a o h)
  fb := fun a h => by
    obtain ⟨o, ho⟩ := Option.ne_none_iff_exists'.mp h
    have h1 : H a ≠ none := by rw [r.base a o ho]; simp
    rw [st a h1]; exact r.fb a h
  fm := fun a o h => ff a o (r.fm a o h)
  len := r.len
  val := fun i p h => by
    obtain ⟨v, h1, h2, h3⟩ := r.val i p h
    refine ⟨v, h1, fun hi => ?_, fun hi => (h3 hi).mono (.of ff)⟩
    obtain ⟨a, o, q1, q2, q3, q4, q5⟩ := h2 hi
    refine ⟨a, o, q1, ?_, q3, hh a o q4, q5.mono (.of ff)⟩
    rw [st a (by rw [q4]; simp)]; exact q2
  sep := r.sep
theorem Rel.got (r : Rel K own H0 F0 F H σ e) {v : V} {p : PyData} (g : Got K b F H F' H' v p) : Rel K own H0 F0 F' H' σ e := r.grow g.hh g.ff g.fh g.st
/-- from the entry on -/
theorem Rel.out (r : Rel K own H0 F0 F H σ e) (g : Got K b F H F' H' v p) : Got K b F0 H0 F' H' v p where
  hh := fun a o h => g.hh a o (r.base a o h)
  ff := fun a o h => g.ff a o (r.fm a o h)
  fh := g.fh
  st := fun a h => by
    obtain ⟨o, ho⟩ := Option.ne_none_iff_exists'.mp h
    have h1 : H a ≠ none := by rw [r.base a o ho]; simp
    rw [g.st a h1]; exact r.fb a h
  own := fun hb => by
    obtain ⟨a, o, e1, e2, e3⟩ := g.own hb
    refine ⟨a, o, e1, ?_, e3⟩
    cases q : H0 a with
    | none => rfl
    | some u => rw [r.base a u q] at e2; cases e2
  rep := g.rep
/-- an owned slot is frozen -/
theorem Rel.freeze1 (r : Rel K own H0 F0 F H σ e) (i : Nat) : ∃ F', Rel K (own.filter (· ≠ i)) H0 F0 F' H σ e ∧ (∀ a o, F a = some o → F' a = some o) ∧ (∀ a, F' a ≠ F a → F a = none ∧ H0 a = none ∧ NoT (F' a)) := by
  have hmem : ∀ j, j ∈ own.filter (· ≠ i) ↔ j ∈ own ∧ j ≠ i := fun j => by simp [List.mem_filter]
  by_cases hi : i ∈ own
  · cases hp : e[i]? with
    | none =>
      refine ⟨F, ⟨r.sub, r.base, r.fb, r.fm, r.len, fun j p h => ?_, fun j k a p q h h1 h2 => r.sep j k a p q h ((hmem j).mp h1).1 ((hmem k).mp h2).1⟩, fun _ _ h => h, fun a h => absurd rfl h⟩
      obtain ⟨v, q1, q2, q3⟩ := r.val j p h
      have hj : j ≠ i := fun z => by subst z; rw [hp] at h; cases h
      exact ⟨v, q1, fun z => q2 ((hmem j).mp z).1, fun z => q3 fun w => z ((hmem j).mpr ⟨w, hj⟩)⟩
    | some op =>
      cases op with
      | none =>
        refine ⟨F, ⟨r.sub, r.base, r.fb, r.fm, r.len, fun j p h => ?_, fun j k a p q h h1 h2 => r.sep j k a p q h ((hmem j).mp h1).1 ((hmem k).mp h2).1⟩, fun _ _ h => h, fun a h => absurd rfl h⟩
        obtain ⟨v, q1, q2, q3⟩ := r.val j p h
        have hj : j ≠ i := fun z => by subst z; rw [hp] at h; cases h
        exact ⟨v, q1, fun z => q2 ((hmem j).mp z).1, fun z => q3 fun w => z ((hmem j).mpr ⟨w, hj⟩)⟩
      | some p0 =>
        obtain ⟨v, q1, q2, _⟩ := r.val i p0 hp
        obtain ⟨a, o, rfl, w1, w2, w3, w4⟩ := q2 hi
        have hm : ∀ x u, F x = some u → upd F a o x = some u := fun x u h => by
          rw [upd_ne (ne_of_none h w1)]; exact h
        refine ⟨upd F a o, ⟨fun x u h => ?_, r.base, fun x h => ?_, fun x u h => hm x u (r.fm x u h), r.len, fun j p h => ?_, fun j k b p q h h1 h2 => r.sep j k b p q h ((hmem j).mp h1).1 ((hmem k).mp h2).1⟩, hm, fun x h => ?_⟩
        · by_cases hx : x = a
          · subst hx; rw [upd_same] at h; cases h; exact w3
          · rw [upd_ne hx] at h; exact r.sub x u h
        · rw [upd_ne (fun z => by rw [z] at h; exact h w2)]; exact r.fb x h
        · obtain ⟨v, z1, z2, z3⟩ := r.val j p h
          refine ⟨v, z1, fun z => ?_, fun z => ?_⟩
          · obtain ⟨hj, hne⟩ := (hmem j).mp z
            obtain ⟨b, u, rfl, x1, x2, x3, x4⟩ := z2 hj
            refine ⟨b, u, rfl, ?_, x2, x3, x4.mono (.of hm)⟩
            have : b ≠ a := fun y => by
              subst y
              exact r.sep j i b p p0 hne hj hi h hp z1 q1
            rw [upd_ne this]; exact x1
          · by_cases hj : j = i
            · subst hj
              rw [hp] at h; cases h
              rw [q1] at z1; cases z1
              exact (w4.mono (.of hm)).rep upd_same
            · exact (z3 fun w => z ((hmem j).mpr ⟨w, hj⟩)).mono (.of hm)
        · by_cases hx : x = a
          · subst hx
            refine ⟨w1, w2, ?_⟩
            rw [upd_same]
            exact w4.noT
          · exact absurd (upd_ne hx) h
  · refine ⟨F, ⟨r.sub, r.base, r.fb, r.fm, r.len, fun j p h => ?_, fun j k a p q h h1 h2 => r.sep j k a p q h ((hmem j).mp h1).1 ((hmem k).mp h2).1⟩, fun _ _ h => h, fun a h => absurd rfl h⟩
    obtain ⟨v, q1, q2, q3⟩ := r.val j p h
    exact ⟨v, q1, fun z => q2 ((hmem j).mp z).1, fun z => q3 fun w => z ((hmem j).mpr ⟨w, fun y => hi (y ▸ w)⟩)⟩
/-- own without some -/
def less (own : List Nat) : List Nat → List Nat
  | [] => own
  | i :: r => (less own r).filter (· ≠ i)
theorem Rel.freeze (r : Rel K own H0 F0 F H σ e) : ∀ (S : List Nat), ∃ F', Rel K (less own S) H0 F0 F' H σ e ∧ (∀ a o, F a = some o → F' a = some o) ∧ (∀ a, F' a ≠ F a → F a = none ∧ H0 a = none ∧ NoT (F' a))
  | [] => ⟨F, r, fun _ _ h => h, fun a h => absurd rfl h⟩
  | i :: S => by
    obtain ⟨F1, r1, m1, n1⟩ := Rel.freeze r S
    obtain ⟨F2, r2, m2, n2⟩ := r1.freeze1 i
    refine ⟨F2, r2, fun a o h => m2 a o (m1 a o h), fun a h => ?_⟩
    by_cases h1 : F1 a = F a
    · rw [← h1] at h
      have := n2 a h
      rw [h1] at this
      exact this
    · obtain ⟨x1, x2, x3⟩ := n1 a h1
      refine ⟨x1, x2, ?_⟩
      by_cases h2 : F2 a = F1 a
      · exact h2 ▸ x3
      · exact (n2 a h2).2.2
theorem mem_less {own : List Nat} {j : Nat} : ∀ {S : List Nat}, j ∈ less own S ↔ j ∈ own ∧ j ∉ S
  | [] => by simp [less]
  | i :: S => by
    unfold less
    rw [List.mem_filter, mem_less (S := S)]
    simp only [ne_eq, decide_not, Bool.not_eq_true', decide_eq_false_iff_not, List.mem_cons, not_or]
    constructor
    · rintro ⟨⟨a, b⟩, c⟩; exact ⟨a, c, b⟩
    · rintro ⟨a, c, b⟩; exact ⟨⟨a, b⟩, c⟩
/-- the same set of owned slots -/
theorem Rel.conv {own' : List Nat} (r : Rel K own H0 F0 F H σ e) (h : ∀ j, j ∈ own' ↔ j ∈ own) : Rel K own' H0 F0 F H σ e :=
  ⟨r.sub, r.base, r.fb, r.fm, r.len, fun i p hp => by
    obtain ⟨v, h1, h2, h3⟩ := r.val i p hp
    exact ⟨v, h1, fun hi => h2 ((h i).mp hi), fun hi => h3 fun z => hi ((h i).mpr z)⟩, fun i j a p q hn h1 h2 => r.sep i j a p q hn ((h i).mp h1) ((h j).mp h2)⟩
/-- fewer are owned -/
theorem Rel.weak {own' : List Nat} (r : Rel K own H0 F0 F H σ e) (h : ∀ j ∈ own', j ∈ own) : ∃ F', Rel K own' H0 F0 F' H σ e := by
  obtain ⟨F', r', _⟩ := r.freeze (own.filter fun j => decide (j ∉ own'))
  refine ⟨F', r'.conv fun j => ?_⟩
  rw [mem_less]
  constructor
  · intro hj
    refine ⟨h j hj, fun z => ?_⟩
    have := (List.mem_filter.mp z).2
    simp [hj] at this
  · rintro ⟨h1, h2⟩
    by_cases hj : j ∈ own'
    · exact hj
    · exact absurd (List.mem_filter.mpr ⟨h1, by simpa using hj⟩) h2

/-- what was lent comes back: the result holds nothing of it -/
theorem Got.back {F1 : Hp} (rel : Rel K own H0 F0 F H σ e) (m : ∀ a o, F a = some o → F1 a = some o) (n : ∀ a, F1 a ≠ F a → F a = none ∧ H0 a = none ∧ NoT (F1 a)) (s1 : ∀ a o, F1 a = some o → H a = some o)
    (g : Got K b F1 H F' H' v p) (q : pureRes b p = true) : ∃ F2, Got K b F H F2 H' v p := by
  classical
  have key : ∀ a, F1 a ≠ F a → F' a = F1 a := fun a h => by
    obtain ⟨h1, _, _⟩ := n a h
    refine g.st a fun z => h ?_
    cases w : F1 a with
    | none => rw [h1]
    | some u => rw [s1 a u w] at z; cases z
  have lt : ∀ a xs, SqT K F' a xs → SqT K (fun a => if F1 a = F a then F' a else F a) a xs := fun a xs h => by
    refine h.imp (fun r => ?_) id
    by_cases hd : F1 a = F a
    · rcases r with r | ⟨o, r⟩
      · exact .inl (by show (if F1 a = F a then F' a else F a) = _; rw [if_pos hd]; exact r)
      · exact .inr ⟨o, by show (if F1 a = F a then F' a else F a) = _; rw [if_pos hd]; exact r⟩
    · obtain ⟨_, _, h3, h4⟩ := n a hd
      rcases r with r | ⟨o, r⟩
      · rw [key a hd] at r; exact absurd r (h3 _)
      · rw [key a hd] at r; exact absurd r (h4 _ _)
  refine ⟨fun a => if F1 a = F a then F' a else F a, g.hh, fun a o h => ?_, fun a o h => ?_, fun a h => ?_, fun hb => ?_, fun hb => ?_⟩
  · by_cases hd : F1 a = F a
    · show (if F1 a = F a then F' a else F a) = _
      rw [if_pos hd]; exact g.ff a o (m a o h)
    · show (if F1 a = F a then F' a else F a) = _
      rw [if_neg hd]; exact h
  · by_cases hd : F1 a = F a
    · have h : (if F1 a = F a then F' a else F a) = some o := h
      rw [if_pos hd] at h; exact g.fh a o h
    · have h : (if F1 a = F a then F' a else F a) = some o := h
      rw [if_neg hd, (n a hd).1] at h; cases h
  · by_cases hd : F1 a = F a
    · show (if F1 a = F a then F' a else F a) = _
      rw [if_pos hd, g.st a h]; exact hd
    · show (if F1 a = F a then F' a else F a) = _
      rw [if_neg hd]
  · subst hb
    obtain ⟨a, o, rfl, e1, e2, e3, r⟩ := g.own rfl
    refine ⟨a, o, rfl, e1, ?_, e3, r.pure lt q⟩
    by_cases hd : F1 a = F a
    · show (if F1 a = F a then F' a else F a) = _
      rw [if_pos hd]; exact e2
    · show (if F1 a = F a then F' a else F a) = _
      rw [if_neg hd]; exact (n a hd).1
  · subst hb
    exact (g.rep rfl).pure lt q
end
end Lt
/-! ## LtSnd -/
set_option maxHeartbeats 4000000
/-! Lt, part 3: each construct of Python bears the reading of its combinator. -/
namespace Lt
open PySem PySem.Spec PyProof.Rows L2

/-- the class that an error's name names -/
def excV (mg : Str → Option Value) (c : Str) : Value := (mg c).getD .none
/-- where code runs: a def's body, a try's body, a comprehension's block; W: what is wished of errors -/
structure Cxt (X : Cx) (W : WX) (k : Nat) : Prop where
  calm : X.calm = true
  nd : X.N.Nodup
  tk : Takes X W
  hp : PassesOwn (model X.prog X.w) X.A X.env X.xe
  room : Room k X.A
theorem Cxt.u1 {X : Cx} {W : WX} {k : Nat} (C : Cxt X W k) : X.A.units + 1 < cLine := by have := C.room.un; omega
theorem Cxt.u64 {X : Cx} {W : WX} {k : Nat} (C : Cxt X W k) : X.A.units + 64 < cLine := by have := C.room.un; omega
/-- no error leaves -/
abbrev noW : WX := fun _ _ _ _ => False
/-- what a result asks -/
def Out (mg : Str → Option Value) (W : WX) (σ : L2.St) (H : Hp) {α : Type} (r : Rs α) (k : α → Prop) : Prop :=
  match r with
  | .ok a => k a
  | .exc c => ∀ H', Same H H' → W (excV mg c) none σ H'
  | .bad => False
section
variable {mg : Str → Option Value} {W : WX} {σ : L2.St} {H H1 : Hp} {α β : Type}
theorem Out.bind {r : Rs α} {f : α → Rs β} {k : β → Prop} (h : Out mg W σ H (r.bind f) k) : Out mg W σ H r fun a => Out mg W σ H (f a) k := by
  cases r <;> exact h
theorem Out.imp {r : Rs α} {k k' : α → Prop} (h : Out mg W σ H r k) (m : ∀ a, k a → k' a) : Out mg W σ H r k' := by
  cases r with
  | ok a => exact m a h
  | exc c => exact h
  | bad => exact h
theorem Out.later {r : Rs α} {k : α → Prop} (h : Out mg W σ H r k) (s : Same H H1) : Out mg W σ H1 r k := by
  cases r with
  | ok a => exact h
  | exc c => exact fun H' s' => h H' (s.trans s')
  | bad => exact h
theorem Out.ofO {r : Option α} {k : α → Prop} (h : Out mg W σ H (Rs.ofO r) k) : ∃ a, r = some a ∧ k a := by
  cases r with
  | none => exact False.elim h
  | some a => exact ⟨a, rfl, h⟩
theorem Out.asBool {z : PyData} {f : Bool → Rs β} {k : β → Prop} (h : Out mg W σ H ((asBool z).bind f) k) : ∃ c, z = .bool c ∧ Out mg W σ H (f c) k := by
  cases z with
  | bool c => exact ⟨c, rfl, h⟩
  | _ => exact False.elim h
theorem Out.ok {a : α} {k : α → Prop} (h : Out mg W σ H (.ok a) k) : k a := h
end
/-- an expression's reading: from a state that bears e it gives what d gives -/
def TD (K : PySem.W.Frag) (mg : Str → Option Value) (W : WX) (own : List Nat) (b : Bool) (d : DE) : TE := fun σ H Q => ∃ H0 F0 F e, Rel K own H0 F0 F H σ e ∧
  Out mg W σ H (d e) fun p => ∀ v F' H', Got K b F H F' H' v p → Q v H'
def TDT (K : PySem.W.Frag) (mg : Str → Option Value) (W : WX) (own : List Nat) (d : DT) : TT := fun σ H Q => ∃ H0 F0 F e, Rel K own H0 F0 F H σ e ∧
  Out mg W σ H (d e) fun p => ∀ F' H', Got K false F H F' H' .non .none → Q p H'
/-- several values, frozen -/
structure Gots (K : PySem.W.Frag) (F H F' H' : Hp) (vs : List V) (ps : List PyData) : Prop where
  got : Got K false F H F' H' .non .none
  rep : Reps K F' vs ps
def TDA (K : PySem.W.Frag) (mg : Str → Option Value) (W : WX) (own : List Nat) (d : DA) : TA := fun σ H Q => ∃ H0 F0 F e, Rel K own H0 F0 F H σ e ∧
  Out mg W σ H (d e) fun ps => ∀ vs F' H', Gots K F H F' H' vs ps → Q vs H'
def TDO (K : PySem.W.Frag) (mg : Str → Option Value) (W : WX) (own : List Nat) (d : Lv → Rs (Option Int)) : TO := fun σ H Q => ∃ H0 F0 F e, Rel K own H0 F0 F H σ e ∧
  Out mg W σ H (d e) fun o => ∀ F' H', Got K false F H F' H' .non .none → Q o H'

theorem PE.imp {X : Cx} {e : Expr} {t t' : TE} (h : PE X e t) (m : ∀ σ H Q, t' σ H Q → t σ H Q) : PE X e t' := ⟨fun pins s σ H Q I q => h.run pins s σ H Q I (m σ H Q q)⟩
theorem PT.imp {X : Cx} {e : Expr} {t t' : TT} (h : PT X e t) (m : ∀ σ H Q, t' σ H Q → t σ H Q) : PT X e t' := ⟨fun pins s σ H Q I q => h.run pins s σ H Q I (m σ H Q q)⟩
theorem PW.imp {X : Cx} {e : Expr} {t t' : TT} (h : PW X e t) (m : ∀ σ H Q, t' σ H Q → t σ H Q) : PW X e t' := ⟨fun wh pins s σ H Q I q => h.run wh pins s σ H Q I (m σ H Q q)⟩
theorem PA.imp {X : Cx} {e : List Expr} {t t' : TA} (h : PA X e t) (m : ∀ σ H Q, t' σ H Q → t σ H Q) : PA X e t' := ⟨fun pos pins s σ H Q I q => h.run pos pins s σ H Q I (m σ H Q q)⟩
theorem PO.imp {X : Cx} {e : Option Expr} {t t' : TO} (h : PO X e t) (m : ∀ σ H Q, t' σ H Q → t σ H Q) : PO X e t' := ⟨fun pins s σ H Q I q => h.run pins s σ H Q I (m σ H Q q)⟩
theorem PS.imp {X : Cx} {e : Stmt} {t t' : TS} (h : PS X e t) (m : ∀ D σ H, t' D σ H → t D σ H) : PS X e t' := ⟨fun pins s σ H D I q => h.run pins s σ H D I (m D σ H q)⟩
theorem PSs.imp {X : Cx} {e : List Stmt} {t t' : TS} (h : PSs X e t) (m : ∀ D σ H, t' D σ H → t D σ H) : PSs X e t' := ⟨fun pins s σ H D I q => h.run pins s σ H D I (m D σ H q)⟩

section
variable {K : PySem.W.Frag} {F H F' H' F2 H2 : Hp} {v u : V} {p q : PyData} {vs : List V} {ps : List PyData} {b : Bool}
theorem Gots.le (g : Gots K F H F' H' vs ps) : Le F F' := .of g.got.ff
theorem Got.plain (g : Got K b F H F' H' v p) : Got K false F H F' H' .non .none := ⟨g.hh, g.ff, g.fh, g.st, fun h => Bool.noConfusion h, fun _ => .non⟩
theorem Got.as (g : Got K b F H F' H' v p) (r : Rep K F' u q) : Got K false F H F' H' u q := ⟨g.hh, g.ff, g.fh, g.st, fun h => Bool.noConfusion h, fun _ => r⟩
theorem Got.id (sub : ∀ a o, F a = some o → H a = some o) : Got K false F H F H .non .none := .here sub .non
/-- a new object at a: a fresh list or dict of nobody's -/
theorem Got.fresh {a : Addr} {o : HO} {p : PyData} (sub : ∀ a o, F a = some o → H a = some o) (n : H a = none) (r : ObjRep K F o p) : Got K true F H F (upd H a o) (.ref a) p :=
  have fn : F a = none := by
    cases q : F a with
    | none => rfl
    | some u => rw [sub a u q] at n; cases n
  ⟨fun x u h => by rw [upd_ne (ne_of_none h n)]; exact h, fun _ _ h => h, fun x u h => by rw [upd_ne (ne_of_none (sub x u h) n)]; exact sub x u h, fun _ _ => rfl, fun _ => ⟨a, o, rfl, n, fn, upd_same, r⟩, fun h => Bool.noConfusion h⟩
/-- .. a new tuple -/
theorem Got.newT {a : Addr} {vs : List V} {ps : List PyData} (sub : ∀ a o, F a = some o → H a = some o) (n : H a = none) (r : Reps K F vs ps) : Got K false F H (upd F a (.tup vs)) (upd H a (.tup vs)) (.ref a) (.tuple ps) :=
  have fn : F a = none := by
    cases q : F a with
    | none => rfl
    | some u => rw [sub a u q] at n; cases n
  have hm : ∀ x u, F x = some u → upd F a (.tup vs) x = some u := fun x u h => by rw [upd_ne (ne_of_none h fn)]; exact h
  ⟨fun x u h => by rw [upd_ne (ne_of_none h n)]; exact h, hm, fun x u h => by
    by_cases hx : x = a
    · subst hx; rw [upd_same] at h ⊢; exact h
    · rw [upd_ne hx] at h ⊢; exact sub x u h, fun x h => upd_ne (fun z => by rw [z] at h; exact h n), fun h => Bool.noConfusion h, fun _ => .tup (.inl (.inl upd_same)) (r.mono (.of hm))⟩
theorem Reps.length {K : PySem.W.Frag} {F : Hp} : ∀ {vs : List V} {ps : List PyData}, Reps K F vs ps → vs.length = ps.length
  | _, _, .nil => rfl
  | _, _, .cons _ r => by simp [r.length]
theorem Reps.get {K : PySem.W.Frag} {F : Hp} : ∀ {vs : List V} {ps : List PyData} {i : Nat} {p : PyData}, Reps K F vs ps → ps[i]? = some p → ∃ v, vs[i]? = some v ∧ Rep K F v p
  | _, _, 0, _, .cons r _, e => by simp at e; subst e; exact ⟨_, rfl, r⟩
  | _, _, i + 1, p, .cons _ t, e => by
    obtain ⟨v, h1, h2⟩ := Reps.get (i := i) (p := p) t (by simpa using e)
    exact ⟨v, by simpa using h1, h2⟩
  | _, _, _, _, .nil, e => by simp at e
theorem Reps.app {K : PySem.W.Frag} {F : Hp} : ∀ {vs us : List V} {ps qs : List PyData}, Reps K F vs ps → Reps K F us qs → Reps K F (vs ++ us) (ps ++ qs)
  | _, _, _, _, .nil, s => s
  | _, _, _, _, .cons r t, s => .cons r (t.app s)
theorem Reps.take {K : PySem.W.Frag} {F : Hp} : ∀ {vs : List V} {ps : List PyData} (n : Nat), Reps K F vs ps → Reps K F (vs.take n) (ps.take n)
  | _, _, 0, _ => .nil
  | _, _, _ + 1, .nil => .nil
  | _, _, n + 1, .cons r t => .cons r (t.take n)
theorem Reps.drop {K : PySem.W.Frag} {F : Hp} : ∀ {vs : List V} {ps : List PyData} (n : Nat), Reps K F vs ps → Reps K F (vs.drop n) (ps.drop n)
  | _, _, 0, r => r
  | _, _, _ + 1, .nil => .nil
  | _, _, n + 1, .cons r t => t.drop n
theorem Reps.set {K : PySem.W.Frag} {F : Hp} {v : V} {p : PyData} (h : Rep K F v p) : ∀ {vs : List V} {ps : List PyData} (n : Nat), Reps K F vs ps → Reps K F (vs.set n v) (ps.set n p)
  | _, _, _, .nil => .nil
  | _, _, 0, .cons r t => .cons h t
  | _, _, n + 1, .cons r t => .cons r (t.set h n)
theorem Reps.one {K : PySem.W.Frag} {F : Hp} {vs : List V} {p : PyData} (r : Reps K F vs [p]) : ∃ v, vs = [v] ∧ Rep K F v p := by
  cases r with
  | cons r t => cases t; exact ⟨_, rfl, r⟩
theorem Reps.two {K : PySem.W.Frag} {F : Hp} {vs : List V} {p q : PyData} (r : Reps K F vs [p, q]) : ∃ v u, vs = [v, u] ∧ Rep K F v p ∧ Rep K F u q := by
  cases r with
  | cons r t =>
    obtain ⟨u, rfl, h⟩ := t.one
    exact ⟨_, u, rfl, r, h⟩
theorem Rep.sq {K : PySem.W.Frag} {F : Hp} {v : V} {p : PyData} {ps : List PyData} (r : Rep K F v p) (h : items? p = some ps) : ∃ a vs, v = .ref a ∧ (SqL K F a vs ∨ SqT K F a vs) ∧ Reps K F vs ps := by
  cases r <;> simp [items?] at h
  · subst h; exact ⟨_, _, rfl, .inr ‹_›, ‹_›⟩
  · subst h; exact ⟨_, _, rfl, .inl ‹_›, ‹_›⟩
theorem Rep.intD {K : PySem.W.Frag} {F : Hp} {v : V} {i : Int} (r : Rep K F v (.int i)) : v = .int i := by cases r; rfl
theorem Rep.blD {K : PySem.W.Frag} {F : Hp} {v : V} {i : Bool} (r : Rep K F v (.bool i)) : v = .bl i := by cases r; rfl
theorem Rep.strD {K : PySem.W.Frag} {F : Hp} {v : V} {i : Str} (r : Rep K F v (.str i)) : v = .str i := by cases r; rfl
theorem Rep.tupD {K : PySem.W.Frag} {F : Hp} {v : V} {ps : List PyData} (r : Rep K F v (.tuple ps)) : ∃ a vs, v = .ref a ∧ SqT K F a vs ∧ Reps K F vs ps := by
  cases r; exact ⟨_, _, rfl, ‹_›, ‹_›⟩
theorem Rep.lstD {K : PySem.W.Frag} {F : Hp} {v : V} {ps : List PyData} (r : Rep K F v (.list ps)) : ∃ a vs, v = .ref a ∧ SqL K F a vs ∧ Reps K F vs ps := by
  cases r; exact ⟨_, _, rfl, ‹_›, ‹_›⟩
end

section
variable {X : Cx} {W : WX} {k : Nat} {own own' : List Nat} {b : Bool} {pos : Pos}
/-- a fresh object, frozen at once -/
theorem fz {e : Expr} {d : DE} (h : PE X e (TD X.K X.mg W own true d)) : PE X e (TD X.K X.mg W own false d) :=
  PE.imp h fun σ H Q ⟨H0, F0, F, l, r, q⟩ => ⟨H0, F0, F, l, r, q.imp fun p z v F' H' g => by
    obtain ⟨F2, g2⟩ := g.freeze
    exact z v F2 H' g2⟩
theorem unbT (S : List Nat) {ow : List Nat} {e : Expr} {d : DT} (h : PT X e (TDT X.K X.mg W ow d)) (hl : less own S = ow := by rfl) : PT X e (TDT X.K X.mg W own d) := by
  subst hl
  exact PT.imp h fun σ H Q ⟨H0, F0, F, l, r, q⟩ => by
    obtain ⟨F1, r1, m, n⟩ := r.freeze S
    refine ⟨H0, F0, F1, l, r1, q.imp fun p z F' H' g => ?_⟩
    obtain ⟨F2, g2⟩ := Got.back r m n r1.sub g rfl
    exact z F2 H' g2

/-! ### names and constants -/
theorem e_var (i : Nat) {x : Str} (hi : i ∉ own := by decide) (hN : X.N[i]? = some x := by rfl) (hv : Vis X.env.scope x := by first | exact Or.inl rfl | exact Or.inr (Or.inl rfl) | exact Or.inr (Or.inr rfl)) (hd : (x == ("__debug__" : Str)) = false := by decide)
    (hcd : (x == ("__classdict__" : Str)) = false := by decide) : PE X (.Name x pos) (TD X.K X.mg W own false (dVar i)) :=
  PE.imp (pe_var hN hv hd hcd) fun σ H Q ⟨H0, F0, F, e, r, q⟩ => by
    unfold dVar at q
    cases hp : e[i]? with
    | none => rw [hp] at q; exact False.elim q
    | some o =>
      cases o with
      | none => rw [hp] at q; exact False.elim q
      | some p =>
        rw [hp] at q
        obtain ⟨v, h1, _, h3⟩ := r.val i p hp
        exact ⟨v, h1, q.ok v F H (.here r.sub (h3 hi))⟩
theorem tdC {v : V} {p : PyData} (h : ∀ F, Rep X.K F v p) {σ : L2.St} {H : Hp} {Q : VK} (q : TD X.K X.mg W own false (dC p) σ H Q) : tC v σ H Q := by
  obtain ⟨H0, F0, F, e, r, q⟩ := q
  exact q.ok v F H (.here r.sub (h F))
theorem e_int {i : Int} {j : Nat} : PE X (.Constant (.int i) j pos) (TD X.K X.mg W own false (dC (.int i))) := PE.imp pe_int fun _ _ _ q => tdC (fun _ => .int i) q
theorem e_bl {i : Bool} {j : Nat} : PE X (.Constant (.bool i) j pos) (TD X.K X.mg W own false (dC (.bool i))) := PE.imp pe_bl fun _ _ _ q => tdC (fun _ => .bl i) q
theorem e_non {j : Nat} : PE X (.Constant .none j pos) (TD X.K X.mg W own false (dC .none)) := PE.imp pe_non fun _ _ _ q => tdC (fun _ => .non) q
theorem e_str {i : Str} {j : Nat} : PE X (.Constant (.str i) j pos) (TD X.K X.mg W own false (dC (.str i))) := PE.imp pe_str fun _ _ _ q => tdC (fun _ => .str i) q
/-- a module's constant -/
theorem e_glob {x : Str} {v : V} {u : Value} {p : PyData} (hm : X.mg x = some u) (r : RelV v u) (h : ∀ F, Rep X.K F v p) (hg : Gl X x := by rfl) (hd : (x == ("__debug__" : Str)) = false := by decide) :
    PE X (.Name x pos) (TD X.K X.mg W own false (dC p)) := PE.imp (pe_glob hg hm r hd) fun _ _ _ q => tdC h q

theorem e_globI {x : Str} {i : Int} (hm : ∃ t, X.mg x = some (.int i t)) (hg : Gl X x := by rfl) (hd : (x == ("__debug__" : Str)) = false := by decide) : PE X (.Name x pos) (TD X.K X.mg W own false (dC (.int i))) := hm.elim fun _ hm => e_glob (v := .int i) hm ⟨_, rfl⟩ (fun _ => .int _) hg hd
theorem e_globS {x : Str} {i : Str} (hm : ∃ t, X.mg x = some (.str i t)) (hg : Gl X x := by rfl) (hd : (x == ("__debug__" : Str)) = false := by decide) : PE X (.Name x pos) (TD X.K X.mg W own false (dC (.str i))) := hm.elim fun _ hm => e_glob (v := .str i) hm ⟨_, rfl⟩ (fun _ => .str _) hg hd
/-! ### operations by values -/
def Op1 (K : PySem.W.Frag) (b : Bool) (r : V → Hp → VK → Prop) (f : PyData → Option PyData) : Prop :=
  ∀ (F H : Hp) (v : V) (x p : PyData) (Q : VK), (∀ a o, F a = some o → H a = some o) → Rep K F v x → f x = some p → (∀ w F' H', Got K b F H F' H' w p → Q w H') → r v H Q
def Op2 (K : PySem.W.Frag) (b : Bool) (r : R2) (f : PyData → PyData → Option PyData) : Prop :=
  ∀ (F H : Hp) (v u : V) (x y p : PyData) (Q : VK), (∀ a o, F a = some o → H a = some o) → Rep K F v x → Rep K F u y → f x y = some p → (∀ w F' H', Got K b F H F' H' w p → Q w H') → r v u H Q
theorem td1 {r : V → Hp → VK → Prop} {f : PyData → Option PyData} (h : Op1 X.K b r f) {a : DE} {σ : L2.St} {H : Hp} {Q : VK} (q : TD X.K X.mg W own b (d1 f a) σ H Q) :
    TD X.K X.mg W own false a σ H fun x H1 => r x H1 Q := by
  obtain ⟨H0, F0, F, e, rel, q⟩ := q
  refine ⟨H0, F0, F, e, rel, q.bind.imp fun x hx v F1 H1 g1 => ?_⟩
  obtain ⟨p, hp, hq⟩ := hx.ofO
  exact h F1 H1 v x p Q g1.fh (g1.rep rfl) hp fun w F' H' g => hq w F' H' (g1.trans g)
theorem td2 {r : R2} {f : PyData → PyData → Option PyData} (h : Op2 X.K b r f) {a c : DE} {σ : L2.St} {H : Hp} {Q : VK} (q : TD X.K X.mg W own b (d2 f a c) σ H Q) :
    tOp r (TD X.K X.mg W own false a) (TD X.K X.mg W own false c) σ H Q := by
  obtain ⟨H0, F0, F, e, rel, q⟩ := q
  refine ⟨H0, F0, F, e, rel, q.bind.imp fun x hx v F1 H1 g1 => ⟨H0, F0, F1, e, rel.got g1, (hx.later g1.same).bind.imp fun y hy u F2 H2 g2 => ?_⟩⟩
  obtain ⟨p, hp, hq⟩ := hy.ofO
  exact h F2 H2 v u x y p Q g2.fh ((g1.rep rfl).mono g2.le) (g2.rep rfl) hp fun w F' H' g => hq w F' H' ((g1.trans g2).trans g)
theorem e_op {op : Operator} {r : R2} {f : PyData → PyData → Option PyData} {x y : Expr} {a c : DE} (ho : OpR X (binaryOp op) r) (h : Op2 X.K b r f) (ha : PE X x (TD X.K X.mg W own false a)) (hc : PE X y (TD X.K X.mg W own false c)) :
    PE X (.BinOp x op y pos) (TD X.K X.mg W own b (d2 f a c)) := PE.imp (pe_op ho ha hc) fun _ _ _ q => td2 h q
theorem e_un {op : UnaryOp} {r : V → Hp → VK → Prop} {f : PyData → Option PyData} {x : Expr} {a : DE} (ho : UnR X (unaryOp op) r) (h : Op1 X.K b r f) (ha : PE X x (TD X.K X.mg W own false a)) :
    PE X (.UnaryOp op x pos) (TD X.K X.mg W own b (d1 f a)) := PE.imp (pe_un ho ha) fun _ _ _ q => td1 h q
theorem e_cmp {op : CmpOp} {r : R2} {f : PyData → PyData → Option PyData} {x y : Expr} {a c : DE} (ho : OpR X (compareOp op) r) (h : Op2 X.K b r f) (ha : PE X x (TD X.K X.mg W own false a)) (hc : PE X y (TD X.K X.mg W own false c))
    (hm : behindInMarks op y = false := by first | exact nomark _ | rfl) : PE X (.Compare x [op] [y] pos) (TD X.K X.mg W own b (d2 f a c)) := PE.imp (pe_cmpR ho ha hc hm) fun _ _ _ q => td2 h q

theorem op1_neg {K : PySem.W.Frag} : Op1 K false (rU fun i => .int (-i)) pNeg := fun F H v x p Q s r e q => by
  cases x <;> simp [pNeg] at e
  obtain rfl := r.intD
  subst e
  exact ⟨_, rfl, q _ F H (.here s (.int _))⟩
theorem op2_add {K : PySem.W.Frag} : Op2 K false (fun x y H Q => (rI0 fun i j => .int (i + j)) x y H Q ∨ (∃ i j, x = .str i ∧ y = .str j ∧ i.length + j.length ≤ sizeLine ∧ Q (.str (i ++ j)) H) ∨ rCatA K x y H Q ∨ rCatL K x y H Q) pAdd := fun F H v u x y p Q s r1 r2 e q => by
  cases x <;> cases y <;> simp [pAdd] at e
  · obtain rfl := r1.intD
    obtain rfl := r2.intD
    subst e
    exact .inl ⟨_, _, rfl, rfl, q _ F H (.here s (.int _))⟩
  · obtain rfl := r1.strD
    obtain rfl := r2.strD
    obtain ⟨e1, e2⟩ := e
    subst e2
    exact .inr (.inl ⟨_, _, rfl, rfl, e1, q _ F H (.here s (.str _))⟩)
  · rename_i ps qs
    obtain ⟨a, vs, rfl, h1, r1⟩ := r1.lstD
    obtain ⟨c, us, rfl, h2, r2⟩ := r2.lstD
    obtain ⟨e1, e2⟩ := e
    subst e2
    refine .inr (.inr (.inr ⟨a, c, vs, us, rfl, rfl, (Le.of s).sqL h1, (Le.of s).sqL h2, by rw [r1.length, r2.length]; exact e1, fun l hn => ?_⟩))
    obtain ⟨F2, g2⟩ := (Got.fresh (K := K) (p := .list (ps ++ qs)) (o := .lst (vs ++ us)) s hn (r1.app r2)).freeze
    exact q _ _ _ g2
  · obtain ⟨a, vs, rfl, h1, r1⟩ := r1.tupD
    obtain ⟨c, us, rfl, h2, r2⟩ := r2.tupD
    obtain ⟨e1, e2⟩ := e
    subst e2
    refine .inr (.inr (.inl ⟨a, c, vs, us, rfl, rfl, (Le.of s).sqT h1, (Le.of s).sqT h2, by rw [r1.length, r2.length]; exact e1, fun z => ?_, fun _ z => ?_, fun _ _ l hl => ?_⟩))
    · subst z
      cases r1
      exact q _ F H (.here s (.tup h2 r2))
    · subst z
      cases r2
      rw [List.append_nil] at q
      exact q _ F H (.here s (.tup h1 r1))
    · exact q _ _ _ (.newT s hl (r1.app r2))
theorem e_add {x y : Expr} {a c : DE} (ha : PE X x (TD X.K X.mg W own false a)) (hc : PE X y (TD X.K X.mg W own false c)) : PE X (.BinOp x .Add y pos) (TD X.K X.mg W own false (d2 pAdd a c)) :=
  e_op (op_add.or (op_add_str.or (op_catA.or op_catL))) op2_add ha hc
theorem op2_sub {K : PySem.W.Frag} : Op2 K false (rI0 fun i j => .int (i - j)) pSub := fun F H v u x y p Q s r1 r2 e q => by
  cases x <;> cases y <;> simp [pSub] at e
  obtain rfl := r1.intD
  obtain rfl := r2.intD
  subst e
  exact ⟨_, _, rfl, rfl, q _ F H (.here s (.int _))⟩
theorem e_sub {x y : Expr} {a c : DE} (ha : PE X x (TD X.K X.mg W own false a)) (hc : PE X y (TD X.K X.mg W own false c)) : PE X (.BinOp x .Sub y pos) (TD X.K X.mg W own false (d2 pSub a c)) := e_op op_sub op2_sub ha hc
theorem reps_rep {K : PySem.W.Frag} {F : Hp} {vs : List V} {ps : List PyData} (r : Reps K F vs ps) : ∀ n : Nat, Reps K F (List.replicate n vs).flatten (List.replicate n ps).flatten
  | 0 => .nil
  | n + 1 => by
    rw [List.replicate_succ, List.replicate_succ, List.flatten_cons, List.flatten_cons]
    exact r.app (reps_rep r n)
theorem op2_mul {K : PySem.W.Frag} : Op2 K false (fun x y H Q => (rI CMul fun i j => .int (i * j)) x y H Q ∨ rRepL K x y H Q ∨ rRepT K x y H Q) pMul := fun F H v u x y p Q s r1 r2 e q => by
  cases x <;> cases y <;> simp only [pMul] at e <;> first | (cases e; done) | skip
  · rename_i i j
    obtain rfl := r1.intD
    obtain rfl := r2.intD
    by_cases h : mulOk i j = true
    · rw [if_pos h] at e
      cases e
      refine .inl ⟨_, _, rfl, rfl, ?_, q _ F H (.here s (.int _))⟩
      simpa [mulOk, CMul] using h
    · rw [if_neg h] at e; cases e
  · rename_i ps k
    obtain rfl := r2.intD
    obtain ⟨a, vs, rfl, h1, r1⟩ := r1.lstD
    by_cases h : -9223372036854775808 ≤ k ∧ k < 9223372036854775808 ∧ ps.length * k.toNat ≤ sizeLine
    · rw [if_pos h] at e
      cases e
      refine .inr (.inl ⟨a, k, vs, rfl, rfl, (Le.of s).sqL h1, by have := h.1; simpa using this, by have := h.2.1; simpa using this, by rw [r1.length]; exact h.2.2, fun l hn => ?_⟩)
      obtain ⟨F2, g2⟩ := (Got.fresh (K := K) (p := .list (List.replicate k.toNat ps).flatten) (o := .lst (List.replicate k.toNat vs).flatten) s hn (reps_rep r1 _)).freeze
      exact q _ _ _ g2
    · rw [if_neg h] at e; cases e
  · rename_i ps k
    obtain rfl := r2.intD
    obtain ⟨a, vs, rfl, h1, r1⟩ := r1.tupD
    by_cases h : ps ≠ [] ∧ 2 ≤ k ∧ k ≤ 1000 ∧ ps.length ≤ 1000
    · rw [if_pos h] at e
      cases e
      refine .inr (.inr ⟨a, k, vs, rfl, rfl, (Le.of s).sqT h1, fun z => ?_, h.2.1, h.2.2.1, by rw [r1.length]; exact h.2.2.2, fun l hn => q _ _ _ (.newT s hn (reps_rep r1 _))⟩)
      subst z
      cases r1
      exact h.1 rfl
    · rw [if_neg h] at e; cases e
theorem e_mul {x y : Expr} {a c : DE} (ha : PE X x (TD X.K X.mg W own false a)) (hc : PE X y (TD X.K X.mg W own false c)) : PE X (.BinOp x .Mult y pos) (TD X.K X.mg W own false (d2 pMul a c)) := e_op (op_mul.or (op_repL.or op_repT)) op2_mul ha hc
theorem fdiv_okW {i j : Int} (h : fdivOk j = true) : CDivW i j := by
  rcases Bool.or_eq_true_iff.mp h with h | h
  · have h := of_decide_eq_true h
    exact wide_div h.1 (b := 64) (by omega) (by decide) (by decide)
  · have h : 0 < j ∧ j.natAbs.log2 < 9000 := of_decide_eq_true h
    exact h
theorem op2_fdiv {K : PySem.W.Frag} : Op2 K false (rI CDivW fun i j => .int (i / j)) pFdiv := fun F H v u x y p Q s r1 r2 e q => by
  cases x <;> cases y <;> simp [pFdiv] at e
  obtain rfl := r1.intD
  obtain rfl := r2.intD
  obtain ⟨e1, e2⟩ := e
  subst e2
  exact ⟨_, _, rfl, rfl, fdiv_okW e1, q _ F H (.here s (.int _))⟩
theorem e_fdiv {x y : Expr} {a c : DE} (ha : PE X x (TD X.K X.mg W own false a)) (hc : PE X y (TD X.K X.mg W own false c)) : PE X (.BinOp x .FloorDiv y pos) (TD X.K X.mg W own false (d2 pFdiv a c)) := e_op op_fdivW op2_fdiv ha hc
theorem op2_mod {K : PySem.W.Frag} : Op2 K false (rI (fun _ j => 0 < j) fun i j => .int (i % j)) pMod := fun F H v u x y p Q s r1 r2 e q => by
  cases x <;> cases y <;> simp [pMod] at e
  obtain rfl := r1.intD
  obtain rfl := r2.intD
  obtain ⟨e1, e2⟩ := e
  subst e2
  exact ⟨_, _, rfl, rfl, e1, q _ F H (.here s (.int _))⟩
theorem e_mod {x y : Expr} {a c : DE} (ha : PE X x (TD X.K X.mg W own false a)) (hc : PE X y (TD X.K X.mg W own false c)) : PE X (.BinOp x .Mod y pos) (TD X.K X.mg W own false (d2 pMod a c)) := e_op op_mod op2_mod ha hc
theorem op2_pow {K : PySem.W.Frag} : Op2 K false (rI CPow fun i j => .int (i ^ j.toNat)) pPow := fun F H v u x y p Q s r1 r2 e q => by
  cases x <;> cases y <;> simp [pPow] at e
  obtain rfl := r1.intD
  obtain rfl := r2.intD
  obtain ⟨e1, e2⟩ := e
  subst e2
  exact ⟨_, _, rfl, rfl, e1, q _ F H (.here s (.int _))⟩
theorem e_pow {x y : Expr} {a c : DE} (ha : PE X x (TD X.K X.mg W own false a)) (hc : PE X y (TD X.K X.mg W own false c)) : PE X (.BinOp x .Pow y pos) (TD X.K X.mg W own false (d2 pPow a c)) := e_op op_pow op2_pow ha hc
theorem e_neg {x : Expr} {a : DE} (ha : PE X x (TD X.K X.mg W own false a)) : PE X (.UnaryOp .USub x pos) (TD X.K X.mg W own false (d1 pNeg a)) := e_un un_neg op1_neg ha

/-! ### comparisons -/
mutual
theorem Rep.dp {K : PySem.W.Frag} {F H : Hp} (l : Le F H) : ∀ {v : V} {p : PyData}, Rep K F v p → p.canLay0 = true → Dp K H v p
  | _, _, .non, _ => .non
  | _, _, .bl b, _ => .bl b
  | _, _, .int b, _ => .int b
  | _, _, .str b, _ => .str b
  | _, _, .tup h r, q => .tup (l.sqT h) (r.dp l (by simpa only [PyData.canLay0] using q))
  | _, _, .lst h r, q => .lst (l.sqL h) (r.dp l (by simpa only [PyData.canLay0] using q))
  | _, _, .dK h r, q => by simp [PyData.canLay0] at q
  | _, _, .dT h r, q => by simp [PyData.canLay0] at q
theorem Reps.dp {K : PySem.W.Frag} {F H : Hp} (l : Le F H) : ∀ {v : List V} {p : List PyData}, Reps K F v p → PyData.canLayAll0 p = true → DpAll K H v p
  | _, _, .nil, _ => .nil
  | _, _, .cons h r, q => by
    simp only [PyData.canLayAll0, Bool.and_eq_true] at q
    exact .cons (h.dp l q.1) (r.dp l q.2)
end
theorem eq_scal {K : PySem.W.Frag} {F : Hp} {v u : V} {x y : PyData} (r1 : Rep K F v x) (r2 : Rep K F u y) (h : scalD x y = true) : scal v u = true ∧ decide (v = u) = PyData.eqv x y := by
  cases r1 <;> cases r2 <;> first
    | (simp [scalD] at h; done)
    | (refine ⟨rfl, ?_⟩; rw [Bool.eq_iff_iff]; simp [PyData.eqv]; done)
    | (refine ⟨rfl, ?_⟩; rw [Bool.eq_iff_iff]; simp [PyData.eqv, beq_iff_eq])
theorem shaped_lay {d : PyData} (h : SeqAt.shaped d = true) : d.canLay0 = true := SeqAt.canLay_of_shaped h
theorem op2_eq {K : PySem.W.Frag} : Op2 K false (fun x y H Q => rEq x y H Q ∨ rEqD K x y H Q) pEq := fun F H v u x y p Q s r1 r2 e q => by
  unfold pEq at e
  by_cases h : eqOk x y = true
  · rw [if_pos h] at e
    cases e
    unfold eqOk at h
    rcases Bool.or_eq_true_iff.mp h with h | h
    · obtain ⟨h1, h2⟩ := eq_scal r1 r2 h
      exact .inl ⟨h1, by rw [h2]; exact q _ F H (.here s (.bl _))⟩
    · obtain ⟨h1, h2⟩ := Bool.and_eq_true_iff.mp h
      exact .inr ⟨x, y, r1.dp (.of s) (shaped_lay h1), r2.dp (.of s) (shaped_lay h2), h1, h2, q _ F H (.here s (.bl _))⟩
  · rw [if_neg h] at e; cases e
theorem op2_ne {K : PySem.W.Frag} : Op2 K false (fun x y H Q => rNe x y H Q ∨ rNeD K x y H Q) pNe := fun F H v u x y p Q s r1 r2 e q => by
  unfold pNe at e
  by_cases h : eqOk x y = true
  · rw [if_pos h] at e
    cases e
    unfold eqOk at h
    rcases Bool.or_eq_true_iff.mp h with h | h
    · obtain ⟨h1, h2⟩ := eq_scal r1 r2 h
      exact .inl ⟨h1, by rw [h2]; exact q _ F H (.here s (.bl _))⟩
    · obtain ⟨h1, h2⟩ := Bool.and_eq_true_iff.mp h
      exact .inr ⟨x, y, r1.dp (.of s) (shaped_lay h1), r2.dp (.of s) (shaped_lay h2), h1, h2, q _ F H (.here s (.bl _))⟩
  · rw [if_neg h] at e; cases e
variable {x y z : Expr} {a c d : DE}
theorem or_eq (C : Cxt X W k) : OpR X (compareOp .Eq) (fun x y H Q => rEq x y H Q ∨ rEqD X.K x y H Q) := op_eq.or (op_eqD C.u64)
theorem or_ne (C : Cxt X W k) : OpR X (compareOp .NotEq) (fun x y H Q => rNe x y H Q ∨ rNeD X.K x y H Q) := op_ne.or (op_neD C.u64)
theorem op2_lt {K : PySem.W.Frag} : Op2 K false (fun x y H Q => (rI0 fun i j => .bl (decide (i < j))) x y H Q ∨ (∃ i j, x = .str i ∧ y = .str j ∧ Q (.bl (decide (i.cps.toList < j.cps.toList))) H)) pLt := fun F H v u x y p Q s r1 r2 e q => by
  cases x <;> cases y <;> first | (cases e; done) | skip
  · obtain rfl := r1.intD
    obtain rfl := r2.intD
    cases e
    exact .inl ⟨_, _, rfl, rfl, q _ F H (.here s (.bl _))⟩
  · obtain rfl := r1.strD
    obtain rfl := r2.strD
    cases e
    exact .inr ⟨_, _, rfl, rfl, q _ F H (.here s (.bl _))⟩
theorem or_lt : OpR X (compareOp .Lt) (fun x y H Q => (rI0 fun i j => .bl (decide (i < j))) x y H Q ∨ (∃ i j, x = .str i ∧ y = .str j ∧ Q (.bl (decide (i.cps.toList < j.cps.toList))) H)) := op_lt.or op_lt_str
theorem op2_le {K : PySem.W.Frag} : Op2 K false (rI0 fun i j => .bl (decide (i ≤ j))) pLe := fun F H v u x y p Q s r1 r2 e q => by
  cases x <;> cases y <;> simp [pLe] at e
  obtain rfl := r1.intD
  obtain rfl := r2.intD
  subst e
  exact ⟨_, _, rfl, rfl, q _ F H (.here s (.bl _))⟩
theorem op2_gt {K : PySem.W.Frag} : Op2 K false (rI0 fun i j => .bl (decide (j < i))) pGt := fun F H v u x y p Q s r1 r2 e q => by
  cases x <;> cases y <;> simp [pGt] at e
  obtain rfl := r1.intD
  obtain rfl := r2.intD
  subst e
  exact ⟨_, _, rfl, rfl, q _ F H (.here s (.bl _))⟩
theorem op2_ge {K : PySem.W.Frag} : Op2 K false (rI0 fun i j => .bl (decide (j ≤ i))) pGe := fun F H v u x y p Q s r1 r2 e q => by
  cases x <;> cases y <;> simp [pGe] at e
  obtain rfl := r1.intD
  obtain rfl := r2.intD
  subst e
  exact ⟨_, _, rfl, rfl, q _ F H (.here s (.bl _))⟩
theorem e_eq (C : Cxt X W k) (ha : PE X x (TD X.K X.mg W own false a)) (hc : PE X y (TD X.K X.mg W own false c)) : PE X (.Compare x [.Eq] [y] pos) (TD X.K X.mg W own false (d2 pEq a c)) := e_cmp (or_eq C) op2_eq ha hc (nomark _)
theorem e_ge (ha : PE X x (TD X.K X.mg W own false a)) (hc : PE X y (TD X.K X.mg W own false c)) : PE X (.Compare x [.GtE] [y] pos) (TD X.K X.mg W own false (d2 pGe a c)) := e_cmp op_ge op2_ge ha hc (nomark _)
theorem non_iff {K : PySem.W.Frag} {F : Hp} {v : V} {x : PyData} (r : Rep K F v x) : decide (v = .non) = isNone x := by cases r <;> rfl
/-- a < b < c -/
theorem e_chain {op op' : CmpOp} {r r' : R2} {f g : PyData → PyData → Option PyData} (ho : OpR X (compareOp op) r) (ho' : OpR X (compareOp op') r') (hf : Op2 X.K false r f) (hg : Op2 X.K false r' g)
    (ha : PE X x (TD X.K X.mg W own false a)) (hc : PE X y (TD X.K X.mg W own false c)) (hd : PE X z (TD X.K X.mg W own false d)) (hm : lastMarks [op, op'] [y, z] = false := by with_unfolding_all rfl) :
    PE X (.Compare x [op, op'] [y, z] pos) (TD X.K X.mg W own false (dChain f g a c d)) := by
  refine PE.imp (pe_chain ho ho' ha hc hd hm) fun σ H Q ⟨H0, F0, F, e, rel, q⟩ => ?_
  refine ⟨H0, F0, F, e, rel, q.bind.imp fun x1 hx v F1 H1 g1 => ⟨H0, F0, F1, e, rel.got g1, (hx.later g1.same).bind.imp fun y1 hy u F2 H2 g2 => ?_⟩⟩
  obtain ⟨z1, hz, hq⟩ := hy.bind.ofO
  obtain ⟨b1, eb1, hq2⟩ := Out.asBool hq
  subst eb1
  refine hf F2 H2 v u x1 y1 _ _ g2.fh ((g1.rep rfl).mono g2.le) (g2.rep rfl) hz fun w F3 H3 g3 => ?_
  obtain rfl := (g3.rep rfl).blD
  refine ⟨b1, rfl, ?_⟩
  cases b1 with
  | false => exact hq2.ok _ F3 H3 (((g1.trans g2).trans g3).as (.bl _))
  | true =>
    rw [if_pos rfl] at hq2 ⊢
    refine ⟨H0, F0, F3, e, ((rel.got g1).got g2).got g3, ((hq2.later g2.same).later g3.same).bind.imp fun w hw v4 F4 H4 g4 => ?_⟩
    obtain ⟨p, hp, hk⟩ := hw.ofO
    exact hg F4 H4 u v4 y1 w p Q g4.fh (((g2.rep rfl).mono g3.le).mono g4.le) (g4.rep rfl) hp fun w5 F5 H5 g5 => hk w5 F5 H5 ((((g1.trans g2).trans g3).trans g4).trans g5)

/-! ### tests -/
theorem tdT {t : DE} {σ : L2.St} {H : Hp} {Q : Bool → Hp → Prop} (q : TDT X.K X.mg W own (tOf t) σ H Q) : tB (TD X.K X.mg W own false t) σ H Q := by
  obtain ⟨H0, F0, F, e, rel, q⟩ := q
  refine ⟨H0, F0, F, e, rel, q.bind.imp fun x1 hx v F1 H1 g1 => ?_⟩
  cases x1 <;> try exact False.elim hx
  obtain rfl := (g1.rep rfl).blD
  exact ⟨_, rfl, hx F1 H1 g1.plain⟩
theorem t_val (h : PE X x (TD X.K X.mg W own false a)) (he : ∀ whole, isTrue x X.env whole = (do let v ← whole; standAt x.pos; holding [v] (truthy v)) := by intro _; rfl) : PT X x (TDT X.K X.mg W own (tOf a)) :=
  PT.imp (pt_val h he) fun _ _ _ q => tdT q
end
end Lt
/-! ## LtSnd2 -/
set_option maxHeartbeats 4000000
namespace Lt
open PySem PySem.Spec PyProof.Rows L2
section
variable {X : Cx} {W : WX} {k : Nat} {own own' : List Nat} {b : Bool} {pos : Pos} {x y z : Expr} {a c d : DE}
/-! ### tests -/
theorem td2T {r : R2} {f : PyData → PyData → Option PyData} (h : Op2 X.K false r f) {σ : L2.St} {H : Hp} {Q : Bool → Hp → Prop} (q : TDT X.K X.mg W own (tOf (d2 f a c)) σ H Q) :
    tTest (tOp r (TD X.K X.mg W own false a) (TD X.K X.mg W own false c)) σ H Q := td2 h (tdT q)
theorem t_cmp2 {op : CmpOp} {r : R2} {f : PyData → PyData → Option PyData} (ho : OpR X (compareOp op) r) (h : Op2 X.K false r f) (ha : PE X x (TD X.K X.mg W own false a)) (hc : PE X y (TD X.K X.mg W own false c))
    (hm : behindInMarks op y = false := by first | exact nomark _ | rfl) : PT X (.Compare x [op] [y] pos) (TDT X.K X.mg W own (tOf (d2 f a c))) := PT.imp (pt_cmpR ho ha hc hm) fun _ _ _ q => td2T h q
theorem t_eq (C : Cxt X W k) (ha : PE X x (TD X.K X.mg W own false a)) (hc : PE X y (TD X.K X.mg W own false c)) : PT X (.Compare x [.Eq] [y] pos) (TDT X.K X.mg W own (tOf (d2 pEq a c))) := t_cmp2 (or_eq C) op2_eq ha hc (nomark _)
theorem t_ne (C : Cxt X W k) (ha : PE X x (TD X.K X.mg W own false a)) (hc : PE X y (TD X.K X.mg W own false c)) : PT X (.Compare x [.NotEq] [y] pos) (TDT X.K X.mg W own (tOf (d2 pNe a c))) := t_cmp2 (or_ne C) op2_ne ha hc (nomark _)
theorem t_lt (ha : PE X x (TD X.K X.mg W own false a)) (hc : PE X y (TD X.K X.mg W own false c)) : PT X (.Compare x [.Lt] [y] pos) (TDT X.K X.mg W own (tOf (d2 pLt a c))) := t_cmp2 or_lt op2_lt ha hc (nomark _)
theorem t_gt (ha : PE X x (TD X.K X.mg W own false a)) (hc : PE X y (TD X.K X.mg W own false c)) : PT X (.Compare x [.Gt] [y] pos) (TDT X.K X.mg W own (tOf (d2 pGt a c))) := t_cmp2 op_gt op2_gt ha hc (nomark _)
theorem t_ge (ha : PE X x (TD X.K X.mg W own false a)) (hc : PE X y (TD X.K X.mg W own false c)) : PT X (.Compare x [.GtE] [y] pos) (TDT X.K X.mg W own (tOf (d2 pGe a c))) := t_cmp2 op_ge op2_ge ha hc (nomark _)
theorem t_isN {j : Nat} {pos' : Pos} (ha : PE X x (TD X.K X.mg W own false a)) : PT X (.Compare x [.Is] [.Constant .none j pos'] pos) (TDT X.K X.mg W own (tOf (d1 pIsN a))) :=
  PT.imp (pt_cmp (pc_isN ha)) fun σ H Q q => td1 (b := false) (r := fun v H Q => Q (.bl (decide (v = .non))) H) (fun F H v x p Q s r e q => by cases e; rw [non_iff r]; exact q _ F H (.here s (.bl _))) (tdT q)
theorem t_notN {j : Nat} {pos' : Pos} (ha : PE X x (TD X.K X.mg W own false a)) : PT X (.Compare x [.IsNot] [.Constant .none j pos'] pos) (TDT X.K X.mg W own (tOf (d1 pNotN a))) :=
  PT.imp (pt_cmp (pc_notN ha)) fun σ H Q q => td1 (b := false) (r := fun v H Q => Q (.bl (!decide (v = .non))) H) (fun F H v x p Q s r e q => by cases e; rw [non_iff r]; exact q _ F H (.here s (.bl _))) (tdT q)
variable {ta tc : DT} {rest : List Expr}
theorem w_and1 (h : PT X x (TDT X.K X.mg W own ta)) : PW X (.BoolOp .And [x] pos) (TDT X.K X.mg W own ta) := pw_and1 h
theorem w_or1 (h : PT X x (TDT X.K X.mg W own ta)) : PW X (.BoolOp .Or [x] pos) (TDT X.K X.mg W own ta) := pw_or1 h
theorem w_and (h : PT X x (TDT X.K X.mg W own ta)) (h' : PW X (.BoolOp .And (y :: rest) pos) (TDT X.K X.mg W own tc)) : PW X (.BoolOp .And (x :: y :: rest) pos) (TDT X.K X.mg W own (tAnd ta tc)) :=
  PW.imp (pw_and h h') fun σ H Q ⟨H0, F0, F, e, rel, q⟩ => ⟨H0, F0, F, e, rel, q.bind.imp fun c1 hc F1 H1 g1 => by
    cases c1 with
    | false => exact hc.ok F1 H1 g1
    | true => exact ⟨H0, F0, F1, e, rel.got g1, (hc.later g1.same).imp fun c2 hc2 F2 H2 g2 => hc2 F2 H2 (g1.trans g2)⟩⟩
theorem w_or (h : PT X x (TDT X.K X.mg W own ta)) (h' : PW X (.BoolOp .Or (y :: rest) pos) (TDT X.K X.mg W own tc)) : PW X (.BoolOp .Or (x :: y :: rest) pos) (TDT X.K X.mg W own (tOr ta tc)) :=
  PW.imp (pw_or h h') fun σ H Q ⟨H0, F0, F, e, rel, q⟩ => ⟨H0, F0, F, e, rel, q.bind.imp fun c1 hc F1 H1 g1 => by
    cases c1 with
    | true => exact hc.ok F1 H1 g1
    | false => exact ⟨H0, F0, F1, e, rel.got g1, (hc.later g1.same).imp fun c2 hc2 F2 H2 g2 => hc2 F2 H2 (g1.trans g2)⟩⟩
theorem t_bool (h : PW X x (TDT X.K X.mg W own ta)) : PT X x (TDT X.K X.mg W own ta) := h.pt
theorem t_not (h : PT X x (TDT X.K X.mg W own ta)) : PT X (.UnaryOp .Not x pos) (TDT X.K X.mg W own (tNot ta)) :=
  PT.imp (pt_not h) fun σ H Q ⟨H0, F0, F, e, rel, q⟩ => ⟨H0, F0, F, e, rel, q.bind.imp fun c1 hc F1 H1 g1 => hc.ok F1 H1 g1⟩
/-! ### and, or, not as values; a if t else b -/
theorem e_one {op : BoolOp} (h : PE X x (TD X.K X.mg W own false a)) : PE X (.BoolOp op [x] pos) (TD X.K X.mg W own false a) := pe_one h
theorem e_and (h : PE X x (TD X.K X.mg W own false a)) (h' : PE X (.BoolOp .And (y :: rest) pos) (TD X.K X.mg W own false c)) : PE X (.BoolOp .And (x :: y :: rest) pos) (TD X.K X.mg W own false (dAnd a c)) :=
  PE.imp (pe_and h h') fun σ H Q ⟨H0, F0, F, e, rel, q⟩ => ⟨H0, F0, F, e, rel, q.bind.imp fun x1 hx v F1 H1 g1 => by
    obtain ⟨c1, rfl, hq⟩ := Out.asBool hx
    obtain rfl := (g1.rep rfl).blD
    refine ⟨c1, rfl, ?_⟩
    cases c1 with
    | false => exact hq.ok _ F1 H1 g1
    | true => exact ⟨H0, F0, F1, e, rel.got g1, (hq.later g1.same).imp fun c2 hc2 v2 F2 H2 g2 => hc2 v2 F2 H2 (g1.trans g2)⟩⟩
theorem e_not (h : PE X x (TD X.K X.mg W own false a)) : PE X (.UnaryOp .Not x pos) (TD X.K X.mg W own false (d1 pNot a)) :=
  PE.imp (pe_not h) fun σ H Q q => td1 (r := fun v H Q => ∃ c, v = .bl c ∧ Q (.bl (!c)) H) (fun F H v x p Q s r e q => by
    cases x <;> first | (cases e; done) | skip
    obtain rfl := r.blD
    cases e
    exact ⟨_, rfl, q _ F H (.here s (.bl _))⟩) q
theorem e_if (h : PT X x (TDT X.K X.mg W own ta)) (h1 : PE X y (TD X.K X.mg W own b a)) (h2 : PE X z (TD X.K X.mg W own b c)) : PE X (.IfExp x y z pos) (TD X.K X.mg W own b (dIf ta a c)) :=
  PE.imp (pe_ifExp h h1 h2) fun σ H Q ⟨H0, F0, F, e, rel, q⟩ => ⟨H0, F0, F, e, rel, q.bind.imp fun c1 hc F1 H1 g1 => by
    cases c1 with
    | true => exact ⟨H0, F0, F1, e, rel.got g1, (hc.later g1.same).imp fun c2 hc2 v2 F2 H2 g2 => hc2 v2 F2 H2 (g1.trans g2)⟩
    | false => exact ⟨H0, F0, F1, e, rel.got g1, (hc.later g1.same).imp fun c2 hc2 v2 F2 H2 g2 => hc2 v2 F2 H2 (g1.trans g2)⟩⟩
/-! ### arguments, displays -/
variable {ra : DA} {es : List Expr}
theorem a_nil : PA X [] (TDA X.K X.mg W own dNil) := PA.imp pa_nil fun σ H Q ⟨H0, F0, F, e, rel, q⟩ => q.ok [] F H ⟨.id rel.sub, .nil⟩
theorem a_cons (h : PE X x (TD X.K X.mg W own false a)) (h' : PA X es (TDA X.K X.mg W own ra)) (hs : starEach (x :: es) X.env = (false, eval x X.env) :: starEach es X.env := by rfl) : PA X (x :: es) (TDA X.K X.mg W own (dCons a ra)) :=
  PA.imp (pa_cons h h' hs) fun σ H Q ⟨H0, F0, F, e, rel, q⟩ => ⟨H0, F0, F, e, rel, q.bind.imp fun x1 hx v F1 H1 g1 => ⟨H0, F0, F1, e, rel.got g1, (hx.later g1.same).bind.imp fun ps hp vs F2 H2 g2 =>
    hp.ok (v :: vs) F2 H2 ⟨g1.trans g2.got, .cons ((g1.rep rfl).mono g2.le) g2.rep⟩⟩⟩
theorem e_tup {j : Nat} (h : PA X es (TDA X.K X.mg W own ra)) : PE X (.Tuple es j pos) (TD X.K X.mg W own false (dTup ra)) :=
  PE.imp (pe_tup h) fun σ H Q ⟨H0, F0, F, e, rel, q⟩ => ⟨H0, F0, F, e, rel, q.bind.imp fun ps hp vs F1 H1 g1 => by
    by_cases hl : ps.length ≤ sizeLine
    · rw [if_pos hl] at hp
      exact ⟨by rw [g1.rep.length]; exact hl, fun l hn => hp.ok _ _ _ (g1.got.trans (.newT g1.got.fh hn g1.rep))⟩
    · rw [if_neg hl] at hp; exact False.elim hp⟩
theorem e_lst (h : PA X es (TDA X.K X.mg W own ra)) : PE X (.List es pos) (TD X.K X.mg W own true (dLst ra)) :=
  PE.imp (pe_lst h) fun σ H Q ⟨H0, F0, F, e, rel, q⟩ => ⟨H0, F0, F, e, rel, q.bind.imp fun ps hp vs F1 H1 g1 => by
    by_cases hl : ps.length ≤ sizeLine
    · rw [if_pos hl] at hp
      exact ⟨by rw [g1.rep.length]; exact hl, fun l hn => hp.ok _ _ _ (g1.got.trans (.fresh (p := .list ps) (o := .lst vs) g1.got.fh hn g1.rep))⟩
    · rw [if_neg hl] at hp; exact False.elim hp⟩
/-! ### subscripts -/
theorem Reps.atI {K : PySem.W.Frag} {F : Hp} {vs : List V} {ps : List PyData} {i : Int} {p : PyData} (r : Reps K F vs ps) (h : L2.atI ps i = some p) : ∃ v, L2.atI vs i = some v ∧ Rep K F v p := by
  unfold L2.atI at h ⊢
  rw [r.length]
  cases q : ixN ps.length i with
  | none => rw [q] at h; cases h
  | some j =>
    rw [q] at h
    exact r.get (i := j) (p := p) h
theorem op2_ix {K : PySem.W.Frag} : Op2 K false (rIx K) pIx := fun F H v u x y p Q s r1 r2 e q => by
  cases x <;> cases y <;> first | (cases e; done) | skip
  · rename_i zs zi
    obtain rfl := r2.intD
    have e : (if zs.length ≤ sizeLine then (L2.atI zs.cps.toList zi).map fun c => PyData.str ⟨#[c]⟩ else none) = some p := e
    by_cases h1 : zs.length ≤ sizeLine
    · rw [if_pos h1] at e
      obtain ⟨ch, e1, rfl⟩ := Option.map_eq_some_iff.mp e
      obtain rfl := r1.strD
      exact .inr (.inr ⟨_, _, _, rfl, rfl, h1, e1, q _ F H (.here s (.str _))⟩)
    · rw [if_neg h1] at e; cases e
  · obtain rfl := r2.intD
    obtain ⟨a, vs, rfl, hl, hr⟩ := r1.lstD
    obtain ⟨w, h1, h2⟩ := hr.atI e
    exact .inl ⟨a, vs, _, w, rfl, rfl, (Le.of s).sqL hl, h1, q _ F H (.here s h2)⟩
  · obtain rfl := r2.intD
    obtain ⟨a, vs, rfl, hl, hr⟩ := r1.tupD
    obtain ⟨w, h1, h2⟩ := hr.atI e
    exact .inr (.inl ⟨a, vs, _, w, rfl, rfl, (Le.of s).sqT hl, h1, q _ F H (.here s h2)⟩)
theorem e_ix (ha : PE X x (TD X.K X.mg W own false a)) (hc : PE X y (TD X.K X.mg W own false c)) (hs : PlainIx y := by exact fun _ _ => rfl) : PE X (.Subscript x y pos) (TD X.K X.mg W own false (d2 pIx a c)) :=
  PE.imp (pe_ix ix_seq ha hc hs) fun _ _ _ q => td2 op2_ix q
variable {o1 o2 : Lv → Rs (Option Int)} {lo hi : Option Expr}
theorem o_none : PO X none (TDO X.K X.mg W own oNone) := PO.imp po_none fun σ H Q ⟨H0, F0, F, e, rel, q⟩ => q.ok F H (.id rel.sub)
theorem o_some (h : PE X x (TD X.K X.mg W own false a)) : PO X (some x) (TDO X.K X.mg W own (oSome a)) :=
  PO.imp (po_some h) fun σ H Q ⟨H0, F0, F, e, rel, q⟩ => ⟨H0, F0, F, e, rel, q.bind.imp fun x1 hx v F1 H1 g1 => by
    cases x1 with
    | int i =>
      obtain rfl := (g1.rep rfl).intD
      exact ⟨i, rfl, hx.ok F1 H1 g1.plain⟩
    | _ => exact False.elim hx⟩
theorem Reps.cut {K : PySem.W.Frag} {F : Hp} {vs : List V} {ps : List PyData} (r : Reps K F vs ps) (l h : Option Int) : Reps K F (cutV vs l h) (cutD ps l h) := by
  unfold cutV cutD
  rw [r.length]
  exact (r.drop _).take _
def OpS (K : PySem.W.Frag) (b : Bool) (r : V → Option Int → Option Int → Hp → VK → Prop) (f : PyData → Option Int → Option Int → Option PyData) : Prop :=
  ∀ (F H : Hp) (v : V) (x : PyData) (l h : Option Int) (p : PyData) (Q : VK), (∀ a o, F a = some o → H a = some o) → Rep K F v x → f x l h = some p → (∀ w F' H', Got K b F H F' H' w p → Q w H') → r v l h H Q
theorem opS_slice {K : PySem.W.Frag} : OpS K false (fun x lo hi H Q => rSlL K x lo hi H Q ∨ rSlA K x lo hi H Q) pSlice := fun F H v x l h p Q s r e q => by
  cases x <;> first | (cases e; done) | skip
  · cases e
    obtain ⟨a, vs, rfl, hl, hr⟩ := r.lstD
    refine .inl ⟨a, vs, rfl, (Le.of s).sqL hl, fun l' hn => ?_⟩
    obtain ⟨F2, g2⟩ := (Got.fresh (K := K) (p := .list (cutD _ l h)) (o := .lst (cutV vs l h)) s hn (hr.cut l h)).freeze
    exact q _ _ _ g2
  · cases e
    rename_i ps
    obtain ⟨a, vs, rfl, hl, hr⟩ := r.tupD
    refine .inr ⟨a, vs, rfl, (Le.of s).sqT hl, fun w => ?_, fun _ l' hn => q _ _ _ (.newT s hn (hr.cut l h))⟩
    have : cutD ps l h = ps := by
      unfold cutD
      rw [← hr.length, w.1, w.2]
      simp [← hr.length, List.take_of_length_le]
    rw [this] at q
    exact q _ F H (.here s (.tup hl hr))
theorem e_slice {p2 : Pos} (ha : PE X x (TD X.K X.mg W own false a)) (h1 : PO X lo (TDO X.K X.mg W own o1)) (h2 : PO X hi (TDO X.K X.mg W own o2)) : PE X (.Subscript x (.Slice lo hi none p2) pos) (TD X.K X.mg W own false (dSlice a o1 o2)) :=
  PE.imp (pe_slice (sl_list.or sl_tupA) ha h1 h2) fun σ H Q ⟨H0, F0, F, e, rel, q⟩ => ⟨H0, F0, F, e, rel, q.bind.imp fun x1 hx v F1 H1 g1 => ⟨H0, F0, F1, e, rel.got g1, (hx.later g1.same).bind.imp fun l hl F2 H2 g2 =>
    ⟨H0, F0, F2, e, (rel.got g1).got g2, (hl.later g2.same).bind.imp fun h hh F3 H3 g3 => by
      obtain ⟨p, hp, hk⟩ := hh.ofO
      exact opS_slice F3 H3 v x1 l h p Q g3.fh (((g1.rep rfl).mono g2.le).mono g3.le) hp fun w F' H' g => hk w F' H' (((g1.trans g2).trans g3).trans g)⟩⟩⟩
end
end Lt
/-! ## LtSnd3 -/
set_option maxHeartbeats 4000000
namespace Lt
open PySem PySem.Spec PyProof.Rows L2
/-! ### sum, max, min over a tuple of ints -/
section
variable {prog : Program} {w : World} {A : Around} {E : Value → Shared → Prop} {s : Shared} {l : Addr} {its : List Value} {ns : List Int} {Q : Value → Shared → Prop}
theorem sum_tup (hh : A.handled = none) (hl : s.heap.IsTuple l its.toArray) (hi : IntsAre its ns)
    (h : ∀ h' tk t', (∀ b o, s.heap.get? b = some o → h'.get? b = some o) → Q (.int ns.sum t') { s with heap := h', toks := tk }) : wpAny (model prog w) A (call (.builtin "sum") [.ref l]) Q E s := by
  obtain ⟨xs, e⟩ := hi.allInts.items
  have total : preSum (numAt xs) xs.size = ns.sum := by
    have : numsOf its = xs.toList.map (·.1) := by rw [← nums_intItems, ← e]
    rw [preSum_eq, ← this, hi.numsOf, List.take_of_length_le]
    rw [← hi.numsOf, this, List.length_map, Array.length_toList]
    exact Nat.le_refl _
  exact PySem.W.ktm_sumG hh (e ▸ hl) fun h' tk t' old => total ▸ h h' tk t' old
end
section
variable {X : Cx}
def rSumT (K : PySem.W.Frag) : List V → Hp → VK → Prop := fun vs H Q => ∃ (a : Addr) (ns : List Int), vs = [V.ref a] ∧ SqT K H a (ns.map V.int) ∧ Q (.int ns.sum) H
theorem cr_sumT (hc : X.calm = true) : CallR X (.builtin "sum") (rSumT X.K) := by
  intro pins s σ H vs us Q I r h
  obtain ⟨a, ns, rfl, hs, q⟩ := h
  obtain ⟨its, rv, hl, _⟩ := I.tuple hs
  rw [Vals.ref1 r]
  exact sum_tup (I.ok.hd hc) hl rv.ints fun h' tk t' hk => ⟨.int _, H, I.kept hk, ⟨_, rfl⟩, q⟩
end
/-! ### built-in functions by values -/
def OpA (K : PySem.W.Frag) (b : Bool) (r : List V → Hp → VK → Prop) (f : List PyData → Option PyData) : Prop :=
  ∀ (F H : Hp) (vs : List V) (ps : List PyData) (p : PyData) (Q : VK), (∀ a o, F a = some o → H a = some o) → Reps K F vs ps → f ps = some p → (∀ w F' H', Got K b F H F' H' w p → Q w H') → r vs H Q
theorem OpA.one {K : PySem.W.Frag} {b : Bool} {r : List V → Hp → VK → Prop} {f : PyData → Option PyData}
    (h : ∀ (F H : Hp) (v : V) (x p : PyData) (Q : VK), (∀ a o, F a = some o → H a = some o) → Rep K F v x → f x = some p → (∀ w F' H', Got K b F H F' H' w p → Q w H') → r [v] H Q) : OpA K b r (u1 f) := fun F H vs ps p Q s rr e q => by
  cases ps with
  | nil => cases e
  | cons x t =>
    cases t with
    | nil =>
      obtain ⟨v, rfl, r1⟩ := rr.one
      exact h F H v x p Q s r1 e q
    | cons y t => cases e
theorem OpA.two {K : PySem.W.Frag} {b : Bool} {r : List V → Hp → VK → Prop} {f : PyData → PyData → Option PyData}
    (h : ∀ (F H : Hp) (v u : V) (x y p : PyData) (Q : VK), (∀ a o, F a = some o → H a = some o) → Rep K F v x → Rep K F u y → f x y = some p → (∀ w F' H', Got K b F H F' H' w p → Q w H') → r [v, u] H Q) : OpA K b r (u2 f) := fun F H vs ps p Q s rr e q => by
  cases ps with
  | nil => cases e
  | cons x t =>
    cases t with
    | nil => cases e
    | cons y t =>
      cases t with
      | nil =>
        obtain ⟨v, u, rfl, r1, r2⟩ := rr.two
        exact h F H v u x y p Q s r1 r2 e q
      | cons z t => cases e
theorem ints_of : ∀ {ps : List PyData} {ns : List Int}, intsOf? ps = some ns → ps = ns.map PyData.int
  | [], ns, h => by cases h; rfl
  | .int i :: r, ns, h => by
    unfold intsOf? at h
    cases e : intsOf? r with
    | none => rw [e] at h; cases h
    | some ms =>
      rw [e] at h
      cases h
      rw [ints_of e]
      rfl
  | .none :: _, _, h => by cases h
  | .bool _ :: _, _, h => by cases h
  | .str _ :: _, _, h => by cases h
  | .list _ :: _, _, h => by cases h
  | .tuple _ :: _, _, h => by cases h
  | .dict _ :: _, _, h => by cases h
theorem bools_of : ∀ {ps : List PyData} {ns : List Bool}, boolsOf? ps = some ns → ps = ns.map PyData.bool
  | [], ns, h => by cases h; rfl
  | .bool i :: r, ns, h => by
    unfold boolsOf? at h
    cases e : boolsOf? r with
    | none => rw [e] at h; cases h
    | some ms =>
      rw [e] at h
      cases h
      rw [bools_of e]
      rfl
  | .none :: _, _, h => by cases h
  | .int _ :: _, _, h => by cases h
  | .str _ :: _, _, h => by cases h
  | .list _ :: _, _, h => by cases h
  | .tuple _ :: _, _, h => by cases h
  | .dict _ :: _, _, h => by cases h
@[simp] theorem intsOf_map (ns : List Int) : intsOf? (ns.map PyData.int) = some ns := by
  induction ns with
  | nil => rfl
  | cons n ns ih => simp [intsOf?, ih]
@[simp] theorem boolsOf_map (ns : List Bool) : boolsOf? (ns.map PyData.bool) = some ns := by
  induction ns with
  | nil => rfl
  | cons n ns ih => simp [boolsOf?, ih]
theorem Reps.ints {K : PySem.W.Frag} {F : Hp} : ∀ {vs : List V} {ns : List Int}, Reps K F vs (ns.map PyData.int) → vs = ns.map V.int
  | _, [], .nil => rfl
  | _, n :: ns, .cons r t => by rw [r.intD, t.ints]; rfl
theorem Reps.bls {K : PySem.W.Frag} {F : Hp} : ∀ {vs : List V} {ns : List Bool}, Reps K F vs (ns.map PyData.bool) → vs = ns.map V.bl
  | _, [], .nil => rfl
  | _, n :: ns, .cons r t => by rw [r.blD, t.bls]; rfl
theorem opA_abs {K : PySem.W.Frag} : OpA K false (fun xs H Q => ∃ i, xs = [.int i] ∧ Q (.int (if i < 0 then -i else i)) H) (u1 pAbs) := .one fun F H v x p Q s r e q => by
  cases x <;> first | (cases e; done) | skip
  obtain rfl := r.intD
  cases e
  exact ⟨_, rfl, q _ F H (.here s (.int _))⟩
theorem opA_int {K : PySem.W.Frag} : OpA K false (fun xs H Q => (∃ i, xs = [.int i] ∧ Q (.int i) H) ∨ ∃ k, xs = [.bl k] ∧ Q (.int (if k then 1 else 0)) H) (u1 pInt) := .one fun F H v x p Q s r e q => by
  cases x <;> first | (cases e; done) | skip
  · obtain rfl := r.blD
    cases e
    exact .inr ⟨_, rfl, q _ F H (.here s (.int _))⟩
  · obtain rfl := r.intD
    cases e
    exact .inl ⟨_, rfl, q _ F H (.here s (.int _))⟩
theorem opA_len {K : PySem.W.Frag} : OpA K false (fun xs H Q => ∃ x n, xs = [x] ∧ LenV K x H n ∧ Q (.int n) H) (u1 pLen) := .one fun F H v x p Q s r e q => by
  cases x <;> first | (cases e; done) | skip
  · rename_i z
    have e : (if z.length ≤ sizeLine then some (PyData.int z.length) else none) = some p := e
    by_cases h1 : z.length ≤ sizeLine
    · rw [if_pos h1] at e
      cases e
      obtain rfl := r.strD
      exact ⟨_, _, rfl, ⟨h1, rfl⟩, q _ F H (.here s (.int _))⟩
    · rw [if_neg h1] at e; cases e
  · cases e
    obtain ⟨a, vs, rfl, hl, hr⟩ := r.lstD
    exact ⟨_, _, rfl, .inl ⟨vs, (Le.of s).sqL hl, rfl⟩, q _ F H (.here s (by rw [hr.length]; exact .int _))⟩
  · cases e
    obtain ⟨a, vs, rfl, hl, hr⟩ := r.tupD
    exact ⟨_, _, rfl, .inr ⟨vs, (Le.of s).sqT hl, rfl⟩, q _ F H (.here s (by rw [hr.length]; exact .int _))⟩
theorem opA_min2 {K : PySem.W.Frag} : OpA K false (fun xs H Q => ∃ i j, xs = [.int i, .int j] ∧ Q (.int (if j < i then j else i)) H) (u2 pMin2) := .two fun F H v u x y p Q s r1 r2 e q => by
  cases x <;> cases y <;> first | (cases e; done) | skip
  obtain rfl := r1.intD
  obtain rfl := r2.intD
  cases e
  exact ⟨_, _, rfl, q _ F H (.here s (.int _))⟩
/-- the ints of a list or a tuple -/
theorem Rep.sqInts {K : PySem.W.Frag} {F : Hp} {v : V} {x : PyData} {ns : List Int} (r : Rep K F v x) (h : (items? x).bind intsOf? = some ns) : ∃ a, v = .ref a ∧ (SqL K F a (ns.map V.int) ∨ SqT K F a (ns.map V.int)) := by
  cases e : items? x with
  | none => rw [e] at h; cases h
  | some ps =>
    rw [e] at h
    obtain ⟨a, vs, rfl, h1, h2⟩ := r.sq e
    rw [ints_of h] at h2
    rw [h2.ints] at h1
    exact ⟨a, rfl, h1⟩
theorem opA_sum {K : PySem.W.Frag} : OpA K false (fun xs H Q => rSum K xs H Q ∨ rSumT K xs H Q) (u1 pSum) := .one fun F H v x p Q s r e q => by
  unfold pSum at e
  split at e
  · rename_i ns h
    cases e
    obtain ⟨a, rfl, h1 | h1⟩ := r.sqInts h
    · exact .inl ⟨a, ns, rfl, (Le.of s).sqL h1, q _ F H (.here s (.int _))⟩
    · exact .inr ⟨a, ns, rfl, (Le.of s).sqT h1, q _ F H (.here s (.int _))⟩
  · cases e
theorem opA_all {K : PySem.W.Frag} : OpA K false (rAll K) (u1 pAll) := .one fun F H v x p Q s r e q => by
  cases x <;> first | (cases e; done) | skip
  rename_i xs
  cases h : boolsOf? xs with
  | none => simp [pAll, h] at e
  | some bs =>
    simp only [pAll, h, Option.some.injEq] at e
    subst e
    obtain ⟨a, vs, rfl, hl, hr⟩ := r.lstD
    rw [bools_of h] at hr
    rw [hr.bls] at hl
    exact ⟨a, bs, rfl, (Le.of s).sqL hl, q _ F H (.here s (.bl _))⟩
theorem opA_tuple {K : PySem.W.Frag} : OpA K false (fun xs H Q => ∃ p ys, xs = [.ref p] ∧ ((SqL K H p ys ∧ ∀ l, H l = none → Q (.ref l) (upd H l (.tup ys))) ∨ (SqT K H p ys ∧ Q (.ref p) H))) (u1 pTuple) := .one fun F H v x p Q s r e q => by
  cases x <;> first | (cases e; done) | skip
  · cases e
    obtain ⟨a, vs, rfl, hl, hr⟩ := r.lstD
    exact ⟨a, vs, rfl, .inl ⟨(Le.of s).sqL hl, fun l hn => q _ _ _ (.newT s hn hr)⟩⟩
  · cases e
    obtain ⟨a, vs, rfl, hl, hr⟩ := r.tupD
    exact ⟨a, vs, rfl, .inr ⟨(Le.of s).sqT hl, q _ F H (.here s (.tup hl hr))⟩⟩
theorem opA_list {K : PySem.W.Frag} : OpA K true (fun xs H Q => ∃ p ys, xs = [.ref p] ∧ (SqL K H p ys ∨ SqT K H p ys) ∧ ∀ l, H l = none → Q (.ref l) (upd H l (.lst ys))) (u1 pList) := .one fun F H v x p Q s r e q => by
  unfold pList at e
  split at e
  · rename_i xs h
    cases e
    obtain ⟨a, vs, rfl, h1, h2⟩ := r.sq h
    exact ⟨a, vs, rfl, h1.imp (Le.of s).sqL (Le.of s).sqT, fun l hn => q _ _ _ (.fresh (o := .lst vs) s hn h2)⟩
  · cases e
section
variable {X : Cx} {W : WX} {k : Nat} {own own' : List Nat} {b : Bool} {pos p0 : Pos} {x y z : Expr} {es : List Expr} {a c d : DE} {ra : DA} {n : Str}
theorem tdB {r : List V → Hp → VK → Prop} {f : List PyData → Option PyData} (h : OpA X.K b r f) {σ : L2.St} {H : Hp} {Q : VK} (q : TD X.K X.mg W own b (dB f ra) σ H Q) :
    TDA X.K X.mg W own ra σ H fun vs H1 => r vs H1 Q := by
  obtain ⟨H0, F0, F, e, rel, q⟩ := q
  refine ⟨H0, F0, F, e, rel, q.bind.imp fun ps hx vs F1 H1 g1 => ?_⟩
  obtain ⟨p, hp, hq⟩ := hx.ofO
  exact h F1 H1 vs ps p Q g1.got.fh g1.rep hp fun w F' H' g => hq w F' H' (g1.got.trans g)
/-- a call of a built-in function -/
theorem e_blt {id : String} {r : List V → Hp → VK → Prop} {f : List PyData → Option PyData} (hc : CallR X (.builtin id) r) (h : OpA X.K b r f) (hm : X.mg n = none) (ha : PA X (x :: es) (TDA X.K X.mg W own ra))
    (hv : bootBuiltins n = some (.builtin id) := by decide +kernel) (hg : Gl X n := by rfl) (hn : n ≠ "__name__" := by decide) (hdb : (n == ("__debug__" : Str)) = false := by decide)
    (he : starEach (x :: es) X.env = (false, eval x X.env) :: starEach es X.env := by rfl) (hpl : (backTo pos (starEach es X.env)).any (·.1) = false := by rfl) :
    PE X (.Call (.Name n p0) (x :: es) [] pos) (TD X.K X.mg W own b (dB f ra)) := PE.imp (pe_callB hc hg hm hv ha hn hdb he hpl) fun _ _ _ q => tdB h q
theorem e_bltTy {id : String} {r : List V → Hp → VK → Prop} {f : List PyData → Option PyData} (hc : CallR X (.type id) r) (h : OpA X.K b r f) (hm : X.mg n = none) (ha : PA X (x :: es) (TDA X.K X.mg W own ra))
    (hv : bootBuiltins n = some (.type id) := by decide +kernel) (hg : Gl X n := by rfl) (hn : n ≠ "__name__" := by decide) (hdb : (n == ("__debug__" : Str)) = false := by decide)
    (he : starEach (x :: es) X.env = (false, eval x X.env) :: starEach es X.env := by rfl) (hpl : (backTo pos (starEach es X.env)).any (·.1) = false := by rfl) :
    PE X (.Call (.Name n p0) (x :: es) [] pos) (TD X.K X.mg W own b (dB f ra)) := PE.imp (pe_callTy hc hg hm hv ha hn hdb he hpl) fun _ _ _ q => tdB h q
end
end Lt
/-! ## LtSnd4 -/
set_option maxHeartbeats 4000000
namespace Lt
open PySem PySem.Spec PyProof.Rows L2
/-! ### isinstance -/
def tyName : PyData → String
  | .none => "NoneType" | .bool _ => "bool" | .int _ => "int" | .str _ => "str" | .list _ => "list" | .tuple _ => "tuple" | .dict _ => "dict"
def Ty.name : Ty → String
  | .int => "int" | .bool => "bool" | .str => "str" | .tuple => "tuple" | .list => "list" | .dict => "dict"
section
variable {X : Cx} {pins : List (Addr × Obj)} {σ : L2.St} {H F : Hp} {s : Shared}
theorem kit_rep {x : V} {u : Value} {p : PyData} (I : Inv X pins σ H s) (rx : RelV x u) (sub : ∀ a o, F a = some o → H a = some o) (r : Rep X.K F x p) :
    ∃ P : Heap → Prop, PySem.W.KitX X.K u (.type (tyName p)) P ∧ P s.heap ∧ u ≠ .builtin "__main__.__loader__#opaque" := by
  cases r with
  | non => exact kit_of I rx (.base .non)
  | bl y => exact kit_of I rx (.base (.bl y))
  | int i => exact kit_of I rx (.base (.int i))
  | str y => exact kit_of I rx (.base (.str y))
  | tup h _ =>
    rcases (Le.of sub).sqT h with (h | ⟨o, h⟩) | ⟨o, its, n, h1, h2, _⟩
    · exact kit_of I rx (.base (.tup h))
    · exact kit_of I rx (.fTuple h)
    · exact kit_of I rx (.kTuple h1 h2)
  | lst h _ =>
    rcases (Le.of sub).sqL h with (h | ⟨o, h⟩) | ⟨o, its, n, h1, h2, _⟩
    · exact kit_of I rx (.base (.lst h))
    · exact kit_of I rx (.base (.frz h))
    · exact kit_of I rx (.kList h1 h2)
  | dK h _ =>
    rcases Le.of sub _ _ h with h | ⟨o, h⟩
    · exact kit_of I rx (.base (.dK h))
    · exact kit_of I rx (.fDict h)
  | dT h _ =>
    rcases Le.of sub _ _ h with h | ⟨o, h⟩
    · exact kit_of I rx (.base (.dT h))
    · -- a locked dict with tuple keys: TyX has none
      cases (show u = Value.ref _ from rx)
      obtain ⟨_, _, xs, _, ob, es, ep, g1, g2, _⟩ := (I.hok _ _ h).2
      exact ⟨_, PySem.W.kitx_dict, ⟨ob, g1, g2.1⟩, nofun⟩
end
theorem kit_is (p : PyData) (t : Ty) : kitB (tyName p) t.name = some (isTy p t) := by
  cases t <;> cases p <;> simp only [tyName, Ty.name, isTy] <;> decide +kernel
section
variable {X : Cx} {W : WX} {k : Nat} {own own' : List Nat} {b : Bool} {pos p0 p1 : Pos} {x y z : Expr} {es : List Expr} {a c d : DE} {ra : DA} {n : Str}
theorem call_isiD (t : Ty) : CallR X (.builtin "isinstance") (fun xs H Q => ∃ F x p, xs = [x, .ty t.name] ∧ (∀ a o, F a = some o → H a = some o) ∧ Rep X.K F x p ∧ Q (.bl (isTy p t)) H) := by
  intro pins s σ H xs us Q I r h
  obtain ⟨F, x, p, rfl, sub, rp, q⟩ := h
  obtain ⟨u1, u2, rfl, r1, r2⟩ := vals2 r
  obtain rfl : u2 = Value.type t.name := r2
  obtain ⟨P, Z, pz, hx⟩ := kit_rep I r1 sub rp
  exact PySem.W.kia_one Z I.kIn pz (kit_ty (kit_is p t)) hx fun tk => ⟨.bl _, H, I.tok tk, rfl, q⟩
theorem e_isi (t : Ty) (hm : X.mg "isinstance" = none) (hm2 : X.mg n = none) (ha : PE X x (TD X.K X.mg W own false a)) (hv : bootBuiltins n = some (.type t.name) := by decide +kernel)
    (hg : Gl X "isinstance" := by rfl) (hg2 : Gl X n := by rfl) (hn : n ≠ "__name__" := by decide) (hdb : (n == ("__debug__" : Str)) = false := by decide)
    (he : starEach [x, .Name n p1] X.env = (false, eval x X.env) :: starEach [.Name n p1] X.env := by rfl) (he2 : starEach [.Name n p1] X.env = (false, eval (.Name n p1) X.env) :: starEach [] X.env := by rfl)
    (hpl : (backTo pos (starEach [.Name n p1] X.env)).any (·.1) = false := by rfl) :
    PE X (.Call (.Name "isinstance" p0) [x, .Name n p1] [] pos) (TD X.K X.mg W own false (d1 (pIsi t) a)) :=
  PE.imp (pe_callB (call_isiD t) hg hm boot_isinstance (pa_cons ha (pa_cons (pe_bltn (v := .ty t.name) hg2 hm2 hv rfl hn hdb) pa_nil he2) he) (by decide) (by decide) he hpl) fun σ H Q q => by
    obtain ⟨H0, F0, F, e, rel, q⟩ := q
    refine ⟨H0, F0, F, e, rel, q.bind.imp fun p hx v F1 H1 g1 => ?_⟩
    obtain ⟨p', hp, hq⟩ := hx.ofO
    cases hp
    exact ⟨F1, v, p, rfl, g1.fh, g1.rep rfl, hq _ F1 H1 (g1.as (.bl _))⟩
/-! ### a def's promise, its call -/
/-- n arguments; rb: what it gives back is a fresh object -/
def spD (K : PySem.W.Frag) (mg : Str → Option Value) (n : Nat) (rb : Bool) (f : List PyData → Rs PyData) : Sp := fun vs H Q E => vs.length = n ∧ ∃ F ps, (∀ a o, F a = some o → H a = some o) ∧ Reps K F vs ps ∧
  match f ps with
  | .ok p => ∀ v F' H', Got K rb F H F' H' v p → Q v H'
  | .exc c => ∀ H', Same H H' → E (excV mg c) none H'
  | .bad => False
theorem e_call {j m : Nat} {f : Addr} {fd : FuncData} {ps : List Str} {fn : List PyData → Rs PyData} (C : Cxt X W k) (G : FnOk X.prog X.w X.K X.mg X.base (L2.CX X.prog X.w) j f fd ps (spD X.K X.mg m b fn)) (hj : j ≤ k)
    (hm : X.mg n = some (.ref f)) (hk : PySem.W.keepIn X.K (.ref f) = true) (hb : Binds X.K fd ps []) (ha : PA X (x :: es) (TDA X.K X.mg W own ra))
    (hg : Gl X n := by rfl) (hdb : (n == ("__debug__" : Str)) = false := by decide) (he : starEach (x :: es) X.env = (false, eval x X.env) :: starEach es X.env := by rfl) (hpl : (backTo pos (starEach es X.env)).any (·.1) = false := by rfl) :
    PE X (.Call (.Name n p0) (x :: es) [] pos) (TD X.K X.mg W own b (dCall m fn ra)) :=
  PE.imp (pe_callS G (C.room.mono hj) hg hm hk hb (fun σ => passAt C.tk σ) ha hdb he hpl) fun σ H Q ⟨H0, F0, F, e, rel, q⟩ => ⟨H0, F0, F, e, rel, q.bind.imp fun ps hp vs F1 H1 g1 => by
    by_cases hl : ps.length = m
    · rw [if_pos hl] at hp
      refine ⟨by rw [g1.rep.length]; exact hl, F1, ps, g1.got.fh, g1.rep, ?_⟩
      cases q2 : fn ps with
      | ok p =>
        rw [q2] at hp
        exact fun v F' H' g => hp.ok v F' H' (g1.got.trans g)
      | exc c =>
        rw [q2] at hp
        exact fun H' s => hp H' (g1.got.same.trans s)
      | bad => rw [q2] at hp; exact hp
    · rw [if_neg hl] at hp; exact False.elim hp⟩
/-! ### what is walked -/
/-- an iterator that gives these, one after the other -/
structure Wk (K : PySem.W.Frag) (F : Hp) (J : It) (ps : List PyData) : Prop where
  go : ∀ i H, (∀ a o, F a = some o → H a = some o) → i < ps.length → J.go i H
  stop : ∀ i H, (∀ a o, F a = some o → H a = some o) → ps.length ≤ i → J.stop i H
  yld : ∀ i H x H' F1 p, J.yld i H x H' → (∀ a o, F a = some o → F1 a = some o) → (∀ a o, F1 a = some o → H a = some o) → ps[i]? = some p → ∃ F2, Got K false F1 H F2 H' x p
def TDI (K : PySem.W.Frag) (mg : Str → Option Value) (W : WX) (own : List Nat) (l : DL) : TI := fun σ H R => ∃ H0 F0 F e, Rel K own H0 F0 F H σ e ∧
  Out mg W σ H (l e) fun ps => ∀ J F' H', Got K false F H F' H' .non .none → Wk K F' J ps → ps.length ≤ sizeLine → R J H'
theorem PI.imp {X : Cx} {tg e : Expr} {t t' : TI} (h : PI X tg e t) (m : ∀ σ H Q, t' σ H Q → t σ H Q) : PI X tg e t' := ⟨fun pins s σ H Q I q => h.run pins s σ H Q I (m σ H Q q)⟩
theorem wk_list {K : PySem.W.Frag} {F : Hp} {a : Addr} {vs : List V} {ps : List PyData} (h : SqL K F a vs) (r : Reps K F vs ps) : Wk K F (Itl K a) ps where
  go := fun i H s hi => by
    obtain ⟨v, h1, _⟩ := r.get (List.getElem?_eq_getElem hi)
    exact ⟨vs, v, (Le.of s).sqL h, h1⟩
  stop := fun i H s hi => ⟨vs, (Le.of s).sqL h, by rw [r.length]; exact hi⟩
  yld := fun i H x H' F1 p y m s hp => by
    obtain ⟨rfl, y⟩ := y
    obtain ⟨v, h1, h2⟩ := r.get hp
    have e := y vs ((Le.of s).sqL ((Le.of m).sqL h))
    rw [h1] at e; cases e
    exact ⟨F1, .here s (h2.mono (.of m))⟩
theorem wk_tup {K : PySem.W.Frag} {F : Hp} {a : Addr} {vs : List V} {ps : List PyData} (h : SqT K F a vs) (r : Reps K F vs ps) : Wk K F (Itt K a) ps where
  go := fun i H s hi => by
    obtain ⟨v, h1, _⟩ := r.get (List.getElem?_eq_getElem hi)
    exact ⟨vs, v, (Le.of s).sqT h, h1⟩
  stop := fun i H s hi => ⟨vs, (Le.of s).sqT h, by rw [r.length]; exact hi⟩
  yld := fun i H x H' F1 p y m s hp => by
    obtain ⟨rfl, y⟩ := y
    obtain ⟨v, h1, h2⟩ := r.get hp
    have e := y vs ((Le.of s).sqT ((Le.of m).sqT h))
    rw [h1] at e; cases e
    exact ⟨F1, .here s (h2.mono (.of m))⟩
theorem wk_range {K : PySem.W.Frag} {F : Hp} {lo hi : Int} : Wk K F (Itr lo (hi - lo).toNat) (range2 lo hi) where
  go := fun i H s hi' => by
    have : (range2 lo hi).length = (hi - lo).toNat := by simp [range2]
    rw [this] at hi'
    exact hi'
  stop := fun i H s hi' => by
    have : (range2 lo hi).length = (hi - lo).toNat := by simp [range2]
    rw [this] at hi'
    exact hi'
  yld := fun i H x H' F1 p y m s hp => by
    obtain ⟨rfl, rfl⟩ := y
    unfold range2 at hp
    rw [List.getElem?_map] at hp
    obtain ⟨j, h1, h2⟩ := Option.map_eq_some_iff.mp hp
    obtain ⟨_, h3⟩ := List.getElem?_eq_some_iff.mp h1
    simp at h3
    subst h3 h2
    exact ⟨F1, .here s (.int _)⟩
/-- a list or a tuple is walked -/
def iSeq (K : PySem.W.Frag) (tl : TE) : TI := fun σ H R => tl σ H fun x H1 => ∃ a, x = .ref a ∧ ((∃ xs, SqL K H1 a xs ∧ (xs.length ≤ sizeLine → R (Itl K a) H1)) ∨ (∃ xs, SqT K H1 a xs ∧ (xs.length ≤ sizeLine → R (Itt K a) H1)))
theorem pi_seq {tg l : Expr} {tl : TE} (hl : PE X l tl) : PI X tg l (iSeq X.K tl) := by
  refine ⟨fun pins s σ H R I h => ?_⟩
  refine thn (hl.run pins s σ H _ I h) fun v s1 ⟨x, H1, I1, r1, q1⟩ => ?_
  obtain ⟨a, e, q⟩ := q1
  subst e
  cases r1
  rcases q with ⟨xs, hq, q⟩ | ⟨xs, hq, q⟩
  · obtain ⟨its, rv, p, hz⟩ := I1.list hq
    refine wpAny_pyIter_list p.isList ?_
    refine ⟨s1.heap.objs.size, [s1.heap.objs.size], _, _, H1, rfl, I1.kept (t' := s1.toks) fun b o e => Heap.get?_push_of_some _ e, turn_list a _, ⟨_, Heap.get?_push_size _ rfl, rfl, rfl⟩, fun b hb => ?_, q hz⟩
    have e : b = s1.heap.objs.size := by simpa using hb
    subst e
    exact I1.fpOk (Nat.le_refl _) (I1.hok.fresh (Nat.le_refl _))
  · obtain ⟨its, rv, p, hz⟩ := I1.tuple hq
    refine wpAny_pyIter_tuple (show s1.heap.IsTuple a its.toArray from p) ?_
    refine ⟨s1.heap.objs.size, [s1.heap.objs.size], _, _, H1, rfl, I1.kept (t' := s1.toks) fun b o e => Heap.get?_push_of_some _ e, turn_tuple a _, ⟨_, Heap.get?_push_size _ rfl, rfl, rfl⟩, fun b hb => ?_, q hz⟩
    have e : b = s1.heap.objs.size := by simpa using hb
    subst e
    exact I1.fpOk (Nat.le_refl _) (I1.hok.fresh (Nat.le_refl _))
theorem i_seq {tg : Expr} (ha : PE X x (TD X.K X.mg W own false a)) : PI X tg x (TDI X.K X.mg W own (lSeq a)) :=
  PI.imp (pi_seq ha) fun σ H R ⟨H0, F0, F, e, rel, q⟩ => ⟨H0, F0, F, e, rel, q.bind.imp fun p hp v F1 H1 g1 => by
    cases hi : items? p with
    | none => rw [hi] at hp; exact False.elim hp
    | some ps =>
      rw [hi] at hp
      obtain ⟨a, vs, rfl, h1, h2⟩ := (g1.rep rfl).sq hi
      refine ⟨a, rfl, ?_⟩
      rcases h1 with h1 | h1
      · exact .inl ⟨vs, (Le.of g1.fh).sqL h1, fun hz => hp.ok _ F1 H1 g1.plain (wk_list h1 h2) (by rw [← h2.length]; exact hz)⟩
      · exact .inr ⟨vs, (Le.of g1.fh).sqT h1, fun hz => hp.ok _ F1 H1 g1.plain (wk_tup h1 h2) (by rw [← h2.length]; exact hz)⟩⟩
theorem i_range1 {tg : Expr} (hm : X.mg "range" = none) (ha : PE X x (TD X.K X.mg W own false a)) (hg : Gl X "range" := by rfl) (hs : starEach [x] X.env = [(false, eval x X.env)] := by rfl) :
    PI X tg (.Call (.Name "range" p0) [x] [] pos) (TDI X.K X.mg W own (lRange1 a)) :=
  PI.imp (pi_range1 hg hm (pa_cons ha pa_nil hs) hs) fun σ H R ⟨H0, F0, F, e, rel, q⟩ => ⟨H0, F0, F, e, rel, q.bind.imp fun p hp v F1 H1 g1 => by
    cases p with
    | int j =>
      obtain rfl := (g1.rep rfl).intD
      have hp : Out X.mg W σ H (if rangeOk 0 j = true then Rs.ok (range2 0 j) else .bad) _ := hp
      by_cases hc : rangeOk 0 j = true
      · rw [if_pos hc] at hp
        have hc := of_decide_eq_true hc
        refine ⟨j, rfl, by omega, by omega, ?_⟩
        have w := wk_range (K := X.K) (F := F1) (lo := 0) (hi := j)
        rw [Int.sub_zero] at w
        exact hp.ok _ F1 H1 g1.plain w (by rw [line_val]; simp [range2]; omega)
      · rw [if_neg hc] at hp; exact False.elim hp
    | _ => exact False.elim hp⟩
end
end Lt
/-! ## LtSnd5 -/
set_option maxHeartbeats 4000000
namespace Lt
open PySem PySem.Spec PyProof.Rows L2
/-! ### slots set, slots wiped -/
section
variable {K : PySem.W.Frag} {own : List Nat} {H0 F0 F H F' H' : Hp} {σ : L2.St} {e : Lv} {b : Bool} {v : V} {p : PyData}
/-- a frozen value into a slot that is not owned -/
theorem Rel.put (r : Rel K own H0 F0 F H σ e) {i : Nat} (hi : i ∉ own) (h : Rep K F v p) : Rel K own H0 F0 F H (σ.set i (some v)) (e.set i (some p)) where
  sub := r.sub
  base := r.base
  fb := r.fb
  fm := r.fm
  len := by simp [r.len]
  val := fun j q hq => by
    by_cases hj : i = j
    · subst hj
      have hl : i < e.length := by
        rcases Nat.lt_or_ge i e.length with h | h
        · exact h
        · rw [List.set_eq_of_length_le h, List.getElem?_eq_none h] at hq; cases hq
      rw [List.getElem?_set_self hl] at hq
      cases hq
      exact ⟨v, by rw [List.getElem?_set_self (by rw [r.len]; exact hl)], fun w => absurd w hi, fun _ => h⟩
    · rw [List.getElem?_set_ne hj] at hq
      obtain ⟨u, h1, h2⟩ := r.val j q hq
      exact ⟨u, by rw [List.getElem?_set_ne hj]; exact h1, h2⟩
  sep := fun j k a q q' hn h1 h2 e1 e2 s1 s2 => by
    have hj : i ≠ j := fun z => hi (z ▸ h1)
    have hk : i ≠ k := fun z => hi (z ▸ h2)
    rw [List.getElem?_set_ne hj] at e1 s1
    rw [List.getElem?_set_ne hk] at e2 s2
    exact r.sep j k a q q' hn h1 h2 e1 e2 s1 s2
/-- any slot, wherever it was owned: what was there is forgotten; b: the new one is owned -/
def setOwn (own : List Nat) (i : Nat) (b : Bool) : List Nat := if b then i :: own.filter (· ≠ i) else own.filter (· ≠ i)
theorem Rel.putAny (r : Rel K own H0 F0 F H σ e) (g : Got K b F H F' H' v p) (i : Nat) : Rel K (setOwn own i b) H0 F0 F' H' (σ.set i (some v)) (e.set i (some p)) := by
  have r' := r.got g
  have hmem : ∀ j, j ≠ i → (j ∈ setOwn own i b ↔ j ∈ own) := fun j hj => by
    unfold setOwn
    cases b <;> simp [List.mem_filter, hj]
  have hself : i ∈ setOwn own i b ↔ b = true := by
    unfold setOwn
    cases b <;> simp [List.mem_filter]
  refine ⟨r'.sub, r'.base, r'.fb, r'.fm, by simp [r.len], fun j q hq => ?_, fun j k a q q' hn h1 h2 e1 e2 s1 s2 => ?_⟩
  · by_cases hj : i = j
    · subst hj
      have hl : i < e.length := by
        rcases Nat.lt_or_ge i e.length with h | h
        · exact h
        · rw [List.set_eq_of_length_le h, List.getElem?_eq_none h] at hq; cases hq
      rw [List.getElem?_set_self hl] at hq
      cases hq
      refine ⟨v, by rw [List.getElem?_set_self (by rw [r.len]; exact hl)], fun w => ?_, fun w => ?_⟩
      · obtain ⟨a, o, e1, e2, e3, e4, e5⟩ := g.own (hself.mp w)
        refine ⟨a, o, e1, e3, ?_, e4, e5⟩
        cases q : H0 a with
        | none => rfl
        | some u => rw [r.base a u q] at e2; cases e2
      · cases b with
        | false => exact g.rep rfl
        | true => exact absurd (hself.mpr rfl) w
    · rw [List.getElem?_set_ne hj] at hq
      obtain ⟨u, h1, h2, h3⟩ := r'.val j q hq
      exact ⟨u, by rw [List.getElem?_set_ne hj]; exact h1, fun w => h2 ((hmem j (Ne.symm hj)).mp w), fun w => h3 fun z => w ((hmem j (Ne.symm hj)).mpr z)⟩
  · -- two owned ones stand apart
    have old : ∀ j q a, j ≠ i → j ∈ setOwn own i b → e[j]? = some (some q) → σ[j]? = some (some (.ref a)) → H a ≠ none := fun j q a hj hm he hs => by
      obtain ⟨u, h1, h2, _⟩ := r.val j q he
      obtain ⟨a', o, q1, _, _, q4, _⟩ := h2 ((hmem j hj).mp hm)
      rw [hs] at h1
      cases h1
      cases q1
      rw [q4]; simp
    have new : i ∈ setOwn own i b → ∀ a, v = .ref a → H a = none := fun hm a hv => by
      obtain ⟨a', o, q1, q2, _⟩ := g.own (hself.mp hm)
      rw [hv] at q1
      cases q1
      exact q2
    have vat : ∀ j u, i = j → (σ.set i (some v))[j]? = some (some u) → u = v := fun j u hj hs => by
      subst hj
      rcases Nat.lt_or_ge i σ.length with h | h
      · rw [List.getElem?_set_self h] at hs; cases hs; rfl
      · rw [List.set_eq_of_length_le h, List.getElem?_eq_none h] at hs; cases hs
    by_cases hj : i = j
    · have hk : i ≠ k := fun z => hn (hj.symm.trans z)
      rw [List.getElem?_set_ne hk] at e2 s2
      have := vat j _ hj s1
      exact old k q' a (Ne.symm hk) h2 e2 s2 (new (hj ▸ h1) a this.symm)
    · rw [List.getElem?_set_ne hj] at e1 s1
      by_cases hk : i = k
      · have := vat k _ hk s2
        exact old j q a (Ne.symm hj) h1 e1 s1 (new (hk ▸ h2) a this.symm)
      · rw [List.getElem?_set_ne hk] at e2 s2
        exact r.sep j k a q q' hn ((hmem j (Ne.symm hj)).mp h1) ((hmem k (Ne.symm hk)).mp h2) e1 e2 s1 s2
theorem Rel.wipe1 (r : Rel K own H0 F0 F H σ e) (i : Nat) : Rel K own H0 F0 F H (σ.set i none) (e.set i none) where
  sub := r.sub
  base := r.base
  fb := r.fb
  fm := r.fm
  len := by simp [r.len]
  val := fun j q hq => by
    by_cases hj : i = j
    · subst hj
      rcases Nat.lt_or_ge i e.length with h | h
      · rw [List.getElem?_set_self h] at hq; cases hq
      · rw [List.set_eq_of_length_le h, List.getElem?_eq_none h] at hq; cases hq
    · rw [List.getElem?_set_ne hj] at hq
      obtain ⟨u, h1, h2⟩ := r.val j q hq
      exact ⟨u, by rw [List.getElem?_set_ne hj]; exact h1, h2⟩
  sep := fun j k a q q' hn h1 h2 e1 e2 s1 s2 => by
    have dead : ∀ j q, i = j → (e.set i none)[j]? = some (some q) → False := fun j q hj he => by
      subst hj
      rcases Nat.lt_or_ge i e.length with h | h
      · rw [List.getElem?_set_self h] at he; cases he
      · rw [List.set_eq_of_length_le h, List.getElem?_eq_none h] at he; cases he
    by_cases hj : i = j
    · exact dead j q hj e1
    · by_cases hk : i = k
      · exact dead k q' hk e2
      · rw [List.getElem?_set_ne hj] at e1 s1
        rw [List.getElem?_set_ne hk] at e2 s2
        exact r.sep j k a q q' hn h1 h2 e1 e2 s1 s2
theorem Rel.wipe (r : Rel K own H0 F0 F H σ e) : ∀ vs : List Nat, Rel K own H0 F0 F H (L2.wipe σ vs) (wipeL e vs)
  | [] => r
  | i :: vs => (r.wipe vs).wipe1 i
end
/-! ### targets -/
/-- the slots ts are set, to what g makes of the value -/
def TGD (K : PySem.W.Frag) (own ts : List Nat) (g : DG) : TG := fun v σ H Q => ∃ H0 F0 F e p, Rel K own H0 F0 F H σ e ∧ Rep K F v p ∧ ∃ e', g p e = some e' ∧
  ∀ σ', Rel K own H0 F0 F H σ' e' → (∀ j, j ∉ ts → σ'[j]? = σ[j]?) → σ'.length = σ.length → Q σ' H
def TGDs (K : PySem.W.Frag) (own ts : List Nat) (gs : List DG) : TGs := fun vs σ H Q => ∃ H0 F0 F e ps, Rel K own H0 F0 F H σ e ∧ Reps K F vs ps ∧ ∃ e', gTupGo gs ps e = some e' ∧
  ∀ σ', Rel K own H0 F0 F H σ' e' → (∀ j, j ∉ ts → σ'[j]? = σ[j]?) → σ'.length = σ.length → Q σ' H
theorem PG.imp {X : Cx} {tg : Expr} {t t' : TG} (h : PG X tg t) (m : ∀ v σ H Q, t' v σ H Q → t v σ H Q) : PG X tg t' := ⟨fun pins s σ H v u Q I r q => h.run pins s σ H v u Q I r (m v σ H Q q)⟩
theorem PGs.imp {X : Cx} {tg : List Expr} {t t' : TGs} (h : PGs X tg t) (m : ∀ v σ H Q, t' v σ H Q → t v σ H Q) : PGs X tg t' := ⟨fun pins s σ H v u Q I r q => h.run pins s σ H v u Q I r (m v σ H Q q)⟩
section
variable {X : Cx} {W : WX} {k : Nat} {own own' : List Nat} {b : Bool} {pos p0 p1 : Pos} {x y z : Expr} {es : List Expr} {a c d : DE} {ra : DA} {n : Str}
theorem g_name (i : Nat) (hN : X.N.Nodup) (hi : X.N[i]? = some n := by rfl) (hx : Loc X.env.scope n := by first | exact Or.inl rfl | exact Or.inr rfl) (ho : i ∉ own := by decide)
    (hf : X.fn n = true ∨ X.env.scope.names.lookup n = some .local := by first | exact .inl rfl | exact .inr rfl | assumption) : PG X (.Name n pos) (TGD X.K own [i] (gSet i)) :=
  PG.imp (pg_name hN hi hx hf) fun v σ H Q ⟨H0, F0, F, e, p, rel, r, e', he, q⟩ => by
    cases he
    refine q _ (rel.put ho r) (fun j hj => ?_) (by simp)
    rw [List.getElem?_set_ne (fun z => hj (by simp [z]))]
theorem gs_nil : PGs X [] (TGDs X.K own [] []) :=
  PGs.imp pgs_nil fun v σ H Q ⟨H0, F0, F, e, ps, rel, r, e', he, q⟩ => by
    cases r with
    | nil =>
      cases he
      exact ⟨rfl, q σ rel (fun _ _ => rfl) rfl⟩
    | cons _ _ => cases he
theorem gs_cons {t1 t2 : List Nat} {g : DG} {gs : List DG} (h : PG X x (TGD X.K own t1 g)) (h' : PGs X es (TGDs X.K own t2 gs))
    (hs : (assignEach (x :: es) X.env).map (·.2) = assign x X.env :: (assignEach es X.env).map (·.2) := by rfl) : PGs X (x :: es) (TGDs X.K own (t1 ++ t2) (g :: gs)) :=
  PGs.imp (pgs_cons h h' hs) fun vs σ H Q ⟨H0, F0, F, e, ps, rel, r, e', he, q⟩ => by
    cases r with
    | nil => cases he
    | @cons v vs p ps r1 r2 =>
      have he : (g p e).bind (fun e' => gTupGo gs ps e') = some e' := he
      cases hg : g p e with
      | none => rw [hg] at he; cases he
      | some e1 =>
        rw [hg] at he
        refine ⟨_, _, rfl, H0, F0, F, e, p, rel, r1, e1, hg, fun σ1 rel1 k1 l1 => ⟨H0, F0, F, e1, ps, rel1, r2, e', he, fun σ2 rel2 k2 l2 => q σ2 rel2 (fun j hj => ?_) (l2.trans l1)⟩⟩
        rw [List.mem_append] at hj
        rw [k2 j (fun z => hj (.inr z)), k1 j (fun z => hj (.inl z))]
theorem gTupGo_len : ∀ {gs : List DG} {ps : List PyData} {e e' : Lv}, gTupGo gs ps e = some e' → ps.length = gs.length
  | [], [], _, _, _ => rfl
  | [], _ :: _, _, _, h => by cases h
  | _ :: _, [], _, _, h => by cases h
  | g :: gs, p :: ps, e, e', h => by
    have h : (g p e).bind (fun e' => gTupGo gs ps e') = some e' := h
    cases hg : g p e with
    | none => rw [hg] at h; cases h
    | some e1 =>
      rw [hg] at h
      simp [gTupGo_len h]
theorem g_tup {ts : List Nat} {gs : List DG} {j m : Nat} (hc : X.calm = true) (h : PGs X es (TGDs X.K own ts gs)) (hm : gs.length = m := by rfl)
    (hn : (assignEach es X.env).length = m := by rfl) (hst : (assignEach es X.env).findIdx? (·.1) = none := by rfl) : PG X (.Tuple es j pos) (TGD X.K own ts (gTup gs)) :=
  PG.imp (pg_tup hc h hn hst) fun v σ H Q ⟨H0, F0, F, e, p, rel, r, e', he, q⟩ => by
    cases p <;> first | (cases he; done) | skip
    rename_i ps
    obtain ⟨a, vs, rfl, hl, hr⟩ := r.tupD
    have he : gTupGo gs ps e = some e' := he
    exact ⟨a, vs, rfl, (Le.of rel.sub).sqT hl, by rw [hr.length, gTupGo_len he, hm], H0, F0, F, e, ps, rel, hr, e', he, q⟩
/-! ### comprehensions -/
theorem Cxt.blk (C : Cxt X W k) (s : Shared) (H : Hp) (scope : Scope) (cenv : Env) (fp : List Addr) : Cxt (X.blk s H scope cenv fp) noW k :=
  ⟨C.calm, C.nd, takes_none5, PassesOwn.never, C.room⟩
theorem PTs.imp {X : Cx} {e : List Expr} {t t' : TT} (h : PTs X e t) (m : ∀ σ H Q, t' σ H Q → t σ H Q) : PTs X e t' := ⟨fun pins s σ H Q I q => h.run pins s σ H Q I (m σ H Q q)⟩
theorem ts_nil : PTs X [] (TDT X.K X.mg W own tYes) := PTs.imp pts_nil fun σ H Q ⟨H0, F0, F, e, rel, q⟩ => q.ok F H (.id rel.sub)
theorem noX_ok_of {α : Type} {r : Rs α} {a : α} (h : noX r = .ok a) : r = .ok a := by
  cases r <;> first | exact h | cases h
theorem wipe_eq {σ σ2 : L2.St} : ∀ {vs : List Nat}, (∀ j, j ∉ vs → σ2[j]? = σ[j]?) → σ2.length = σ.length → L2.wipe σ2 vs = L2.wipe σ vs := by
  have key : ∀ (vs : List Nat) (σ : L2.St) (j : Nat), (L2.wipe σ vs)[j]? = if j ∈ vs then (if j < σ.length then some none else none) else σ[j]? := by
    intro vs
    induction vs with
    | nil => intro σ j; simp [L2.wipe]
    | cons i vs ih =>
      intro σ j
      show ((L2.wipe σ vs).set i none)[j]? = _
      by_cases hj : i = j
      · subst hj
        by_cases hl : i < (L2.wipe σ vs).length
        · rw [List.getElem?_set_self hl]
          rw [wipe_length] at hl
          simp [hl]
        · rw [List.set_eq_of_length_le (Nat.le_of_not_lt hl), List.getElem?_eq_none (Nat.le_of_not_lt hl)]
          rw [wipe_length] at hl
          simp [hl]
      · rw [List.getElem?_set_ne hj, ih]
        have : j ≠ i := Ne.symm hj
        simp [this]
  intro vs h hl
  apply List.ext_getElem?
  intro j
  rw [key, key, hl]
  by_cases hj : j ∈ vs
  · simp [hj]
  · simp [hj, h j hj]
theorem wipe_wipe {σ : L2.St} {vs : List Nat} : L2.wipe (L2.wipe σ vs) vs = L2.wipe σ vs := by
  refine wipe_eq (fun j hj => ?_) (wipe_length _ _)
  have key : ∀ (us : List Nat), j ∉ us → (L2.wipe σ us)[j]? = σ[j]? := by
    intro us
    induction us with
    | nil => intro _; rfl
    | cons i us ih =>
      intro h
      show ((L2.wipe σ us).set i none)[j]? = _
      rw [List.getElem?_set_ne (fun z => h (by simp [z])), ih (fun z => h (List.mem_cons_of_mem _ z))]
  exact key vs hj
/-- what the comprehension's loop asks -/
theorem lc_go {K : PySem.W.Frag} {mg : Str → Option Value} {own ts vs : List Nat} {l : DL} {g : DG} {t : DT} {a : DE} (hts : ∀ j ∈ ts, j ∈ vs) {σ : L2.St} {H : Hp} {Q : VK}
    (q : TD K mg W own true (dLc l vs g t a) σ H Q) : tLc (TDI K mg W own l) (TGD K own ts g) (TDT K mg noW own t) (TD K mg noW own false a) vs σ H Q := by
  obtain ⟨H0, F0, F, e, rel, q⟩ := q
  refine ⟨H0, F0, F, e, rel, q.bind.imp fun ps hp J F1 H1 g1 wk hz D nD => ?_⟩
  have hp := hp.bind
  cases hgo : noX (lcGo g t a (wipeL e vs) ps) with
  | bad => rw [hgo] at hp; exact False.elim hp
  | exc c => cases hh : lcGo g t a (wipeL e vs) ps <;> rw [hh] at hgo <;> cases hgo
  | ok ys =>
  rw [hgo] at hp
  have hgo := noX_ok_of hgo
  have hp := hp.ok.ok
  have fD : F1 D = none := by
    cases z : F1 D with
    | none => rfl
    | some u => rw [g1.fh D u z] at nD; cases nD
  refine ⟨fun i m Hi => i ≤ ps.length ∧ m = ps.length - i ∧ ∃ F' acc ds zs, Hi D = some (.lst acc) ∧ F' D = none ∧ (∀ x o, H1 x = some o → Hi x = some o) ∧ (∀ x o, F1 x = some o → F' x = some o) ∧ (∀ x o, F' x = some o → Hi x = some o) ∧
    (∀ x, H1 x ≠ none → F' x = F1 x) ∧ Reps K F' acc ds ∧ acc.length ≤ i ∧ lcGo g t a (wipeL e vs) (ps.drop i) = .ok zs ∧ ys = ds ++ zs,
    ⟨ps.length, Nat.zero_le _, rfl, F1, [], [], ys, upd_same, fD, fun x o h => by rw [upd_ne (ne_of_none h nD)]; exact h, fun _ _ h => h, fun x o h => by rw [upd_ne (ne_of_none (g1.fh x o h) nD)]; exact g1.fh x o h,
      fun _ _ => rfl, .nil, Nat.le_refl _, hgo, rfl⟩, ?_⟩
  rintro i m Hi ⟨hi, rfl, F', acc, ds, zs, hD, fD', hh, ff, fh, st, racc, hlen, hgo, hys⟩
  have f1h : ∀ x o, F1 x = some o → Hi x = some o := fun x o h => fh x o (ff x o h)
  by_cases hlt : i < ps.length
  · refine .inr ⟨wk.go i Hi f1h hlt, fun H' => (i + 1) ≤ ps.length ∧ ∃ F' acc ds zs, H' D = some (.lst acc) ∧ F' D = none ∧ (∀ x o, H1 x = some o → H' x = some o) ∧ (∀ x o, F1 x = some o → F' x = some o) ∧ (∀ x o, F' x = some o → H' x = some o) ∧
      (∀ x, H1 x ≠ none → F' x = F1 x) ∧ Reps K F' acc ds ∧ acc.length ≤ i + 1 ∧ lcGo g t a (wipeL e vs) (ps.drop (i + 1)) = .ok zs ∧ ys = ds ++ zs,
      fun H' ⟨h1, h2⟩ => ⟨ps.length - (i + 1), by omega, h1, rfl, h2⟩, fun x H' yl => ?_⟩
    obtain ⟨F2, g2⟩ := wk.yld i Hi x H' F' _ yl ff fh (List.getElem?_eq_getElem hlt)
    rw [List.drop_eq_getElem_cons hlt] at hgo
    have hgo : ((Rs.ofO (g ps[i] (wipeL e vs))).bind fun e1 => (t e1).bind fun c => if c = true then (a e1).bind fun y => (lcGo g t a (wipeL e vs) (ps.drop (i + 1))).bind fun ys => .ok (y :: ys) else lcGo g t a (wipeL e vs) (ps.drop (i + 1))) = .ok zs := hgo
    cases eg : g ps[i] (wipeL e vs) with
    | none => rw [eg] at hgo; cases hgo
    | some e1 =>
    rw [eg] at hgo
    cases et : t e1 with
    | bad => rw [Rs.ofO_some, Rs.bind_ok, et] at hgo; cases hgo
    | exc c => rw [Rs.ofO_some, Rs.bind_ok, et] at hgo; cases hgo
    | ok c =>
    rw [Rs.ofO_some, Rs.bind_ok, et, Rs.bind_ok] at hgo
    have rel2 : Rel K own H0 F0 F2 H' (L2.wipe σ vs) (wipeL e vs) := by
      refine ((rel.got g1).wipe vs).grow (fun x o h => g2.hh x o (hh x o h)) (fun x o h => g2.ff x o (ff x o h)) g2.fh fun x h => ?_
      obtain ⟨o, ho⟩ := Option.ne_none_iff_exists'.mp h
      rw [g2.st x (by rw [hh x o ho]; simp), st x h]
    refine ⟨H0, F0, F2, wipeL e vs, _, rel2, g2.rep rfl, e1, eg, fun σ2 rel3 kp ln => ⟨(wipe_eq (fun j hj => kp j fun z => hj (hts j z)) ln).trans wipe_wipe, ?_⟩⟩
    refine ⟨H0, F0, F2, e1, rel3, ?_⟩
    rw [et]
    intro F3 H3 g3
    have hD3 : H3 D = some (.lst acc) := g3.hh _ _ (g2.hh _ _ hD)
    have f2D : F2 D = none := by rw [g2.st D (by rw [hD]; simp)]; exact fD'
    have f3D : F3 D = none := by rw [g3.st D (by rw [g2.hh _ _ hD]; simp)]; exact f2D
    have st3 : ∀ x, H1 x ≠ none → F3 x = F1 x := fun x h => by
      obtain ⟨o, ho⟩ := Option.ne_none_iff_exists'.mp h
      have h2 := hh x o ho
      rw [g3.st x (by rw [g2.hh x o h2]; simp), g2.st x (by rw [h2]; simp), st x h]
    cases c with
    | false =>
      rw [if_neg (by decide)] at hgo ⊢
      exact ⟨hlt, F3, acc, ds, zs, hD3, f3D, fun x o h => g3.hh x o (g2.hh x o (hh x o h)), fun x o h => g3.ff x o (g2.ff x o (ff x o h)), g3.fh, st3, (racc.mono g2.le).mono g3.le, by omega, hgo, hys⟩
    | true =>
      rw [if_pos rfl] at hgo ⊢
      cases ea : a e1 with
      | bad => rw [ea] at hgo; cases hgo
      | exc c => rw [ea] at hgo; cases hgo
      | ok y =>
      rw [ea, Rs.bind_ok] at hgo
      cases el : lcGo g t a (wipeL e vs) (ps.drop (i + 1)) with
      | bad => rw [el] at hgo; cases hgo
      | exc c => rw [el] at hgo; cases hgo
      | ok zs2 =>
      rw [el, Rs.bind_ok] at hgo
      cases hgo
      refine ⟨H0, F0, F3, e1, rel3.got g3, ?_⟩
      rw [ea]
      intro v F4 H4 g4
      have hD4 : H4 D = some (.lst acc) := g4.hh _ _ hD3
      have f4D : F4 D = none := by rw [g4.st D (by rw [hD3]; simp)]; exact f3D
      refine ⟨acc, hD4, by omega, hlt, F4, acc ++ [v], ds ++ [y], zs2, upd_same, f4D, fun x o h => ?_, fun x o h => g4.ff x o (g3.ff x o (g2.ff x o (ff x o h))), fun x o h => ?_, fun x h => ?_,
        (((racc.mono g2.le).mono g3.le).mono g4.le).app (.cons (g4.rep rfl) .nil), by simp; omega, (by first | exact el | rfl), by rw [hys, List.append_assoc]; rfl⟩
      · rw [upd_ne (ne_of_none h nD)]
        exact g4.hh x o (g3.hh x o (g2.hh x o (hh x o h)))
      · rw [upd_ne (ne_of_none h f4D)]; exact g4.fh x o h
      · obtain ⟨o, ho⟩ := Option.ne_none_iff_exists'.mp h
        rw [g4.st x (by rw [g3.hh x o (g2.hh x o (hh x o ho))]; simp)]
        exact st3 x h
  · have e0 : i = ps.length := by omega
    subst e0
    rw [List.drop_length] at hgo
    cases hgo
    rw [List.append_nil] at hys
    subst hys
    refine .inl ⟨wk.stop _ Hi f1h (Nat.le_refl _), ?_⟩
    refine hp (.ref D) F' Hi ⟨fun x o h => hh x o (g1.hh x o h), fun x o h => ff x o (g1.ff x o h), fh, fun x h => ?_, fun _ => ⟨D, _, rfl, ?_, fD', hD, racc⟩, fun h => Bool.noConfusion h⟩
    · obtain ⟨o, ho⟩ := Option.ne_none_iff_exists'.mp h
      rw [st x (by rw [g1.hh x o ho]; simp), g1.st x h]
    · exact g1.free nD
theorem e_lc {tg : Expr} {ifs : List Expr} {scope : Scope} (vs : List (Str × Nat)) {ts us : List Nat} {l : DL} {g : DG} {t : DT} (C : Cxt X W k) (hi : PI X tg y (TDI X.K X.mg W own l)) (ok : BlkOk X.N X.env.scope scope vs)
    (hg : ∀ (s : Shared) (H : Hp) (B : Addr) (cl : List (Str × Addr)) (fp : List Addr), PG (X.blk s H scope (compEnvC scope cl B X.env) fp) tg (TGD X.K own ts g))
    (ht : ∀ (s : Shared) (H : Hp) (B : Addr) (cl : List (Str × Addr)) (fp : List Addr), PTs (X.blk s H scope (compEnvC scope cl B X.env) fp) ifs (TDT X.K X.mg noW own t))
    (he : ∀ (s : Shared) (H : Hp) (B : Addr) (cl : List (Str × Addr)) (fp : List Addr), PE (X.blk s H scope (compEnvC scope cl B X.env) fp) x (TD X.K X.mg noW own false a))
    (hus : vs.map (·.2) = us := by rfl) (hts : ∀ j ∈ ts, j ∈ us := by decide) (hs : ∀ x, foldedSetIterable y X.env x = pure x := by intro _; rfl) :
    PE X (.ListComp x [⟨tg, y, ifs, 0⟩] scope pos) (TD X.K X.mg W own true (dLc l us g t a)) := by
  subst hus
  exact PE.imp (pe_lc C.calm C.nd hi ok hg ht he hs) fun σ H Q q => lc_go hts q
end
end Lt
/-! ## LtSnd6 -/
set_option maxHeartbeats 4000000
namespace Lt
open PySem PySem.Spec PyProof.Rows L2
/-! ### statements -/
/-- what an outcome asks: o1: the owned slots behind it, oL: those at a break or a continue -/
def OutS (K : PySem.W.Frag) (mg : Str → Option Value) (W : WX) (o1 oL : List Nat) (rb : Bool) (H0 F0 : Hp) (D : Ends) : Os → Prop
  | .nx e => ∀ σ F H, Rel K o1 H0 F0 F H σ e → D.nx σ H
  | .rt p => ∀ v F H, Got K rb F0 H0 F H v p → D.rt v H
  | .bk e => ∀ σ F H, Rel K oL H0 F0 F H σ e → D.bk σ H
  | .ct e => ∀ σ F H, Rel K oL H0 F0 F H σ e → D.ct σ H
  | .exc c e => ∀ σ F H, Rel K [] H0 F0 F H σ e → W (excV mg c) none σ H
  | .bad => False
def TSD (K : PySem.W.Frag) (mg : Str → Option Value) (W : WX) (own o1 oL : List Nat) (rb : Bool) (d : DS) : TS := fun D σ H => ∃ H0 F0 F e, Rel K own H0 F0 F H σ e ∧ OutS K mg W o1 oL rb H0 F0 D (d e)
section
variable {K : PySem.W.Frag} {mg : Str → Option Value} {W : WX} {own o1 oL : List Nat} {rb : Bool} {H0 F0 F H : Hp} {D : Ends} {σ : L2.St} {e : Lv}
theorem OutS.thenO {α : Type} {r : Rs α} {f : α → Os} (rel : Rel K own H0 F0 F H σ e) (h : OutS K mg W o1 oL rb H0 F0 D (r.thenO e f)) : Out mg W σ H r fun a => OutS K mg W o1 oL rb H0 F0 D (f a) := by
  cases r with
  | ok a => exact h
  | exc c =>
    intro H' s
    obtain ⟨F', r'⟩ := (rel.grow (H' := H') (F' := F) s (fun _ _ h => h) (fun x o h => s x o (rel.sub x o h)) (fun _ _ => rfl)).weak (own' := []) (fun j h => nomatch h)
    exact h σ F' H' r'
  | bad => exact h
end
section
variable {X : Cx} {W : WX} {k : Nat} {own own' o1 o2 oL : List Nat} {b rb : Bool} {pos p0 p1 : Pos} {x y z : Expr} {es : List Expr} {a c d : DE} {ra : DA} {n : Str} {st : Stmt} {sts rest : List Stmt} {ds dt : DS}
/-- fewer slots are owned ahead of it than one knows -/
theorem s_pre (S : List Nat) {ow : List Nat} (h : PS X st (TSD X.K X.mg W ow o1 oL rb ds)) (hl : less own S = ow := by rfl) : PS X st (TSD X.K X.mg W own o1 oL rb ds) := by
  subst hl
  exact PS.imp h fun D σ H ⟨H0, F0, F, e, r, q⟩ => by
    obtain ⟨F1, r1, _⟩ := r.freeze S
    exact ⟨H0, F0, F1, e, r1, q⟩
/-- .. behind it, by name -/
theorem OutS.weak {K : PySem.W.Frag} {mg : Str → Option Value} {H0 F0 : Hp} {D : Ends} {o : Os} (hw : ∀ j ∈ o2, j ∈ o1) (h : OutS K mg W o2 oL rb H0 F0 D o) : OutS K mg W o1 oL rb H0 F0 D o := by
  cases o with
  | nx e =>
    intro σ F H r
    obtain ⟨F', r'⟩ := r.weak hw
    exact h σ F' H r'
  | _ => exact h
theorem ss_nil : PSs X [] (TSD X.K X.mg W own own oL rb sNext) := PSs.imp pss_nil fun D σ H ⟨H0, F0, F, e, r, q⟩ => q σ F H r
theorem ss_one (h : PS X st (TSD X.K X.mg W own o1 oL rb ds)) : PSs X [st] (TSD X.K X.mg W own o1 oL rb ds) := pss_one h
theorem ss_cons (h : PS X st (TSD X.K X.mg W own o1 oL rb ds)) (h' : PSs X rest (TSD X.K X.mg W o1 o2 oL rb dt)) : PSs X (st :: rest) (TSD X.K X.mg W own o2 oL rb (sSeq ds dt)) :=
  PSs.imp (pss_cons h h') fun D σ H ⟨H0, F0, F, e, r, q⟩ => by
    refine ⟨H0, F0, F, e, r, ?_⟩
    unfold sSeq at q
    cases hd : ds e with
    | nx e1 => rw [hd] at q; exact fun σ1 F1 H1 r1 => ⟨H0, F0, F1, e1, r1, q⟩
    | rt p => rw [hd] at q; exact q
    | bk e1 => rw [hd] at q; exact q
    | ct e1 => rw [hd] at q; exact q
    | exc c e1 => rw [hd] at q; exact q
    | bad => rw [hd] at q; exact q
/-- x = e -/
theorem s_set (i : Nat) {pos' : Pos} (hN : X.N.Nodup) (he : PE X x (TD X.K X.mg W own b a)) (ho : setOwn own i b = o1 := by rfl) (hi : X.N[i]? = some n := by rfl) (hx : Loc X.env.scope n := by first | exact Or.inl rfl | exact Or.inr rfl)
    (hs : swapsWith x (some (.Name n pos')) pos.line X.env = pure false := by rfl) (hf : X.fn n = true ∨ X.env.scope.names.lookup n = some .local := by first | exact .inl rfl | exact .inr rfl | assumption) :
    PS X (.Assign [.Name n pos'] x pos) (TSD X.K X.mg W own o1 oL rb (sSet i a)) := by
  subst ho
  exact PS.imp (ps_set hN hi hx he hs hf) fun D σ H ⟨H0, F0, F, e, r, q⟩ => ⟨H0, F0, F, e, r, (q.thenO r).imp fun p hp v F1 H1 g => hp _ F1 H1 (r.putAny g i)⟩
/-- target = e, for a target of several names, none owned -/
theorem s_asg {tg : Expr} {ts : List Nat} {g : DG} (he : PE X x (TD X.K X.mg W own false a)) (hg : PG X tg (TGD X.K own ts g)) (hs : swapsWithSole [tg] x pos.line X.env = pure false := by rfl) (hw : swappedStores [tg] x X.env = pure none := by rfl)
    (h1 : (assignEach [tg] X.env).map (·.2) = [assign tg X.env] := by rfl) : PS X (.Assign [tg] x pos) (TSD X.K X.mg W own own oL rb (sAsg g a)) :=
  PS.imp (ps_asg he hg hs hw h1) fun D σ H ⟨H0, F0, F, e, r, q⟩ => ⟨H0, F0, F, e, r, (q.thenO r).imp fun p hp v F1 H1 g1 => by
    obtain ⟨e', h1, h2⟩ := (hp.thenO (r.got g1)).ofO
    exact ⟨H0, F0, F1, e, p, r.got g1, g1.rep rfl, e', h1, fun σ' r' _ _ => h2 σ' F1 H1 r'⟩⟩
/-- x, y = e1, e2 with local names, none owned -/
theorem s_par (i j : Nat) {m : Str} {px py pt : Pos} {kt k2 : Nat} {pt2 : Pos} (C : Cxt X W k) (ha : PE X x (TD X.K X.mg W own false a)) (hc : PE X y (TD X.K X.mg W own false c)) (hi : X.N[i]? = some n := by rfl) (hj : X.N[j]? = some m := by rfl) (hij : i ≠ j := by decide)
    (oi : i ∉ own := by decide) (oj : j ∉ own := by decide) (hx : X.env.scope.names.lookup n = some .local := by rfl) (hy : X.env.scope.names.lookup m = some .local := by rfl)
    (h1 : starEach [x, y] X.env = (false, eval x X.env) :: starEach [y] X.env := by rfl) (h2 : starEach [y] X.env = (false, eval y X.env) :: starEach [] X.env := by rfl)
    (hw : swappedStores [.Tuple [.Name n px, .Name m py] kt pt] (.Tuple [x, y] k2 pt2) X.env = pure (some [n, m]) := by rfl)
    (hs : swapsWithSole [.Tuple [.Name n px, .Name m py] kt pt] (.Tuple [x, y] k2 pt2) pos.line X.env = pure false := by rfl) :
    PS X (.Assign [.Tuple [.Name n px, .Name m py] kt pt] (.Tuple [x, y] k2 pt2) pos) (TSD X.K X.mg W own own oL rb (sPar i j a c)) :=
  PS.imp (ps_par C.calm C.nd hi hj hij hx hy (pa_cons ha (pa_cons hc pa_nil h2) h1) hw hs) fun D σ H ⟨H0, F0, F, e, r, q⟩ => ⟨H0, F0, F, e, r, (q.thenO r).imp fun p hp v F1 H1 g1 =>
    ⟨H0, F0, F1, e, r.got g1, (hp.thenO (r.got g1)).imp fun p2 hq u F2 H2 g2 => ⟨v, u, rfl, hq _ F2 H2 ((((r.got g1).got g2).put oi ((g1.rep rfl).mono g2.le)).put oj (g2.rep rfl))⟩⟩⟩
theorem s_expr (he : PE X x (TD X.K X.mg W own b a)) (hs : swapsWith x none pos.line X.env = pure false := by rfl) : PS X (.Expr x pos) (TSD X.K X.mg W own own oL rb (sExpr a)) :=
  PS.imp (ps_expr he hs) fun D σ H ⟨H0, F0, F, e, r, q⟩ => ⟨H0, F0, F, e, r, (q.thenO r).imp fun p hp v F1 H1 g => hp σ F1 H1 (r.got g)⟩
theorem s_ret (he : PE X x (TD X.K X.mg W own rb a)) : PS X (.Return (some x) pos) (TSD X.K X.mg W own o1 oL rb (sRet a)) :=
  PS.imp (ps_ret he) fun D σ H ⟨H0, F0, F, e, r, q⟩ => ⟨H0, F0, F, e, r, (q.thenO r).imp fun p hp v F1 H1 g => hp v F1 H1 (r.out g)⟩
theorem s_if {t : DT} (ht : PT X x (TDT X.K X.mg W own t)) (h1 : PSs X sts (TSD X.K X.mg W own o1 oL rb ds)) (h2 : PSs X rest (TSD X.K X.mg W own o1 oL rb dt)) : PS X (.If x sts rest pos) (TSD X.K X.mg W own o1 oL rb (sIf t ds dt)) :=
  PS.imp (ps_if ht h1 h2) fun D σ H ⟨H0, F0, F, e, r, q⟩ => ⟨H0, F0, F, e, r, (q.thenO r).imp fun c hc F1 H1 g => by
    cases c with
    | true => exact ⟨H0, F0, F1, e, r.got g, hc⟩
    | false => exact ⟨H0, F0, F1, e, r.got g, hc⟩⟩
/-- an error's class without an __init__ of its own -/
structure ExT (K : PySem.W.Frag) (mg : Str → Option Value) (n : Str) (C : Addr) : Prop where
  g : mg n = some (.ref C)
  x : PySem.W.excIn K C [.type "ValueError", .type "Exception", .type "BaseException", .type "object"] "ValueError.__new__" = true
  k : PySem.W.keepIn K (.ref C) = true
  b : PySem.W.subIn K (.ref C) (.type "BaseException") = some true
  t : PySem.W.typeIn K (.ref C) = some (.type "type")
theorem s_raise {j : Nat} {m : Str} {B : Addr} {p2 : Pos} (C : Cxt X W k) (T : ExT X.K X.mg n B) (hg : Gl X n := by rfl) (hdb : (n == ("__debug__" : Str)) = false := by decide) :
    PS X (.Raise (some (.Call (.Name n p0) [.Constant (.str m) j p1] [] p2)) none pos) (TSD X.K X.mg W own o1 oL rb (sRaise n)) :=
  PS.imp (ps_raise C.calm C.tk (pmk_own PySem.F.excBase_ValueError T.x T.g T.k (raises_own T.b T.t) hg hdb)) fun D σ H ⟨H0, F0, F, e, r, q⟩ => by
    obtain ⟨F', r'⟩ := r.weak (own' := []) (fun j h => nomatch h)
    have := q σ F' H r'
    rw [show excV X.mg n = .ref B by unfold excV; rw [T.g]; rfl] at this
    exact this
/-- xs.append(e) of an owned list -/
theorem s_append (i : Nat) {apos : Pos} (he : PE X x (TD X.K X.mg W own false a)) (hi : i ∈ own := by decide) (hN : X.N[i]? = some n := by rfl) (hv : Vis X.env.scope n := by first | exact Or.inl rfl | exact Or.inr (Or.inl rfl) | exact Or.inr (Or.inr rfl))
    (hd : (n == ("__debug__" : Str)) = false := by decide) (hcd : (n == ("__classdict__" : Str)) = false := by decide) (hs1 : starEach [x] X.env = (false, eval x X.env) :: starEach [] X.env := by rfl)
    (hbase : attributeBase (.Name n p0) "append" X.env (eval (.Name n p0) X.env) = eval (.Name n p0) X.env := by rfl)
    (hfew : ((backTo pos (starEach [x] X.env)).all (fun x => !x.1) && (backToKw pos (keywordEach [] X.env)).all (fun x => x.1.isSome) && decide ([x].length + ([] : List Keyword).length + (if ([] : List Keyword).isEmpty then 0 else 1) < 30)) = true := by rfl)
    (hline : (apos.endLine == pos.line) = true := by rfl) (hs : swapsWith (.Call (.Attribute (.Name n p0) "append" apos) [x] [] pos) none p1.line X.env = pure false := by rfl) :
    PS X (.Expr (.Call (.Attribute (.Name n p0) "append" apos) [x] [] pos) p1) (TSD X.K X.mg W own own oL rb (sAppend i a)) :=
  PS.imp (ps_expr (pe_bm PySem.F.plainAttrs_list PySem.F.slot_list_append PySem.F.type_list_append mt_append (pe_var hN hv hd hcd) (pa_cons he pa_nil hs1) hbase hfew hline hs1) hs) fun D σ H ⟨H0, F0, F, e, rel, q⟩ => by
    have q := q.thenO rel
    unfold dVar at q
    cases hp : e[i]? with
    | none => rw [hp] at q; exact False.elim q
    | some o =>
      cases o with
      | none => rw [hp] at q; exact False.elim q
      | some p =>
        rw [hp] at q
        obtain ⟨v, h1, h2, _⟩ := rel.val i p hp
        obtain ⟨l, o, rfl, w2, w3, w4, w5⟩ := h2 hi
        obtain ⟨ps, ep, q5⟩ := (q.ok.thenO rel).ofO
        cases p <;> first | (cases ep; done) | skip
        · cases ep
          cases o <;> first | exact False.elim w5 | skip
          rename_i vs
          have q6 := q5.thenO rel
          refine ⟨.ref l, h1, .inl ⟨rfl, vs, .inl (.inl w4)⟩, H0, F0, F, e, rel, q6.imp fun p2 hp2 u F1 H1 g1 => ?_⟩
          have rel1 := rel.got g1
          by_cases hl : ps.length < sizeLine
          · rw [if_pos hl] at hp2
            have h4 := hp2
            have f1l : F1 l = none := by rw [g1.st l (by rw [w4]; simp)]; exact w2
            have w5' : Reps X.K F vs ps := w5
            have rep' : Reps X.K F1 (vs ++ [u]) (ps ++ [p2]) := (w5'.mono g1.le).app (.cons (g1.rep rfl) .nil)
            refine ⟨l, vs, u, rfl, rfl, g1.hh l _ w4, by rw [w5'.length]; exact hl, h4 σ F1 _ ⟨fun x o h => ?_, fun x o h => ?_, rel1.fb, rel1.fm, by rw [List.length_set]; exact rel.len, fun j q0 hq => ?_, fun j k a q q' hn h1 h2 e1 e2 s1 s2 => ?_⟩⟩
            · rw [upd_ne (ne_of_none h f1l)]; exact rel1.sub x o h
            · rw [upd_ne (ne_of_none h w3)]; exact rel1.base x o h
            · by_cases hj : i = j
              · subst hj
                have hlt := (List.getElem?_eq_some_iff.mp hp).1
                rw [List.getElem?_set_self hlt] at hq
                cases hq
                exact ⟨.ref l, h1, fun _ => ⟨l, _, rfl, f1l, w3, upd_same, rep'⟩, fun w => absurd hi w⟩
              · rw [List.getElem?_set_ne hj] at hq
                obtain ⟨v', z1, z2, z3⟩ := rel1.val j q0 hq
                refine ⟨v', z1, fun w => ?_, z3⟩
                obtain ⟨l', o', y1, y2, y3, y4, y5⟩ := z2 w
                refine ⟨l', o', y1, y2, y3, ?_, y5⟩
                have : l' ≠ l := fun z => by
                  subst z y1
                  exact rel.sep j i l' q0 _ (Ne.symm hj) w hi hq hp z1 h1
                rw [upd_ne this]; exact y4
            · have back : ∀ j q, (e.set i (some (PyData.list (ps ++ [p2]))))[j]? = some (some q) → ∃ q1, e[j]? = some (some q1) := fun j q hq => by
                by_cases hj : i = j
                · subst hj; exact ⟨_, hp⟩
                · rw [List.getElem?_set_ne hj] at hq; exact ⟨q, hq⟩
              obtain ⟨q1, e1'⟩ := back j q e1
              obtain ⟨q2, e2'⟩ := back k q' e2
              exact rel.sep j k a q1 q2 hn h1 h2 e1' e2' s1 s2
          · rw [if_neg hl] at hp2; exact False.elim hp2
end
end Lt
/-! ## LtSnd7 -/
set_option maxHeartbeats 4000000
namespace Lt
open PySem PySem.Spec PyProof.Rows L2
section
variable {X : Cx} {W : WX} {k : Nat} {own own' o1 o2 oL : List Nat} {b rb : Bool} {pos p0 p1 : Pos} {x y z : Expr} {es : List Expr} {a c d : DE} {ra : DA} {n : Str} {st : Stmt} {sts rest body : List Stmt} {ds dt : DS}
/-- for tg in it: body; the same slots are owned at each turn -/
theorem s_for {tg : Expr} {ts : List Nat} {l : DL} {g : DG} (C : Cxt X W k) (hi : PI X tg x (TDI X.K X.mg W own l)) (hg : PG X tg (TGD X.K own ts g)) (hb : PSs X body (TSD X.K X.mg W own own own rb ds))
    (hs : ∀ v, foldedSetIterable x X.env v = pure v := by intro _; rfl) : PS X (.For tg x body [] pos) (TSD X.K X.mg W own own oL rb (sFor l g ds)) :=
  PS.imp (ps_for C.hp C.calm hi hg hb hs) fun D σ H ⟨H0, F0, F, e, rel, q⟩ => ⟨H0, F0, F, e, rel, (q.thenO rel).imp fun ps hp J F1 H1 g1 wk hz => by
    refine ⟨fun i m σi Hi => i ≤ ps.length ∧ m = ps.length - i ∧ ∃ Fi ei, Rel X.K own H0 F0 Fi Hi σi ei ∧ (∀ x o, F1 x = some o → Fi x = some o) ∧ OutS X.K X.mg W own oL rb H0 F0 D (forGo g ds (ps.drop i) ei),
      ⟨ps.length, Nat.zero_le _, rfl, F1, e, rel.got g1, fun _ _ h => h, hp⟩, ?_⟩
    rintro i m σi Hi ⟨hi, rfl, Fi, ei, reli, ff, hq⟩
    have f1h : ∀ x o, F1 x = some o → Hi x = some o := fun x o h => reli.sub x o (ff x o h)
    by_cases hlt : i < ps.length
    · rw [List.drop_eq_getElem_cons hlt] at hq
      refine .inr ⟨wk.go i Hi f1h hlt, fun σ' H' => i + 1 ≤ ps.length ∧ ∃ Fi ei, Rel X.K own H0 F0 Fi H' σ' ei ∧ (∀ x o, F1 x = some o → Fi x = some o) ∧ OutS X.K X.mg W own oL rb H0 F0 D (forGo g ds (ps.drop (i + 1)) ei),
        fun σ' H' ⟨h1, h2⟩ => ⟨ps.length - (i + 1), by omega, h1, rfl, h2⟩, fun v H' yl => ?_⟩
      obtain ⟨F2, g2⟩ := wk.yld i Hi v H' Fi _ yl ff reli.sub (List.getElem?_eq_getElem hlt)
      have rel2 := reli.got g2
      have hq : OutS X.K X.mg W own oL rb H0 F0 D ((Rs.ofO (g ps[i] ei)).thenO ei fun e1 => match ds e1 with
        | .nx e2 => forGo g ds (ps.drop (i + 1)) e2
        | .ct e2 => forGo g ds (ps.drop (i + 1)) e2
        | .bk e2 => .nx e2
        | .rt p => .rt p
        | .exc c e2 => .exc c e2
        | .bad => .bad) := hq
      obtain ⟨e1, eg, hq⟩ := (hq.thenO rel2).ofO
      -- the body's own entry: the same as the loop's, but that what the iterator reads stays
      refine ⟨H0, F0, F2, ei, _, rel2, g2.rep rfl, e1, eg, fun σ2 rel3 _ _ => ?_⟩
      -- what is walked stays frozen: an entry of its own for the body
      have ent : Rel X.K own (fun a => if F1 a ≠ none then F1 a else H0 a) (fun a => if F1 a ≠ none then F1 a else F0 a) F2 H' σ2 e1 := by
        refine ⟨rel3.sub, fun x o h => ?_, fun x h => ?_, fun x o h => ?_, rel3.len, fun j p hj => ?_, rel3.sep⟩
        · by_cases hx : F1 x = none
          · have h : (if F1 x ≠ none then F1 x else H0 x) = some o := h
            rw [if_neg (by simp [hx])] at h
            exact rel3.base x o h
          · have h : (if F1 x ≠ none then F1 x else H0 x) = some o := h
            rw [if_pos hx] at h
            exact rel3.sub x o (g2.ff x o (ff x o h))
        · by_cases hx : F1 x = none
          · have h : (if F1 x ≠ none then F1 x else H0 x) ≠ none := h
            rw [if_neg (by simp [hx])] at h
            show F2 x = if F1 x ≠ none then F1 x else F0 x
            rw [if_neg (by simp [hx])]
            exact rel3.fb x h
          · show F2 x = if F1 x ≠ none then F1 x else F0 x
            rw [if_pos hx]
            obtain ⟨o, ho⟩ := Option.ne_none_iff_exists'.mp hx
            rw [ho]
            exact g2.ff x o (ff x o ho)
        · by_cases hx : F1 x = none
          · have h : (if F1 x ≠ none then F1 x else F0 x) = some o := h
            rw [if_neg (by simp [hx])] at h
            exact rel3.fm x o h
          · have h : (if F1 x ≠ none then F1 x else F0 x) = some o := h
            rw [if_pos hx] at h
            exact g2.ff x o (ff x o h)
        · obtain ⟨v, z1, z2, z3⟩ := rel3.val j p hj
          refine ⟨v, z1, fun w => ?_, z3⟩
          obtain ⟨a, o, y1, y2, y3, y4, y5⟩ := z2 w
          refine ⟨a, o, y1, y2, ?_, y4, y5⟩
          have hx : F1 a = none := by
            cases hz : F1 a with
            | none => rfl
            | some u => rw [g2.ff a u (ff a u hz)] at y2; cases y2
          show (if F1 a ≠ none then F1 a else H0 a) = none
          rw [if_neg (by simp [hx])]
          exact y3
      -- back from the body's entry to the loop's
      have back : ∀ {o : List Nat} {Fx Hx : Hp} {σx : L2.St} {ex : Lv}, Rel X.K o (fun a => if F1 a ≠ none then F1 a else H0 a) (fun a => if F1 a ≠ none then F1 a else F0 a) Fx Hx σx ex →
          Rel X.K o H0 F0 Fx Hx σx ex ∧ ∀ x o, F1 x = some o → Fx x = some o := fun {o Fx Hx σx ex} r => by
        have f1x : ∀ x u, F1 x = some u → Fx x = some u := fun x u h => r.fm x u (by
          show (if F1 x ≠ none then F1 x else F0 x) = some u
          rw [if_pos (by rw [h]; simp)]; exact h)
        have rel1 := rel.got g1
        refine ⟨⟨r.sub, fun x u h => ?_, fun x h => ?_, fun x u h => ?_, r.len, fun j p hj => ?_, r.sep⟩, f1x⟩
        · by_cases hx : F1 x = none
          · exact r.base x u (by
              show (if F1 x ≠ none then F1 x else H0 x) = some u
              rw [if_neg (by simp [hx])]; exact h)
          · obtain ⟨w, hw⟩ := Option.ne_none_iff_exists'.mp hx
            have e1 := rel1.sub x w hw
            rw [rel1.base x u h] at e1
            cases e1
            exact r.sub x u (f1x x u hw)
        · by_cases hx : F1 x = none
          · have := r.fb x (by
              show (if F1 x ≠ none then F1 x else H0 x) ≠ none
              rw [if_neg (by simp [hx])]; exact h)
            rw [this]
            show (if F1 x ≠ none then F1 x else F0 x) = F0 x
            rw [if_neg (by simp [hx])]
          · obtain ⟨w, hw⟩ := Option.ne_none_iff_exists'.mp hx
            rw [f1x x w hw, ← hw]
            exact rel1.fb x h
        · by_cases hx : F1 x = none
          · exact r.fm x u (by
              show (if F1 x ≠ none then F1 x else F0 x) = some u
              rw [if_neg (by simp [hx])]; exact h)
          · have := rel1.fm x u h
            exact f1x x u this
        · obtain ⟨v, z1, z2, z3⟩ := r.val j p hj
          refine ⟨v, z1, fun w => ?_, z3⟩
          obtain ⟨a, u, y1, y2, y3, y4, y5⟩ := z2 w
          refine ⟨a, u, y1, y2, ?_, y4, y5⟩
          by_cases hx : F1 a = none
          · have y3 : (if F1 a ≠ none then F1 a else H0 a) = none := y3
            rw [if_neg (by simp [hx])] at y3
            exact y3
          · have y3 : (if F1 a ≠ none then F1 a else H0 a) = none := y3
            rw [if_pos hx] at y3
            exact absurd y3 hx
      refine ⟨_, _, F2, e1, ent, ?_⟩
      cases hd : ds e1 with
      | nx e2 =>
        rw [hd] at hq
        intro σ3 F3 H3 r3
        obtain ⟨r4, f4⟩ := back r3
        exact ⟨hlt, F3, e2, r4, f4, hq⟩
      | ct e2 =>
        rw [hd] at hq
        intro σ3 F3 H3 r3
        obtain ⟨r4, f4⟩ := back r3
        exact ⟨hlt, F3, e2, r4, f4, hq⟩
      | bk e2 =>
        rw [hd] at hq
        intro σ3 F3 H3 r3
        exact hq σ3 F3 H3 (back r3).1
      | rt p =>
        rw [hd] at hq
        intro v F3 H3 g3
        refine hq v F3 H3 ⟨fun x u h => ?_, fun x u h => ?_, g3.fh, fun x h => ?_, fun hb => ?_, g3.rep⟩
        · have rel1 := rel.got g1
          by_cases hx : F1 x = none
          · exact g3.hh x u (by
              show (if F1 x ≠ none then F1 x else H0 x) = some u
              rw [if_neg (by simp [hx])]; exact h)
          · obtain ⟨w, hw⟩ := Option.ne_none_iff_exists'.mp hx
            have e1 := rel1.sub x w hw
            rw [rel1.base x u h] at e1
            cases e1
            exact g3.hh x u (by
              show (if F1 x ≠ none then F1 x else H0 x) = some u
              rw [if_pos hx]; exact hw)
        · by_cases hx : F1 x = none
          · exact g3.ff x u (by
              show (if F1 x ≠ none then F1 x else F0 x) = some u
              rw [if_neg (by simp [hx])]; exact h)
          · exact g3.ff x u (by
              show (if F1 x ≠ none then F1 x else F0 x) = some u
              rw [if_pos hx]; exact (rel.got g1).fm x u h)
        · by_cases hx : F1 x = none
          · have := g3.st x (by
              show (if F1 x ≠ none then F1 x else H0 x) ≠ none
              rw [if_neg (by simp [hx])]; exact h)
            rw [this]
            show (if F1 x ≠ none then F1 x else F0 x) = F0 x
            rw [if_neg (by simp [hx])]
          · have := g3.st x (by
              show (if F1 x ≠ none then F1 x else H0 x) ≠ none
              rw [if_pos hx]; exact hx)
            rw [this]
            show (if F1 x ≠ none then F1 x else F0 x) = F0 x
            rw [if_pos hx]
            exact (rel.got g1).fb x h
        · obtain ⟨a, o, e1, e2, e3⟩ := g3.own hb
          refine ⟨a, o, e1, ?_, e3⟩
          have e2 : (if F1 a ≠ none then F1 a else H0 a) = none := e2
          by_cases hx : F1 a = none
          · rw [if_neg (by simp [hx])] at e2; exact e2
          · rw [if_pos hx] at e2; exact absurd e2 hx
      | exc c e2 =>
        rw [hd] at hq
        intro σ3 F3 H3 r3
        exact hq σ3 F3 H3 (back r3).1
      | bad => rw [hd] at hq; exact hq
    · have e0 : i = ps.length := by omega
      subst e0
      rw [List.drop_length] at hq
      exact .inl ⟨wk.stop _ Hi f1h (Nat.le_refl _), hq σi Fi Hi reli⟩⟩
end
end Lt
/-! ## LtSnd8 -/
set_option maxHeartbeats 4000000
namespace Lt
open PySem PySem.Spec PyProof.Rows L2
/-! ### try .. except -/
/-- which of the known classes the clause takes -/
def ExAll (K : PySem.W.Frag) (mg : Str → Option Value) (c : Value) (cs : List Str) : List Str → Prop
  | [] => True
  | n :: r => PySem.W.exmOne K (excV mg n) c = some (cs.contains n) ∧ ExAll K mg c cs r
theorem ExAll.at {K : PySem.W.Frag} {mg : Str → Option Value} {c : Value} {cs : List Str} : ∀ {all : List Str}, ExAll K mg c cs all → ∀ n, all.contains n = true → PySem.W.exmOne K (excV mg n) c = some (cs.contains n)
  | [], _, n, h => by simp at h
  | m :: r, ⟨h1, h2⟩, n, h => by
    by_cases e : n = m
    · subst e; exact h1
    · refine h2.at n ?_
      simp only [List.contains_cons, Bool.or_eq_true, beq_iff_eq] at h
      rcases h with h | h
      · exact absurd h e
      · exact h
inductive Hdl (X : Cx) (all : List Str) (o1 oL : List Nat) (rb : Bool) : List ExceptHandler → List (Value × (Addr → Value → Option Addr → TS)) → List (List Str × DS) → Prop where
  | nil : Hdl X all o1 oL rb [] [] []
  | cons {n : Str} {C : Addr} {cs : List Str} {b0 : Stmt} {suite : List Stmt} {np pos' : Pos} {ds : DS} {hds : List ExceptHandler} {l : List (Value × (Addr → Value → Option Addr → TS))} {hs : List (List Str × DS)}
      (hm : X.mg n = some (.ref C)) (hx : ExAll X.K X.mg (.ref C) cs all)
      (hsu : ∀ (a : Addr) (oe : Obj) (pn : List (Addr × Obj)), PSs (X.suite a ((a, oe) :: pn)) (b0 :: suite) (TSD X.K X.mg noW [] o1 oL rb ds)) (r : Hdl X all o1 oL rb hds l hs) (hg : Gl X n := by rfl) (hdb : (n == ("__debug__" : Str)) = false := by decide) :
      Hdl X all o1 oL rb (.ExceptHandler (some (.Name n np)) none (b0 :: suite) pos' :: hds) ((.ref C, fun _ _ _ => TSD X.K X.mg noW [] o1 oL rb ds) :: l) ((cs, ds) :: hs)
theorem Hdl.ok {X : Cx} {all : List Str} {o1 oL : List Nat} {rb : Bool} : ∀ {hds : List ExceptHandler} {l : List (Value × (Addr → Value → Option Addr → TS))} {hs : List (List Str × DS)}, Hdl X all o1 oL rb hds l hs → HdsOk X hds l
  | _, _, _, .nil => .nil
  | _, _, _, .cons hm hx hsu r hg hdb => .cons ⟨hg, hdb, .inl hm⟩ (fun a oe _ _ pn _ _ => hsu a oe pn) r.ok
theorem OutS.noExc {K : PySem.W.Frag} {mg : Str → Option Value} {W W' : WX} {o1 oL : List Nat} {rb : Bool} {H0 F0 : Hp} {D : Ends} {o : Os} (h : OutS K mg W o1 oL rb H0 F0 D (noExc o)) : OutS K mg W' o1 oL rb H0 F0 D o := by
  cases o <;> first | exact h | exact False.elim h
theorem Hdl.want {X : Cx} {W : WX} {all : List Str} {o1 oL : List Nat} {rb : Bool} {H0 F0 F H : Hp} {D : Ends} {σ : L2.St} {e : Lv} {c : Str} (hc : all.contains c = true) (rel : Rel X.K [] H0 F0 F H σ e) :
    ∀ {hds : List ExceptHandler} {l : List (Value × (Addr → Value → Option Addr → TS))} {hs : List (List Str × DS)}, Hdl X all o1 oL rb hds l hs → OutS X.K X.mg W o1 oL rb H0 F0 D (trySel hs c e) → wMany X.K W D l (excV X.mg c) none σ H
  | _, _, _, .nil, h => h σ F H rel
  | _, _, _, .cons (cs := cs) (ds := ds) hm hx hsu r hg hdb, h => by
    refine ⟨cs.contains c, hx.at c hc, fun hb a _ => ?_, fun hb => ?_⟩
    · have h : OutS X.K X.mg W o1 oL rb H0 F0 D (if cs.contains c = true then Lt.noExc (ds e) else trySel _ c e) := h
      rw [if_pos hb] at h
      exact ⟨H0, F0, F, e, rel, h.noExc⟩
    · have h : OutS X.K X.mg W o1 oL rb H0 F0 D (if cs.contains c = true then Lt.noExc (ds e) else trySel _ c e) := h
      rw [if_neg (by rw [hb]; decide)] at h
      exact Hdl.want hc rel r h
section
variable {X : Cx} {W : WX} {k : Nat} {own own' o1 o2 oL : List Nat} {b rb : Bool} {pos p0 p1 : Pos} {x y z : Expr} {es : List Expr} {a c d : DE} {ra : DA} {n : Str} {st : Stmt} {sts rest body : List Stmt} {ds dt : DS}
theorem Cxt.tr (C : Cxt X W k) {W' : WX} {pn : List (Addr × Obj)} {xe : Value → Shared → Prop} (tk : Takes (X.tr pn xe) W') (hp : PassesOwn (model X.prog X.w) X.A X.env xe) : Cxt (X.tr pn xe) W' k := ⟨C.calm, C.nd, tk, hp, C.room⟩
theorem s_try {all : List Str} {h0 : ExceptHandler} {hds : List ExceptHandler} {l : List (Value × (Addr → Value → Option Addr → TS))} {hs : List (List Str × DS)} (C : Cxt X W k)
    (hb : ∀ (W' : WX) (pn : List (Addr × Obj)) (xe : Value → Shared → Prop), Cxt (X.tr pn xe) W' k → PSs (X.tr pn xe) body (TSD X.K X.mg W' own o1 oL rb ds)) (hh : Hdl X all o1 oL rb (h0 :: hds) l hs)
    (hst : X.stack = X.env :: X.outer := by rfl) (hf : X.env.frame = some X.env.locals := by rfl) : PS X (.Try body (h0 :: hds) [] [] pos) (TSD X.K X.mg W own o1 oL rb (sTry all ds hs)) := by
  refine PS.imp (ps_try_many (tb := fun W' => TSD X.K X.mg W' own o1 oL rb ds) hst hf C.tk (fun W' pn xe tk hp => hb W' pn xe (C.tr tk hp)) hh.ok) fun D σ H ⟨H0, F0, F, e, rel, q⟩ => ⟨H0, F0, F, e, rel, ?_⟩
  unfold sTry at q
  cases hd : ds e with
  | exc c e' =>
    rw [hd] at q
    intro σ' F' H' rel'
    by_cases hc : all.contains c = true
    · have q : OutS X.K X.mg W o1 oL rb H0 F0 D (if all.contains c = true then trySel hs c e' else .bad) := q
      rw [if_pos hc] at q
      exact hh.want hc rel' q
    · have q : OutS X.K X.mg W o1 oL rb H0 F0 D (if all.contains c = true then trySel hs c e' else .bad) := q
      rw [if_neg hc] at q
      exact False.elim q
  | nx e' => rw [hd] at q; exact q
  | rt p => rw [hd] at q; exact q
  | bk e' => rw [hd] at q; exact q
  | ct e' => rw [hd] at q; exact q
  | bad => rw [hd] at q; exact q
end
/-! ### a def -/
theorem rel_start {K : PySem.W.Frag} {F H : Hp} {N : List Str} {vs : List V} {ps : List PyData} {m : Nat} (sub : ∀ a o, F a = some o → H a = some o) (r : Reps K F vs ps) (hm : N.length = m) :
    Rel K [] H F F H (L2.start N vs) (ps.map some ++ List.replicate (m - ps.length) none) where
  sub := sub
  base := fun _ _ h => h
  fb := fun _ _ => rfl
  fm := fun _ _ h => h
  len := by
    unfold L2.start
    simp [hm, r.length]
  val := fun i p hp => by
    have hl := r.length
    by_cases hi : i < ps.length
    · rw [List.getElem?_append_left (by simpa using hi), List.getElem?_map] at hp
      obtain ⟨q, h1, h2⟩ := Option.map_eq_some_iff.mp hp
      cases h2
      obtain ⟨v, e1, e2⟩ := r.get h1
      refine ⟨v, ?_, fun h => (nomatch h), fun _ => e2⟩
      unfold L2.start
      rw [List.getElem?_append_left (by simpa [hl] using hi), List.getElem?_map, e1]
      rfl
    · rw [List.getElem?_append_right (by simpa using Nat.le_of_not_lt hi)] at hp
      obtain ⟨_, h⟩ := List.getElem?_eq_some_iff.mp hp
      simp at h
  sep := fun _ _ _ _ _ _ h => nomatch h
section
variable {P : Program} {w : World} {K : PySem.W.Frag} {mg : Str → Option Value} {base : Heap}
/-- a def means what its body means -/
theorem fn_ok {x qual : Str} {st : Stmt} {f : Addr} {fd : FuncData} {N ps : List Str} {k n m : Nat} {rb : Bool} {o1 : List Nat} {d : DS} (F : Fun K x qual st f fd) (S : FnScope N ps (defScope st)) (hn : ps.length = n) (hm : N.length = m)
    (body : ∀ (cdv : Value) (A : Around) (outer : List Env) (s : Shared) (H : Hp) (E : XK), Cxt (cxOf (L2.CX P w) P w K mg base N qual (defScope st) f cdv A outer s H E) (fun cls d _ H => E cls d H) k →
      PSs (cxOf (L2.CX P w) P w K mg base N qual (defScope st) f cdv A outer s H E) (defBody st) (TSD K mg (fun cls d _ H => E cls d H) [] o1 [] rb d)) :
    FnOk P w K mg base (L2.CX P w) (k + 1) f fd ps (spD K mg n rb (runD m rb d)) := by
  refine F.okX S (fun vs H Q E h => h.1.trans hn.symm) (fun cdv A outer s H vs Q E hr h => ?_)
  obtain ⟨hl, F1, qs, sub, rq, h⟩ := h
  refine ⟨_, body cdv A outer s H E ⟨rfl, S.nd, takes_of rfl rfl rfl rfl, passes_of rfl, hr⟩, H, F1, F1, _, rel_start sub rq hm, ?_⟩
  unfold runD at h
  cases hd : d (qs.map some ++ List.replicate (m - qs.length) none) with
  | nx e =>
    rw [hd] at h
    intro σ F2 H2 r2
    cases rb with
    | true => exact False.elim h
    | false => exact h .non F2 H2 (r2.out (.here r2.sub .non))
  | rt p => rw [hd] at h; exact fun v F2 H2 g => h v F2 H2 g
  | exc c e =>
    rw [hd] at h
    intro σ F2 H2 r2
    exact h H2 r2.base
  | bk e => rw [hd] at h; exact False.elim h
  | ct e => rw [hd] at h; exact False.elim h
  | bad => rw [hd] at h; exact False.elim h
/-- what the top has left of a def -/
structure FnT (K : PySem.W.Frag) (mg : Str → Option Value) (x : Str) (st : Stmt) (ps : List Str) (f : Addr) (fd : FuncData) : Prop where
  F : Fun K x x st f fd
  g : mg x = some (.ref f)
  b : Binds K fd ps []
theorem fnt_mk {h : Heap} {x : Str} {st : Stmt} {ps : List Str} {f : Addr} {oc : Value} {od an : Option Addr} {osl : Array (Option Value)} {kV doc pm cdv ct : Value} (X : K.In h) (G : h.Ns mainGlobals mg)
    (hb : ∀ (kV doc pm : Value) (an : Option Addr) (cdv ct : Value) (us : List Value), us.length = ps.length → bindArgs (PySem.W.fnOf x x (defArgs st) (defBody st) (defScope st) .none kV doc pm an cdv ct) ⟨us, []⟩ = pure (ps.zip us))
    (a : PySem.W.nsIn K mainGlobals x = some (some (.ref f)))
    (l : K.lookup f = some ⟨oc, od, .func (PySem.W.fnOf x x (defArgs st) (defBody st) (defScope st) .none kV doc pm an cdv ct), osl⟩) (c : PySem.W.codeIn K cdv x = true) (k : PySem.W.keepIn K (.ref f) = true) :
    FnT K mg x st ps f (PySem.W.fnOf x x (defArgs st) (defBody st) (defScope st) .none kV doc pm an cdv ct) :=
  have F := fun_mk (st := st) l c k
  ⟨F, PySem.W.mg_of X G a, F.binds hb⟩
theorem excV_of {n : Str} {C : Addr} (h : mg n = some (.ref C)) : excV mg n = .ref C := by unfold excV; rw [h]; rfl
/-- the law's promise, by what it means -/
def spLaw (K : PySem.W.Frag) : Sp := fun vs H Q _ => ∃ (a : Addr) (ns : List Int), vs = [.ref a] ∧ SqL K H a (ns.map V.int) ∧ ns.length ≤ 63 ∧ ∀ H', Q (.bl true) H'
theorem reps_ints {F : Hp} : ∀ ns : List Int, Reps K F (ns.map V.int) (ns.map PyData.int)
  | [] => .nil
  | n :: ns => .cons (.int n) (reps_ints ns)
theorem law_ok {k : Nat} {f : Addr} {fd : FuncData} {fn : List PyData → Rs PyData} (G : FnOk P w K mg base (L2.CX P w) k f fd ["script"] (spD K mg 1 false fn)) (h : ∀ ns : List Int, ns.length ≤ 63 → fn [.list (ns.map PyData.int)] = .ok (.bool true)) :
    FnOk P w K mg base (L2.CX P w) k f fd ["script"] (spLaw K) :=
  G.imp fun vs H Q E ⟨a, ns, e, hs, hl, q⟩ => by
    subst e
    refine ⟨rfl, H, [.list (ns.map PyData.int)], fun _ _ h => h, .cons (.lst hs (reps_ints ns)) .nil, ?_⟩
    rw [h ns hl]
    intro v F' H' g
    rw [(g.rep rfl).blD]
    exact q H'
/-- the law row's walk -/
theorem walk_law {l : PySem.W.OpenLaw} {k : Nat} {q : Program} {loose : List Str} {XP : (Str → Option Value) → Heap → Prop} {YP : World → Heap → Prop} {d : DefRec} {K : Params → PySem.W.Frag} (hr : Room k callerA) (hn : l.most = some 63) (hdf : d.params.defaults = [])
    (hY : ∀ (w : World) (h : Heap), YP w h → (K w.params).In h)
    (F : ∀ (w : World) (mg : Str → Option Value) (fa : Addr) (h : Heap), (K w.params).In h → h.Ns mainGlobals mg → mg d.name = some (.ref fa) →
      ∃ fd : FuncData, (∀ (s : Shared) (u : Value), BindsTo s fd ⟨[u], []⟩ [("script", u)]) ∧ ∀ base : Heap, (K w.params).In base → base.Ns mainGlobals mg → FnOk l.prog w (K w.params) mg base (L2.CX l.prog w) k fa fd ["script"] (spLaw (K w.params))) :
    PySem.W.WalkO q loose XP YP l.row.toRowW d [] (fun f vs => PySem.call f vs) :=
  L2.walk_of (n := 63) (k := k) (x := "script") (CX := fun w => L2.CX l.prog w) (sp := fun w => spLaw (K w.params)) hn (by decide) hdf hr hY F (fun _ _ a ns hl _ hS => ⟨a, ns, rfl, hS, hl, fun _ => rfl⟩) fun _ _ _ _ _ z => by
    obtain ⟨_, _, _, _, _, _, _, _, _, _, _, _, e⟩ := z
    exact e
end
theorem exm_any {K : PySem.W.Frag} {S C : Addr} {r : Bool} (h1 : PySem.W.subIn K (.ref C) (.type "BaseException") = some true) (h2 : PySem.W.isClsIn K C = true) (h3 : PySem.W.typeIn K (.ref C) = some (.type "type")) (h4 : PySem.W.subIn K (.ref S) (.ref C) = some r) :
    PySem.W.exmOne K (.ref S) (.ref C) = some r := by
  have e1 : (PySem.W.subIn K (.ref C) (.type "BaseException") == some true) = true := by rw [h1] <;> rfl
  have e2 : ((PySem.W.clsIn K C).isSome && PySem.W.typeIn K (.ref C) == some (.type "type")) = true := by
    have h2' : (PySem.W.clsIn K C).isSome = true := h2
    rw [h2', h3] <;> rfl
  show (if (PySem.W.subIn K (.ref C) (.type "BaseException") == some true) = true then (if ((PySem.W.clsIn K C).isSome && PySem.W.typeIn K (.ref C) == some (.type "type")) = true then PySem.W.subIn K (.ref S) (.ref C) else none) else none) = some r
  rw [if_pos e1, if_pos e2]
  exact h4
end Lt
/-! ## LtDen2 -/
set_option maxHeartbeats 4000000
/-! Lt, part 1b: more meanings. -/
namespace Lt
open PySem
/-! ### while -/
def whileN (t : DT) (b : DS) : Nat → Lv → Option Os
  | 0, _ => none
  | n + 1, e => match t e with
    | .ok true => match b e with
      | .nx e' => whileN t b n e'
      | .ct e' => whileN t b n e'
      | .bk e' => some (.nx e')
      | .rt p => some (.rt p)
      | .exc c e' => some (.exc c e')
      | .bad => some .bad
    | .ok false => some (.nx e)
    | .exc c => some (.exc c e)
    | .bad => some .bad
open Classical in
noncomputable def sWhile (t : DT) (b : DS) : DS := fun e => if h : ∃ n r, whileN t b n e = some r then Classical.choose (Classical.choose_spec h) else .bad
theorem whileN_more {t : DT} {b : DS} : ∀ {n m : Nat} {e : Lv} {r : Os}, whileN t b n e = some r → n ≤ m → whileN t b m e = some r
  | 0, _, _, _, h, _ => by cases h
  | n + 1, 0, _, _, _, h => by omega
  | n + 1, m + 1, e, r, h, hm => by
    unfold whileN at h ⊢
    cases ht : t e with
    | ok c =>
      rw [ht] at h
      cases c with
      | true =>
        cases hb : b e with
        | nx e' =>
          rw [hb] at h
          exact whileN_more (n := n) (m := m) h (by omega)
        | ct e' =>
          rw [hb] at h
          exact whileN_more (n := n) (m := m) h (by omega)
        | _ => rw [hb] at h; exact h
      | false => exact h
    | _ => rw [ht] at h; exact h
theorem sWhile_of {t : DT} {b : DS} {n : Nat} {e : Lv} {r : Os} (h : whileN t b n e = some r) : sWhile t b e = r := by
  have hx : ∃ n r, whileN t b n e = some r := ⟨n, r, h⟩
  unfold sWhile
  rw [dif_pos hx]
  have h1 := Classical.choose_spec (Classical.choose_spec hx)
  have a := whileN_more h1 (Nat.le_max_left (Classical.choose hx) n)
  have b := whileN_more h (Nat.le_max_right (Classical.choose hx) n)
  rw [a] at b
  exact Option.some.inj b
theorem sWhile_or {t : DT} {b : DS} {e : Lv} : sWhile t b e = .bad ∨ ∃ n, whileN t b n e = some (sWhile t b e) := by
  rcases Classical.em (∃ n r, whileN t b n e = some r) with h | h
  · obtain ⟨n, r, h⟩ := h
    exact .inr ⟨n, by rw [sWhile_of h]; exact h⟩
  · left
    unfold sWhile
    rw [dif_neg h]
/-- one turn of it -/
theorem sWhile_turn {t : DT} {b : DS} (e : Lv) : sWhile t b e = match t e with
    | .ok true => match b e with
      | .nx e' => sWhile t b e'
      | .ct e' => sWhile t b e'
      | .bk e' => .nx e'
      | .rt p => .rt p
      | .exc c e' => .exc c e'
      | .bad => .bad
    | .ok false => .nx e
    | .exc c => .exc c e
    | .bad => .bad := by
  have one : ∀ {n : Nat} {r : Os}, whileN t b (n + 1) e = some r → sWhile t b e = r := fun h => sWhile_of h
  cases ht : t e with
  | ok c =>
    cases c with
    | true =>
      have go : ∀ e', (∀ n, whileN t b (n + 1) e = whileN t b n e') → sWhile t b e = sWhile t b e' := fun e' hn => by
        rcases sWhile_or (t := t) (b := b) (e := e') with h | ⟨n, h⟩
        · rcases sWhile_or (t := t) (b := b) (e := e) with h2 | ⟨m, h2⟩
          · rw [h, h2]
          · cases m with
            | zero => cases h2
            | succ m =>
              rw [hn m] at h2
              exact (sWhile_of h2).symm
        · exact sWhile_of (n := n + 1) (by rw [hn n]; exact h)
      cases hb : b e with
      | nx e' => exact go e' fun n => by simp only [whileN, ht, hb]
      | ct e' => exact go e' fun n => by simp only [whileN, ht, hb]
      | _ => exact one (n := 0) (by simp only [whileN, ht, hb])
    | false => exact one (n := 0) (by simp only [whileN, ht])
  | _ => exact one (n := 0) (by simp only [whileN, ht])
/-! ### sorted(set(..)) of ints -/
/-! ### its meaning -/
def enumD (xs : List PyData) : List PyData := xs.zipIdx.map fun p => .tuple [.int (p.2 : Nat), p.1]
def lEnum (a : DE) : DL := fun e => (a e).bind fun x => match items? x with
  | some xs => .ok (enumD xs)
  | none => .bad
theorem enumD_len (xs : List PyData) : (enumD xs).length = xs.length := by simp [enumD]
theorem enumD_at {xs : List PyData} {i : Nat} {p : PyData} (h : (enumD xs)[i]? = some p) : ∃ x, xs[i]? = some x ∧ p = .tuple [.int (i : Nat), x] := by
  unfold enumD at h
  rw [List.getElem?_map, List.getElem?_zipIdx] at h
  cases hx : xs[i]? with
  | none => rw [hx] at h; simp at h
  | some x => rw [hx] at h; simp at h; exact ⟨x, rfl, h.symm⟩
/-! ### comprehensions with two fors -/
def lc2Go (g : DG) (t : DT) (l1 : DL) (us1 : List Nat) (g1 : DG) (t1 : DT) (a : DE) (e : Lv) : List PyData → Rs (List PyData)
  | [] => .ok []
  | x :: xs => (Rs.ofO (g x e)).bind fun e1 => (t e1).bind fun c =>
    if c = true then (l1 e1).bind fun ys => (lcGo g1 t1 a (wipeL e1 us1) ys).bind fun zs => (lc2Go g t l1 us1 g1 t1 a e xs).bind fun r => .ok (zs ++ r) else lc2Go g t l1 us1 g1 t1 a e xs
def dLc2 (l : DL) (us : List Nat) (g : DG) (t : DT) (l1 : DL) (us1 : List Nat) (g1 : DG) (t1 : DT) (a : DE) : DE := fun e => (l e).bind fun xs => (noX (lc2Go g t l1 us1 g1 t1 a (wipeL e us) xs)).bind fun ys => if ys.length ≤ sizeLine then .ok (.list ys) else .bad
/-! ### xs[k] = v of an owned one -/
def pSetIx (x k y : PyData) : Option PyData :=
  match x, k with
  | .list xs, .int k => (L2.ixN xs.length k).map fun j => .list (xs.set j y)
  | _, _ => none
def sSetIx (i : Nat) (k v : DE) : DS := fun e => (v e).thenO e fun y => (dVar i e).thenO e fun x => (k e).thenO e fun z => (Rs.ofO (pSetIx x z y)).thenO e fun w => .nx (e.set i (some w))
def sAugIx (i : Nat) (k : DE) (f : PyData → PyData → Option PyData) (v : DE) : DS := fun e => (dVar i e).thenO e fun x => (k e).thenO e fun z => (Rs.ofO (pIx x z)).thenO e fun o => (v e).thenO e fun y => (Rs.ofO (f o y)).thenO e fun u => (Rs.ofO (pSetIx x z u)).thenO e fun w => .nx (e.set i (some w))
def pMulI : PyData → PyData → Option PyData
  | .int i, .int j => if mulOk i j then some (.int (i * j)) else none
  | _, _ => none
end Lt
/-! ## LtSnd9 -/
set_option maxHeartbeats 4000000
namespace Lt
open PySem PySem.Spec PyProof.Rows L2
section
variable {X : Cx} {W : WX} {k : Nat} {own own' o1 o2 oL : List Nat} {b rb : Bool} {pos p0 p1 p2 : Pos} {x y z : Expr} {es : List Expr} {a c d : DE} {ra : DA} {n : Str} {st : Stmt} {sts rest body : List Stmt} {ds dt : DS}
/-- while t: body; the same slots are owned at each turn -/
theorem s_while {t : DT} (C : Cxt X W k) (ht : PT X x (TDT X.K X.mg W own t)) (hb : PSs X body (TSD X.K X.mg W own own own rb ds)) : PS X (.While x body [] pos) (TSD X.K X.mg W own own oL rb (sWhile t ds)) :=
  PS.imp (ps_while C.hp ht hb) fun D σ H ⟨H0, F0, F, e, rel, q⟩ => by
    rcases sWhile_or (t := t) (b := ds) (e := e) with hbad | ⟨m0, hm0⟩
    · rw [hbad] at q; exact False.elim q
    · refine ⟨fun m σi Hi => ∃ Fi ei r, Rel X.K own H0 F0 Fi Hi σi ei ∧ whileN t ds m ei = some r ∧ OutS X.K X.mg W own oL rb H0 F0 D r, ⟨m0, F, e, _, rel, hm0, q⟩, ?_⟩
      rintro m σi Hi ⟨Fi, ei, r, reli, hw, hq⟩
      cases m with
      | zero => cases hw
      | succ m =>
        refine ⟨H0, F0, Fi, ei, reli, ?_⟩
        unfold whileN at hw
        cases ht : t ei with
        | bad =>
          rw [ht] at hw
          cases hw
          exact False.elim hq
        | exc c =>
          rw [ht] at hw
          cases hw
          exact OutS.thenO (r := (Rs.exc c : Rs Bool)) (f := fun _ => Os.bad) reli (show OutS X.K X.mg W own oL rb H0 F0 D (.exc c ei) from hq)
        | ok bb =>
          rw [ht] at hw
          intro F1 H1 g1
          have rel1 := reli.got g1
          cases bb with
          | false =>
            cases hw
            rw [if_neg (by decide)]
            exact hq σi F1 H1 rel1
          | true =>
            rw [if_pos rfl]
            refine ⟨fun σ' H' => ∃ F' e', Rel X.K own H0 F0 F' H' σ' e' ∧ whileN t ds m e' = some r, fun σ' H' ⟨F', e', r', w'⟩ => ⟨m, by omega, F', e', r, r', w', hq⟩, H0, F0, F1, ei, rel1, ?_⟩
            cases hd : ds ei with
            | nx e' =>
              rw [hd] at hw
              exact fun σ2 F2 H2 r2 => ⟨F2, e', r2, hw⟩
            | ct e' =>
              rw [hd] at hw
              exact fun σ2 F2 H2 r2 => ⟨F2, e', r2, hw⟩
            | bk e' =>
              rw [hd] at hw
              cases hw
              exact fun σ2 F2 H2 r2 => hq σ2 F2 H2 r2
            | rt p =>
              rw [hd] at hw
              cases hw
              exact hq
            | exc c e' =>
              rw [hd] at hw
              cases hw
              exact hq
            | bad =>
              rw [hd] at hw
              cases hw
              exact False.elim hq
end
end Lt
/-! ## LtSet -/
set_option maxHeartbeats 4000000
namespace Lt
open PySem PySem.Spec PyProof.Rows L2
/-! ### set(xs) of a list of ints -/
section
variable {P : Program} {w : World} {A : Around} {E : Value → Shared → Prop} {s : Shared}
end
section
variable {X : Cx}
variable {W : WX} {k : Nat} {own : List Nat} {pos p0 p1 p2 q0 : Pos} {x : Expr} {a : DE}
end
end Lt
/-! ## LtEnum -/
set_option maxHeartbeats 4000000
namespace Lt
open PySem PySem.Spec PyProof.Rows L2
/-! ### enumerate of what begins -/
theorem enum_new1 {v : Value} {o : Obj} {H : Heap → Prop} (B : PySem.Begins v o H) :
    Meets (Builtin.«enumerate.__new__» ⟨[.type "enumerate", v], []⟩) (fun _ R s => H s.heap ∧
      R (.ok (.ret (.ref (s.heap.push o).objs.size))) { s with heap := (s.heap.push o).push { cls := .type "enumerate", data := .fields #[.none, .bool false, .ref s.heap.objs.size, rawInt 0, .none, .none] } }) :=
  .of_wp fun prog w A R s hh => by
    obtain ⟨hp, g, d, tk, os⟩ := s
    obtain ⟨z1, z2⟩ := hh
    have sE := sub_enumerate
    have begun : ∀ {A' : Around} {E : Value → Shared → Prop} {Q : Value → Shared → Prop}, Q (.ref hp.objs.size) ⟨hp.push o, g, d, tk, os⟩ → wpAny (model prog w) A' (pyIter v) Q E ⟨hp, g, d, tk, os⟩ :=
      fun q => B.iter prog w _ _ ⟨hp, g, d, tk, os⟩ _ z1 q
    wp_walk using begun
    refine wpAny_stack_any fun st => wpAny_pure ?_
    split
    · rename_i cc _ _ _ _ _
      cases (cc == Value.type "enumerate") <;> (wp_walk using begun; exact ⟨_, rfl, z2⟩)
    · wp_walk using begun
      exact ⟨_, rfl, z2⟩
section
variable {prog : Program} {w : World} {A : Around} {E : Value → Shared → Prop} {s : Shared}
theorem call_enum1 {v : Value} {o : Obj} {H : Heap → Prop} {Q : Value → Shared → Prop} (B : PySem.Begins v o H) (h1 : H s.heap)
    (h : ∀ h', IsEnum h' (s.heap.objs.size + 1) s.heap.objs.size 0 .none → h'.get? s.heap.objs.size = some o → h'.objs.size = s.heap.objs.size + 2 → (∀ b u, s.heap.get? b = some u → h'.get? b = some u) → Q (.ref (s.heap.objs.size + 1)) { s with heap := h' }) :
    wpAny (model prog w) A (call (.type "enumerate") [v]) Q E s := by
  refine callType_new PySem.F.called_enumerate (by decide) (PySem.F.typeCall_enumerate_1 _) (PySem.F.newCall_enumerate_1 _) (fun obj => PySem.F.args_object_init_2 obj _) PySem.F.entry_enumerate_new (enum_new1 B) ⟨h1, ?_⟩
  have zz : (s.heap.push o).objs.size = s.heap.objs.size + 1 := Heap.size_push ..
  show _ ∧ _
  rw [zz]
  have new : IsEnum ((s.heap.push o).push { cls := .type "enumerate", data := .fields #[.none, .bool false, .ref s.heap.objs.size, rawInt 0, .none, .none] }) (s.heap.objs.size + 1) s.heap.objs.size 0 .none := by
    have q := Heap.get?_push_size (s.heap.push o) (o := { cls := .type "enumerate", data := .fields #[.none, .bool false, .ref s.heap.objs.size, rawInt 0, .none, .none] }) rfl
    rwa [zz] at q
  exact ⟨⟨_, new, rfl⟩, h _ new (Heap.get?_push_of_some _ (Heap.get?_push_size _ B.free)) (by rw [Heap.size_push, zz]) fun b u q => Heap.get?_push_of_some _ (Heap.get?_push_of_some _ q)⟩
end
/-- the tuple at a, n items, each in a new pair -/
def IteT (K : PySem.W.Frag) (a : Addr) (n : Nat) : It :=
  ⟨fun i H => i < n ∧ ∃ (xs : List V) (x : V), SqT K H a xs ∧ xs.length = n ∧ xs[i]? = some x, fun i H v H' => ∃ T x, v = .ref T ∧ H T = none ∧ H' = upd H T (.tup [.int (i : Nat), x]) ∧ ∀ xs, SqT K H a xs → xs[i]? = some x, fun i H => n ≤ i ∧ ∃ xs : List V, SqT K H a xs ∧ xs.length = n⟩
section
variable {P : Program} {w : World} {K : PySem.W.Frag} {a e it : Addr} {i n : Nat} {h h' : Heap}
/-- enumerate at e over the tuple's iterator at it, i of n turns done -/
abbrev EnumT (a e it : Addr) (n i : Nat) (h : Heap) : Prop := i ≤ n ∧ (∃ old, IsEnum h e it ((i : Nat) : Int) old) ∧ h.IsTupleIter it a i
theorem EnumT.both (z : EnumT a e it n i h) : ∀ b ∈ [e, it], ∃ o, h.get? b = some o ∧ ∀ v, o.data ≠ .cell v := by
  obtain ⟨_, ⟨_, en⟩, o, ho, _, rec⟩ := z
  simp only [List.mem_cons, List.not_mem_nil, or_false, forall_eq_or_imp, forall_eq]
  exact ⟨⟨_, en, fun _ => nofun⟩, o, ho, fun v q => by simp [rec] at q⟩
theorem EnumT.same (z : EnumT a e it n i h) (k : ∀ b ∈ [e, it], ∀ o, h.get? b = some o → h'.get? b = some o) : EnumT a e it n i h' :=
  let ⟨le, ⟨old, en⟩, ti⟩ := z
  ⟨le, ⟨old, k e List.mem_cons_self _ en⟩, ti.at (k it (List.mem_cons_of_mem _ List.mem_cons_self))⟩
/-- a turn: the pair at the heap's end -/
theorem EnumT.step {X : Cx} {s : Shared} {elts : List Expr} {kk : Nat} {tpos : Pos} {E : Value → Shared → Prop} {its : Array Value} {u : Value} {Q : Value → Shared → Prop} (z : EnumT a e it n i s.heap) (lt : i < n) (hh : X.A.handled = none) (apart : a ≠ it) (ae : a ≠ e) (ne : e ≠ it)
    (ht : s.heap.IsTuple a its) (hu : its[i]? = some u) (q : ∀ h' tk t', EnumT a e it n (i + 1) h' → h'.get? s.heap.objs.size = some { cls := .type "tuple", data := .seq #[.int i t', u] } → (∀ b ob, b ∉ [e, it] → s.heap.get? b = some ob → h'.get? b = some ob) → Q (.ref s.heap.objs.size) { s with heap := h', toks := tk }) :
    wpAny (model X.prog X.w) X.A (pyNext (.ref e)) (fun r s1 => ∃ v, r = some v ∧ wpAny (model X.prog X.w) X.A (letOwnedTupleGo (.Tuple elts kk tpos) (.ref e) v) (fun _ s2 => Q v s2) E s1) E s := by
  obtain ⟨_, ⟨old, en⟩, ti⟩ := z
  have D := PySem.Draws.tuple (prog := X.prog) (w := X.w) (A := X.A.in1) (by simp [hh]) it a apart its
  refine wpAny_pyNext_enum_itemD D en ⟨ti, ht⟩ (Array.getElem?_eq_some_iff.mp hu).1 ne (by simp [ne, ae.symm]) fun v h1 tk at_ en1 ti1 pair _ kept => ?_
  obtain rfl : u = v := Option.some.inj (hu.symm.trans at_)
  refine ⟨_, rfl, wpAny_letOwnedTupleGo_enum (s := { s with heap := h1, toks := tk + 1 }) en1 fun h2 en2 only => q h2 (tk + 1) tk ?_ ((only.2 _ (Nat.ne_of_gt (Heap.lt_size en))).trans pair) fun b ob off at0 => ?_⟩
  · exact ⟨lt, ⟨u, en2⟩, ti1.1.at fun _ => (only.2 it ne.symm).trans⟩
  · rw [List.mem_cons, List.mem_singleton, not_or] at off
    exact (only.2 b off.1).trans (kept b ob off.1 off.2 at0)
/-- the end -/
theorem EnumT.over {X : Cx} {s : Shared} {E : Value → Shared → Prop} {its : Array Value} {Q : Option Value → Shared → Prop} (z : EnumT a e it n i s.heap) (hh : X.A.handled = none) (apart : a ≠ it) (ht : s.heap.IsTuple a its) (size : its.size = n) (all : n ≤ i)
    (q : ∀ h', Heap.ExtBut it s.heap h' → Q none { s with heap := h' }) : wpAny (model X.prog X.w) X.A (pyNext (.ref e)) Q E s := by
  obtain ⟨le, ⟨old, en⟩, ti⟩ := z
  obtain rfl : i = its.size := by omega
  exact wpAny_pyNext_enum_endD (PySem.Draws.tuple (prog := X.prog) (w := X.w) (A := X.A.in1) (by simp [hh]) it a apart its) en ⟨ti, ht⟩ q
theorem turn_enumT {elts : List Expr} {kk : Nat} {tpos : Pos} (a e it : Addr) (n : Nat) (hai : a ≠ it) (hae : a ≠ e) (hne : e ≠ it) : Turn P w K (.Tuple elts kk tpos) (IteT K a n) [e, it] e (EnumT a e it n) where
  mem := List.mem_cons_self
  obj _ _ z := z.both
  keep _ _ _ z k := z.same k
  self _ _ _ _ _ z q := z.2.1.elim fun _ en => wpAny_pyIter_enum en q
  item X eP ew eK calm i pins s σ H E I off z go := by
    cases eP; cases ew; cases eK
    obtain ⟨lt, xs, x, hq, size, hx⟩ := go
    obtain ⟨its, vals, ht, _⟩ := I.tuple hq
    obtain ⟨u, hu, ru⟩ := vals.get hx
    have old : ∀ b ∈ [e, it], b ≠ s.heap.objs.size := fun b hb => Nat.ne_of_lt (let ⟨_, at_, _⟩ := z.both b hb; Heap.lt_size at_)
    refine z.step lt (I.ok.hd calm) hai hae hne (its := its.toArray) ht ((List.getElem?_toArray ..).trans hu) fun h' tk t' z' pair kept => ?_
    have fits : (2 : Nat) ≤ sizeLine := by decide
    refine ⟨.ref s.heap.objs.size, upd H s.heap.objs.size (.tup [.int (i : Nat), x]), I.turnedNew kept off (Nat.le_refl _) ⟨fits, [.int i t', u], .cons ⟨t', rfl⟩ (.cons ru .nil), _, pair, rfl, _, rfl⟩, rfl, ?_, z', fun b hb => by rw [upd_ne (old b hb)]; exact (off b hb).1⟩
    exact ⟨_, x, rfl, I.hok.fresh (Nat.le_refl _), rfl, fun ys hy => I.tuple_inj hy hq ▸ hx⟩
  done X eP ew eK calm i pins s σ H E I off z stop := by
    cases eP; cases ew; cases eK
    obtain ⟨all, xs, hq, size⟩ := stop
    obtain ⟨its, vals, ht, _⟩ := I.tuple hq
    obtain ⟨f0, f1, _, f3, f4, f5⟩ := off it (List.mem_cons_of_mem _ List.mem_cons_self)
    exact z.over (I.ok.hd calm) hai (its := its.toArray) ht (by rw [List.size_toArray, ← vals.length]; exact size) all fun h' but => ⟨rfl, I.turned (t' := s.toks) (fun b o => but b o) f0 f1 f3 f4 f5⟩
end
/-- enumerate(xs) of a list or a tuple -/
def iEnumA (K : PySem.W.Frag) (ta : TA) : TI := fun σ H R => ta σ H fun vs H1 => ∃ a xs, vs = [.ref a] ∧ ((SqL K H1 a xs ∧ (xs.length ≤ sizeLine → R (Ite K a) H1)) ∨ (SqT K H1 a xs ∧ (xs.length ≤ sizeLine → R (IteT K a xs.length) H1)))
theorem pi_enumA {X : Cx} {e : Expr} {ta : TA} {p pos tpos : Pos} {elts : List Expr} {kk : Nat} (hg : Gl X "enumerate") (hm : X.mg "enumerate" = none) (ha : PA X [e] ta) (hs : starEach [e] X.env = [(false, eval e X.env)] := by rfl) :
    PI X (.Tuple elts kk tpos) (.Call (.Name "enumerate" p) [e] [] pos) (iEnumA X.K ta) where
  run pins s σ H R I h := by
    refine Call_ (ld_blt I hg hm boot_enumerate (PyProof.Rows.callWith_type1 (thn (ha.run pos pins s σ H _ I h) ?_) hs rfl))
    rintro us s1 ⟨_, H1, J, vals, a, xs, rfl, q⟩
    obtain ⟨u, rfl, ru⟩ := vals1 vals
    obtain rfl : u = Value.ref a := ru
    have fresh : ∀ b ∈ [s1.heap.objs.size + 1, s1.heap.objs.size], FpOk X pins H1 b := by
      simp only [List.mem_cons, List.not_mem_nil, or_false, forall_eq_or_imp, forall_eq]
      exact ⟨J.fpOk (Nat.le_succ _) (J.hok.fresh (Nat.le_succ _)), J.fpOk (Nat.le_refl _) (J.hok.fresh (Nat.le_refl _))⟩
    have apart : s1.heap.objs.size + 1 ≠ s1.heap.objs.size := Nat.succ_ne_self _
    rcases q with ⟨hq, q⟩ | ⟨hq, q⟩
    · obtain ⟨its, _, hl, fits⟩ := J.list hq
      refine call_enumerate_list hl.isList fun h' en it _ kept => wpAny_pyIter_enum en ?_
      exact ⟨_, _, _, _, H1, rfl, J.kept (t' := s1.toks) kept, turn_enum a (s1.heap.objs.size + 1) s1.heap.objs.size, ⟨⟨_, en⟩, it, apart⟩, fresh, q fits⟩
    · obtain ⟨its, _, ht, fits⟩ := J.tuple hq
      have low : a < s1.heap.objs.size := let ⟨_, at_, _⟩ := id ht; Heap.lt_size at_
      refine call_enum1 (PySem.begins_tuple a its.toArray) ht fun h' en it _ kept => wpAny_pyIter_enum en ?_
      exact ⟨_, _, _, _, H1, rfl, J.kept (t' := s1.toks) kept, turn_enumT a (s1.heap.objs.size + 1) s1.heap.objs.size xs.length (Nat.ne_of_lt low) (Nat.ne_of_lt (Nat.lt_succ_of_lt low)) apart, ⟨Nat.zero_le _, ⟨_, en⟩, _, it, rfl, rfl⟩, fresh, q fits⟩
section
variable {K : PySem.W.Frag} {F : Hp} {a : Addr} {vs : List V} {ps : List PyData}
theorem got_pair {F1 H : Hp} {T : Addr} {i : Nat} {v : V} {x : PyData} (s : ∀ a o, F1 a = some o → H a = some o) (hT : H T = none) (r : Rep K F1 v x) : ∃ F2, Got K false F1 H F2 (upd H T (.tup [.int (i : Nat), v])) (.ref T) (.tuple [.int (i : Nat), x]) :=
  ⟨_, .newT s hT (.cons (.int _) (.cons r .nil))⟩
theorem wk_enumL (h : SqL K F a vs) (r : Reps K F vs ps) : Wk K F (Ite K a) (enumD ps) where
  go := fun i H s hi => by
    rw [enumD_len] at hi
    obtain ⟨v, h1, _⟩ := r.get (List.getElem?_eq_getElem hi)
    exact ⟨vs, v, (Le.of s).sqL h, h1⟩
  stop := fun i H s hi => ⟨vs, (Le.of s).sqL h, by rw [enumD_len] at hi; rw [r.length]; exact hi⟩
  yld := fun i H x H' F1 p y m s hp => by
    obtain ⟨T, v', rfl, hT, rfl, y⟩ := y
    obtain ⟨x, hx, rfl⟩ := enumD_at hp
    obtain ⟨v, h1, h2⟩ := r.get hx
    have e := y vs ((Le.of s).sqL ((Le.of m).sqL h))
    rw [h1] at e; cases e
    exact got_pair s hT (h2.mono (.of m))
theorem wk_enumT (h : SqT K F a vs) (r : Reps K F vs ps) : Wk K F (IteT K a vs.length) (enumD ps) where
  go i H s hi := by
    rw [enumD_len] at hi
    obtain ⟨v, at_, _⟩ := r.get (List.getElem?_eq_getElem hi)
    exact ⟨(List.getElem?_eq_some_iff.mp at_).1, vs, v, (Le.of s).sqT h, rfl, at_⟩
  stop i H s hi := ⟨by rw [enumD_len] at hi; rw [r.length]; exact hi, vs, (Le.of s).sqT h, rfl⟩
  yld i H x H' F1 p y m s hp := by
    obtain ⟨T, v', rfl, hT, rfl, y⟩ := y
    obtain ⟨x, hx, rfl⟩ := enumD_at hp
    obtain ⟨v, at_, rx⟩ := r.get hx
    cases at_.symm.trans (y vs ((Le.of s).sqT ((Le.of m).sqT h)))
    exact got_pair s hT (rx.mono (.of m))
end
section
variable {X : Cx} {W : WX} {k : Nat} {own : List Nat} {pos p0 tpos : Pos} {x : Expr} {a : DE} {elts : List Expr} {kk : Nat}
theorem i_enum (hm : X.mg "enumerate" = none) (ha : PE X x (TD X.K X.mg W own false a)) (hg : Gl X "enumerate" := by rfl) (hs : starEach [x] X.env = [(false, eval x X.env)] := by rfl) :
    PI X (.Tuple elts kk tpos) (.Call (.Name "enumerate" p0) [x] [] pos) (TDI X.K X.mg W own (lEnum a)) :=
  PI.imp (pi_enumA hg hm (pa_cons ha pa_nil hs) hs) fun σ H R ⟨H0, F0, F, e, rel, q⟩ => ⟨H0, F0, F, e, rel, q.bind.imp fun p hp v F1 H1 g1 => by
    cases hi : items? p with
    | none => rw [hi] at hp; exact False.elim hp
    | some ps =>
      rw [hi] at hp
      obtain ⟨a, vs, rfl, h1, h2⟩ := (g1.rep rfl).sq hi
      refine ⟨a, vs, rfl, ?_⟩
      rcases h1 with h1 | h1
      · exact .inl ⟨(Le.of g1.fh).sqL h1, fun hz => hp.ok _ F1 H1 g1.plain (wk_enumL h1 h2) (by rw [enumD_len, ← h2.length]; exact hz)⟩
      · exact .inr ⟨(Le.of g1.fh).sqT h1, fun hz => hp.ok _ F1 H1 g1.plain (wk_enumT h1 h2) (by rw [enumD_len, ← h2.length]; exact hz)⟩⟩
end
end Lt
/-! ## LtLc2 -/
set_option maxHeartbeats 4000000
namespace Lt
open PySem PySem.Spec PyProof.Rows L2
/-- a target changes these slots alone -/
def OnlyG (g : DG) (ts : List Nat) : Prop := ∀ p e e', g p e = some e' → ∀ j, j ∉ ts → e'[j]? = e[j]?
theorem og_set (i : Nat) : OnlyG (gSet i) [i] := fun p e e' h j hj => by
  cases h
  rw [List.getElem?_set_ne (fun z => hj (by simp [z]))]
theorem wipeL_get {e : Lv} : ∀ {vs : List Nat} {j : Nat}, j ∉ vs → (wipeL e vs)[j]? = e[j]?
  | [], _, _ => rfl
  | v :: vs, j, h => by
    show ((wipeL e vs).set v none)[j]? = _
    rw [List.getElem?_set_ne (fun z => h (by simp [z])), wipeL_get (fun z => h (List.mem_cons_of_mem _ z))]
section
variable {K : PySem.W.Frag} {own : List Nat} {H0 F0 F H F' H' : Hp} {σ : L2.St} {e : Lv} {b : Bool} {v : V} {p : PyData}
/-- an object that nobody owns is changed -/
theorem Rel.updD (r : Rel K own H0 F0 F H σ e) {D : Addr} {o : HO} (f : F D = none) (h0 : H0 D = none) (hn : ∀ j ∈ own, ∀ p, e[j]? = some (some p) → σ[j]? ≠ some (some (.ref D))) : Rel K own H0 F0 F (upd H D o) σ e where
  sub := fun a u h => by rw [upd_ne (ne_of_none h f)]; exact r.sub a u h
  base := fun a u h => by rw [upd_ne (ne_of_none h h0)]; exact r.base a u h
  fb := r.fb
  fm := r.fm
  len := r.len
  val := fun j q hq => by
    obtain ⟨u, h1, h2, h3⟩ := r.val j q hq
    refine ⟨u, h1, fun w => ?_, h3⟩
    obtain ⟨a, o', rfl, z1, z2, z3, z4⟩ := h2 w
    refine ⟨a, o', rfl, z1, z2, ?_, z4⟩
    rw [upd_ne (fun z => hn j w q hq (by rw [h1, z]))]
    exact z3
  sep := r.sep
/-- what a comprehension has gathered -/
structure Gath (K : PySem.W.Frag) (H1 F1 : Hp) (D : Addr) (H F : Hp) (acc : List V) (ds : List PyData) : Prop where
  at_ : H D = some (.lst acc)
  f : F D = none
  hh : ∀ x o, H1 x = some o → H x = some o
  ff : ∀ x o, F1 x = some o → F x = some o
  fh : ∀ x o, F x = some o → H x = some o
  st : ∀ x, H1 x ≠ none → F x = F1 x
  rep : Reps K F acc ds
variable {H1 F1 : Hp} {D : Addr} {acc : List V} {ds : List PyData}
theorem Gath.got (g : Gath K H1 F1 D H F acc ds) (q : Got K b F H F' H' v p) : Gath K H1 F1 D H' F' acc ds where
  at_ := q.hh _ _ g.at_
  f := by rw [q.st D (by rw [g.at_]; simp)]; exact g.f
  hh := fun x o h => q.hh x o (g.hh x o h)
  ff := fun x o h => q.ff x o (g.ff x o h)
  fh := q.fh
  st := fun x h => by
    obtain ⟨o, ho⟩ := Option.ne_none_iff_exists'.mp h
    rw [q.st x (by rw [g.hh x o ho]; simp)]
    exact g.st x h
  rep := g.rep.mono q.le
theorem Gath.push (g : Gath K H1 F1 D H F acc ds) (nD : H1 D = none) (r : Rep K F v p) : Gath K H1 F1 D (upd H D (.lst (acc ++ [v]))) F (acc ++ [v]) (ds ++ [p]) where
  at_ := upd_same
  f := g.f
  hh := fun x o h => by rw [upd_ne (ne_of_none h nD)]; exact g.hh x o h
  ff := g.ff
  fh := fun x o h => by rw [upd_ne (ne_of_none h g.f)]; exact g.fh x o h
  st := g.st
  rep := g.rep.app (.cons r .nil)
end
section
variable {W : WX}
theorem lc2_go {K : PySem.W.Frag} {mg : Str → Option Value} {own ts vs ts1 us1 : List Nat} {l l1 : DL} {g g1 : DG} {t t1 : DT} {a : DE} (hts : ∀ j ∈ ts, j ∈ vs) (ht1 : ∀ j ∈ ts1, j ∈ us1) (hu1 : ∀ j ∈ us1, j ∈ vs) (hov : ∀ j ∈ own, j ∉ vs) (og : OnlyG g ts)
    {σ : L2.St} {H : Hp} {Q : VK}
    (q : TD K mg W own true (dLc2 l vs g t l1 us1 g1 t1 a) σ H Q) : tLc2 (TDI K mg W own l) (TGD K own ts g) (TDT K mg noW own t) (TDI K mg noW own l1) (TGD K own ts1 g1) (TDT K mg noW own t1) (TD K mg noW own false a) vs us1 σ H Q := by
  obtain ⟨H0, F0, F, e, rel, q⟩ := q
  refine ⟨H0, F0, F, e, rel, q.bind.imp fun ps hp J F1 H1 gg1 wk hz D nD => ?_⟩
  have hp := hp.bind
  cases hgo : noX (lc2Go g t l1 us1 g1 t1 a (wipeL e vs) ps) with
  | bad => rw [hgo] at hp; exact False.elim hp
  | exc c => cases hh : lc2Go g t l1 us1 g1 t1 a (wipeL e vs) ps <;> rw [hh] at hgo <;> cases hgo
  | ok ys =>
  rw [hgo] at hp
  have hgo := noX_ok_of hgo
  have hp := hp.ok
  have hsz : ys.length ≤ sizeLine := Decidable.byContradiction fun z => by
    rw [if_neg z] at hp; exact hp
  rw [if_pos hsz] at hp
  have hp := hp.ok
  have fD : F1 D = none := by
    cases z : F1 D with
    | none => rfl
    | some u => rw [gg1.fh D u z] at nD; cases nD
  have nD0 : H0 D = none := by
    cases z : H0 D with
    | none => rfl
    | some u => rw [gg1.hh D u (rel.base D u z)] at nD; cases nD
  have rel1 := rel.got gg1
  have noD : ∀ j ∈ own, ∀ p, e[j]? = some (some p) → σ[j]? ≠ some (some (.ref D)) := fun j hj p hp z => by
    obtain ⟨v, h1, h2, _⟩ := rel1.val j p hp
    obtain ⟨b, o, rfl, _, _, h3, _⟩ := h2 hj
    rw [z] at h1
    cases h1
    rw [nD] at h3
    cases h3
  refine ⟨fun i m Hi => i ≤ ps.length ∧ m = ps.length - i ∧ ∃ F' acc ds zs, Gath K H1 F1 D Hi F' acc ds ∧ lc2Go g t l1 us1 g1 t1 a (wipeL e vs) (ps.drop i) = .ok zs ∧ ys = ds ++ zs,
    ⟨ps.length, Nat.zero_le _, rfl, F1, [], [], ys, ⟨upd_same, fD, fun x o h => by rw [upd_ne (ne_of_none h nD)]; exact h, fun _ _ h => h, fun x o h => by rw [upd_ne (ne_of_none (gg1.fh x o h) nD)]; exact gg1.fh x o h,
      fun _ _ => rfl, .nil⟩, hgo, rfl⟩, ?_⟩
  rintro i m Hi ⟨hi, rfl, F', acc, ds, zs, G, hgo, hys⟩
  have f1h : ∀ x o, F1 x = some o → Hi x = some o := fun x o h => G.fh x o (G.ff x o h)
  by_cases hlt : i < ps.length
  · refine .inr ⟨wk.go i Hi f1h hlt, fun H' => (i + 1) ≤ ps.length ∧ ∃ F' acc ds zs, Gath K H1 F1 D H' F' acc ds ∧ lc2Go g t l1 us1 g1 t1 a (wipeL e vs) (ps.drop (i + 1)) = .ok zs ∧ ys = ds ++ zs,
      fun H' ⟨h1, h2⟩ => ⟨ps.length - (i + 1), by omega, h1, rfl, h2⟩, fun x H' yl => ?_⟩
    obtain ⟨F2, g2⟩ := wk.yld i Hi x H' F' _ yl G.ff G.fh (List.getElem?_eq_getElem hlt)
    rw [List.drop_eq_getElem_cons hlt] at hgo
    have hgo : ((Rs.ofO (g ps[i] (wipeL e vs))).bind fun e1 => (t e1).bind fun c => if c = true then (l1 e1).bind fun ys => (lcGo g1 t1 a (wipeL e1 us1) ys).bind fun zs => (lc2Go g t l1 us1 g1 t1 a (wipeL e vs) (ps.drop (i + 1))).bind fun r => .ok (zs ++ r) else lc2Go g t l1 us1 g1 t1 a (wipeL e vs) (ps.drop (i + 1))) = .ok zs := hgo
    cases eg : g ps[i] (wipeL e vs) with
    | none => rw [eg] at hgo; cases hgo
    | some e1 =>
    rw [eg] at hgo
    cases et : t e1 with
    | bad => rw [Rs.ofO_some, Rs.bind_ok, et] at hgo; cases hgo
    | exc c => rw [Rs.ofO_some, Rs.bind_ok, et] at hgo; cases hgo
    | ok c =>
    rw [Rs.ofO_some, Rs.bind_ok, et, Rs.bind_ok] at hgo
    have G2 := G.got g2
    have rel2 : Rel K own H0 F0 F2 H' (L2.wipe σ vs) (wipeL e vs) := (rel1.wipe vs).grow G2.hh G2.ff G2.fh G2.st
    refine ⟨H0, F0, F2, wipeL e vs, _, rel2, g2.rep rfl, e1, eg, fun σ2 rel3 kp ln => ⟨(wipe_eq (fun j hj => kp j fun z => hj (hts j z)) ln).trans wipe_wipe, ?_⟩⟩
    have wget : ∀ (us : List Nat) (j : Nat), j ∉ us → (L2.wipe σ us)[j]? = σ[j]? := by
      intro us
      induction us with
      | nil => intro j _; rfl
      | cons i us ih =>
        intro j h
        show ((L2.wipe σ us).set i none)[j]? = _
        rw [List.getElem?_set_ne (fun z => h (by simp [z])), ih j (fun z => h (List.mem_cons_of_mem _ z))]
    have noD2 : ∀ j ∈ own, ∀ p, e1[j]? = some (some p) → σ2[j]? ≠ some (some (.ref D)) := fun j hj p hp => by
      have hv := hov j hj
      rw [kp j (fun z => hv (hts j z)), wget vs j hv]
      rw [og _ _ _ eg j (fun z => hv (hts j z)), wipeL_get hv] at hp
      exact noD j hj p hp
    refine ⟨H0, F0, F2, e1, rel3, ?_⟩
    rw [et]
    intro F3 H3 g3
    have G3 := G2.got g3
    have rel4 := rel3.got g3
    cases c with
    | false =>
      rw [if_neg (by decide)] at hgo ⊢
      exact ⟨hlt, F3, acc, ds, zs, G3, hgo, hys⟩
    | true =>
      rw [if_pos rfl] at hgo ⊢
      cases el1 : l1 e1 with
      | bad => rw [el1] at hgo; cases hgo
      | exc c => rw [el1] at hgo; cases hgo
      | ok qs =>
      rw [el1, Rs.bind_ok] at hgo
      cases eli : lcGo g1 t1 a (wipeL e1 us1) qs with
      | bad => rw [eli] at hgo; cases hgo
      | exc c => rw [eli] at hgo; cases hgo
      | ok zi =>
      rw [eli, Rs.bind_ok] at hgo
      cases elr : lc2Go g t l1 us1 g1 t1 a (wipeL e vs) (ps.drop (i + 1)) with
      | bad => rw [elr] at hgo; cases hgo
      | exc c => rw [elr] at hgo; cases hgo
      | ok zr =>
      rw [elr, Rs.bind_ok] at hgo
      cases hgo
      refine ⟨H0, F0, F3, e1, rel4, ?_⟩
      rw [el1]
      intro J1 F4 H4 g4 wk1 hz1
      have G4 := G3.got g4
      have rel5 := rel4.got g4
      -- the inner loop
      refine ⟨fun j k Hj => j ≤ qs.length ∧ k = qs.length - j ∧ ∃ Fj accj dj zj, Gath K H1 F1 D Hj Fj accj dj ∧ (∀ x o, x ≠ D → H4 x = some o → Hj x = some o) ∧ (∀ x o, F4 x = some o → Fj x = some o) ∧ (∀ x, H4 x ≠ none → Fj x = F4 x) ∧
        lcGo g1 t1 a (wipeL e1 us1) (qs.drop j) = .ok zj ∧ ys = dj ++ (zj ++ zr),
        ⟨qs.length, Nat.zero_le _, rfl, F4, acc, ds, zi, G4, fun _ _ _ h => h, fun _ _ h => h, fun _ _ => rfl, eli, hys⟩, ?_⟩
      rintro j k Hj ⟨hj, rfl, Fj, accj, dj, zj, Gj, hhj, ffj, stj, hgj, hyj⟩
      have f4h : ∀ x o, F4 x = some o → Hj x = some o := fun x o h => Gj.fh x o (ffj x o h)
      by_cases hlj : j < qs.length
      · refine .inr ⟨wk1.go j Hj f4h hlj, fun H' => (j + 1) ≤ qs.length ∧ ∃ Fj accj dj zj, Gath K H1 F1 D H' Fj accj dj ∧ (∀ x o, x ≠ D → H4 x = some o → H' x = some o) ∧ (∀ x o, F4 x = some o → Fj x = some o) ∧ (∀ x, H4 x ≠ none → Fj x = F4 x) ∧
            lcGo g1 t1 a (wipeL e1 us1) (qs.drop (j + 1)) = .ok zj ∧ ys = dj ++ (zj ++ zr),
          fun H' ⟨h1, h2⟩ => ⟨qs.length - (j + 1), by omega, h1, rfl, h2⟩, fun x1 H5 yl1 => ?_⟩
        obtain ⟨F5, g5⟩ := wk1.yld j Hj x1 H5 Fj _ yl1 ffj Gj.fh (List.getElem?_eq_getElem hlj)
        rw [List.drop_eq_getElem_cons hlj] at hgj
        have hgj : ((Rs.ofO (g1 qs[j] (wipeL e1 us1))).bind fun e2 => (t1 e2).bind fun c => if c = true then (a e2).bind fun y => (lcGo g1 t1 a (wipeL e1 us1) (qs.drop (j + 1))).bind fun ys => .ok (y :: ys) else lcGo g1 t1 a (wipeL e1 us1) (qs.drop (j + 1))) = .ok zj := hgj
        cases eg1 : g1 qs[j] (wipeL e1 us1) with
        | none => rw [eg1] at hgj; cases hgj
        | some e2 =>
        rw [eg1] at hgj
        cases et1 : t1 e2 with
        | bad => rw [Rs.ofO_some, Rs.bind_ok, et1] at hgj; cases hgj
        | exc c => rw [Rs.ofO_some, Rs.bind_ok, et1] at hgj; cases hgj
        | ok c1 =>
        rw [Rs.ofO_some, Rs.bind_ok, et1, Rs.bind_ok] at hgj
        have G5 := Gj.got g5
        have hh5 : ∀ x o, x ≠ D → H4 x = some o → H5 x = some o := fun x o hx h => g5.hh x o (hhj x o hx h)
        have ff5 : ∀ x o, F4 x = some o → F5 x = some o := fun x o h => g5.ff x o (ffj x o h)
        have step : ∀ {Fa Ha Fb Hb : Hp} {vv : V} {pp : PyData} {bb : Bool}, (∀ x o, x ≠ D → H4 x = some o → Ha x = some o) → Ha D ≠ none → (∀ x, H4 x ≠ none → Fa x = F4 x) → Got K bb Fa Ha Fb Hb vv pp → ∀ x, H4 x ≠ none → Fb x = F4 x := fun {Fa Ha Fb Hb vv pp bb} ha hD sa q x h => by
          by_cases hx : x = D
          · subst hx; rw [q.st x hD, sa x h]
          · obtain ⟨o, ho⟩ := Option.ne_none_iff_exists'.mp h
            rw [q.st x (by rw [ha x o hx ho]; simp), sa x h]
        have st5 := step hhj (by rw [Gj.at_]; simp) stj g5
        have relI : Rel K own H0 F0 F5 H5 (L2.wipe σ2 us1) (wipeL e1 us1) := by
          have u := rel5.updD (o := .lst accj) G4.f nD0 noD2
          refine (u.grow (fun x o h => ?_) ff5 G5.fh (fun x h => ?_)).wipe us1
          · by_cases hx : x = D
            · subst hx; rw [upd_same] at h; rw [← h]; exact G5.at_
            · rw [upd_ne hx] at h; exact hh5 x o hx h
          · by_cases hx : x = D
            · subst hx; rw [G5.f, G4.f]
            · rw [upd_ne hx] at h; exact st5 x h
        refine ⟨H0, F0, F5, wipeL e1 us1, _, relI, g5.rep rfl, e2, eg1, fun σ3 rel6 kp3 ln3 => ⟨(wipe_eq (fun j hj => kp3 j fun z => hj (ht1 j z)) ln3).trans wipe_wipe, ?_⟩⟩
        refine ⟨H0, F0, F5, e2, rel6, ?_⟩
        rw [et1]
        intro F6 H6 g6
        have G6 := G5.got g6
        have rel7 := rel6.got g6
        have hh6 : ∀ x o, x ≠ D → H4 x = some o → H6 x = some o := fun x o hx h => g6.hh x o (hh5 x o hx h)
        have ff6 : ∀ x o, F4 x = some o → F6 x = some o := fun x o h => g6.ff x o (ff5 x o h)
        have st6 := step hh5 (by rw [G5.at_]; simp) st5 g6
        cases c1 with
        | false =>
          rw [if_neg (by decide)] at hgj ⊢
          exact ⟨hlj, F6, accj, dj, zj, G6, hh6, ff6, st6, hgj, hyj⟩
        | true =>
          rw [if_pos rfl] at hgj ⊢
          cases ea : a e2 with
          | bad => rw [ea] at hgj; cases hgj
          | exc c => rw [ea] at hgj; cases hgj
          | ok y =>
          rw [ea, Rs.bind_ok] at hgj
          cases elj : lcGo g1 t1 a (wipeL e1 us1) (qs.drop (j + 1)) with
          | bad => rw [elj] at hgj; cases hgj
          | exc c => rw [elj] at hgj; cases hgj
          | ok zj2 =>
          rw [elj, Rs.bind_ok] at hgj
          cases hgj
          refine ⟨H0, F0, F6, e2, rel7, ?_⟩
          rw [ea]
          intro v F7 H7 g7
          have G7 := G6.got g7
          have hh7 : ∀ x o, x ≠ D → H4 x = some o → H7 x = some o := fun x o hx h => g7.hh x o (hh6 x o hx h)
          have ff7 : ∀ x o, F4 x = some o → F7 x = some o := fun x o h => g7.ff x o (ff6 x o h)
          have st7 := step hh6 (by rw [G6.at_]; simp) st6 g7
          have hlen : accj.length < sizeLine := by
            have := G7.rep.length
            rw [hyj] at hsz
            simp at hsz
            omega
          refine ⟨accj, G7.at_, hlen, hlj, F7, accj ++ [v], dj ++ [y], zj2, G7.push nD (g7.rep rfl), fun x o hx h => by rw [upd_ne hx]; exact hh7 x o hx h, ff7, st7, (by first | exact elj | rfl), by rw [hyj]; simp⟩
      · have e0 : j = qs.length := by omega
        subst e0
        rw [List.drop_length] at hgj
        cases hgj
        exact .inl ⟨wk1.stop _ Hj f4h (Nat.le_refl _), hlt, Fj, accj, dj, zr, Gj, (by first | exact elr | rfl), by rw [hyj]; rfl⟩
  · have e0 : i = ps.length := by omega
    subst e0
    rw [List.drop_length] at hgo
    cases hgo
    rw [List.append_nil] at hys
    subst hys
    refine .inl ⟨wk.stop _ Hi f1h (Nat.le_refl _), ?_⟩
    refine hp (.ref D) F' Hi ⟨fun x o h => G.hh x o (gg1.hh x o h), fun x o h => G.ff x o (gg1.ff x o h), G.fh, fun x h => ?_, fun _ => ⟨D, _, rfl, gg1.free nD, G.f, G.at_, G.rep⟩, fun h => Bool.noConfusion h⟩
    obtain ⟨o, ho⟩ := Option.ne_none_iff_exists'.mp h
    rw [G.st x (by rw [gg1.hh x o ho]; simp), gg1.st x h]
end
section
variable {X : Cx} {W : WX} {k : Nat} {own : List Nat} {pos p0 : Pos} {x y y1 : Expr} {a : DE}
theorem e_lc2 {tg tg1 : Expr} {ifs ifs1 : List Expr} {scope : Scope} (vs : List (Str × Nat)) (us1 : List Nat) {ts us ts1 : List Nat} {l l1 : DL} {g g1 : DG} {t t1 : DT} (C : Cxt X W k) (hi : PI X tg y (TDI X.K X.mg W own l)) (ok : BlkOk X.N X.env.scope scope vs) (og : OnlyG g ts)
    (hg : ∀ (s : Shared) (H : Hp) (B : Addr) (cl : List (Str × Addr)) (fp : List Addr), PG (X.blk s H scope (compEnvC scope cl B X.env) fp) tg (TGD X.K own ts g))
    (ht : ∀ (s : Shared) (H : Hp) (B : Addr) (cl : List (Str × Addr)) (fp : List Addr), PTs (X.blk s H scope (compEnvC scope cl B X.env) fp) ifs (TDT X.K X.mg noW own t))
    (hi1 : ∀ (s : Shared) (H : Hp) (B : Addr) (cl : List (Str × Addr)) (fp : List Addr), PI (X.blk s H scope (compEnvC scope cl B X.env) fp) tg1 y1 (TDI X.K X.mg noW own l1))
    (hg1 : ∀ (s : Shared) (H : Hp) (B : Addr) (cl : List (Str × Addr)) (fp : List Addr), PG (X.blk s H scope (compEnvC scope cl B X.env) fp) tg1 (TGD X.K own ts1 g1))
    (ht1 : ∀ (s : Shared) (H : Hp) (B : Addr) (cl : List (Str × Addr)) (fp : List Addr), PTs (X.blk s H scope (compEnvC scope cl B X.env) fp) ifs1 (TDT X.K X.mg noW own t1))
    (he : ∀ (s : Shared) (H : Hp) (B : Addr) (cl : List (Str × Addr)) (fp : List Addr), PE (X.blk s H scope (compEnvC scope cl B X.env) fp) x (TD X.K X.mg noW own false a))
    (hus : vs.map (·.2) = us := by rfl) (hts : ∀ j ∈ ts, j ∈ us := by decide) (hts1 : ∀ j ∈ ts1, j ∈ us1 := by decide) (hu1 : ∀ j ∈ us1, j ∈ us := by decide) (hov : ∀ j ∈ own, j ∉ us := by decide)
    (hs : ∀ x, foldedSetIterable y X.env x = pure x := by intro _; rfl) (hs1 : ∀ env x, foldedSetIterable y1 env x = pure x := by intro _ _; rfl) :
    PE X (.ListComp x [⟨tg, y, ifs, 0⟩, ⟨tg1, y1, ifs1, 0⟩] scope pos) (TD X.K X.mg W own true (dLc2 l us g t l1 us1 g1 t1 a)) := by
  subst hus
  exact PE.imp (pe_lc2 C.calm C.nd hi ok hu1 hg ht hi1 hg1 ht1 he hs hs1) fun σ H Q q => lc2_go hts hts1 hu1 hov og q
end
end Lt
/-! ## LtList -/
set_option maxHeartbeats 4000000
namespace Lt
open PySem PySem.Spec PyProof.Rows L2
/-! ### an owned object is changed -/
section
variable {K : PySem.W.Frag} {own : List Nat} {H0 F0 F H F' H' : Hp} {σ : L2.St} {e : Lv}
/-- what an owned slot holds -/
theorem Rel.owned (rel : Rel K own H0 F0 F H σ e) {i : Nat} (hi : i ∈ own) {p : PyData} (hp : e[i]? = some (some p)) : ∃ l o, σ[i]? = some (some (.ref l)) ∧ F l = none ∧ H0 l = none ∧ H l = some o ∧ ObjRep K F o p := by
  obtain ⟨v, h1, h2, _⟩ := rel.val i p hp
  obtain ⟨l, o, rfl, w2, w3, w4, w5⟩ := h2 hi
  exact ⟨l, o, h1, w2, w3, w4, w5⟩
theorem ObjRep.lst {o : HO} {ps : List PyData} (r : ObjRep K F o (.list ps)) : ∃ vs, o = .lst vs ∧ Reps K F vs ps := by
  cases o <;> first | exact False.elim r | skip
  exact ⟨_, rfl, r⟩
end
theorem dVar_ok {i : Nat} {e : Lv} {α : Type} {f : PyData → Rs α} {mg : Str → Option Value} {W : WX} {σ : L2.St} {H : Hp} {k : α → Prop} (q : Out mg W σ H ((dVar i e).bind f) k) : ∃ p, e[i]? = some (some p) ∧ Out mg W σ H (f p) k := by
  unfold dVar at q
  cases hp : e[i]? with
  | none => rw [hp] at q; exact False.elim q
  | some o =>
    cases o with
    | none => rw [hp] at q; exact False.elim q
    | some p => rw [hp] at q; exact ⟨p, rfl, q⟩
section
variable {X : Cx} {W : WX} {k : Nat} {own own' o1 o2 oL : List Nat} {b rb : Bool} {pos p0 p1 p2 : Pos} {x y z : Expr} {es : List Expr} {a c d : DE} {ra : DA} {n : Str} {st : Stmt} {sts rest body : List Stmt} {ds dt : DS}
/-- x + e, x an owned list: a fresh one -/
theorem e_catOwn (i : Nat) (hc : PE X y (TD X.K X.mg W own false c)) (hi : i ∈ own := by decide) (hN : X.N[i]? = some n := by rfl) (hv : Vis X.env.scope n := by first | exact Or.inl rfl | exact Or.inr (Or.inl rfl) | exact Or.inr (Or.inr rfl))
    (hd : (n == ("__debug__" : Str)) = false := by decide) (hcd : (n == ("__classdict__" : Str)) = false := by decide) : PE X (.BinOp (.Name n p0) .Add y pos) (TD X.K X.mg W own true (d2 pCatL (dVar i) c)) :=
  PE.imp (pe_op op_catL (pe_var hN hv hd hcd) hc) fun σ H Q ⟨H0, F0, F, e, rel, q⟩ => by
    obtain ⟨p, hp, q⟩ := dVar_ok q
    obtain ⟨l, o, h1, w2, w3, w4, w5⟩ := rel.owned hi hp
    refine ⟨.ref l, h1, H0, F0, F, e, rel, q.bind.imp fun y1 hy u F1 H1 g1 => ?_⟩
    obtain ⟨r, hr, hq⟩ := hy.ofO
    cases p <;> cases y1 <;> first | (cases hr; done) | skip
    rename_i ps qs
    obtain ⟨vs, rfl, w5⟩ := w5.lst
    obtain ⟨b, us, rfl, h2, r2⟩ := (g1.rep rfl).lstD
    have hr : (if ps.length + qs.length ≤ sizeLine then some (PyData.list (ps ++ qs)) else none) = some r := hr
    by_cases hl : ps.length + qs.length ≤ sizeLine
    · rw [if_pos hl] at hr
      cases hr
      refine ⟨l, b, vs, us, rfl, rfl, .inl (.inl (g1.hh _ _ w4)), (Le.of g1.fh).sqL h2, by rw [w5.length, r2.length]; exact hl, fun l' hn => hq _ _ _ (g1.trans (.fresh g1.fh hn ((w5.mono g1.le).app r2)))⟩
    · rw [if_neg hl] at hr; cases hr
end
end Lt
/-! ## LtEval -/
set_option maxHeartbeats 4000000
/-! Lt, for the laws' own part: how the combinators reckon. -/
namespace Lt
open PySem
section
variable (e : Lv) (a b c : DE) (p q : PyData) (i j : Int) (ra : DA) (t u : DT) (g : DG) (s r : DS)
@[simp] theorem dVar_ev (i : Nat) : dVar i e = match e[i]? with | some (some p) => .ok p | _ => .bad := (rfl)
@[simp] theorem dC_ev : dC p e = .ok p := (rfl)
@[simp] theorem d1_ev (f : PyData → Option PyData) : d1 f a e = (a e).bind fun x => .ofO (f x) := (rfl)
@[simp] theorem d2_ev (f : PyData → PyData → Option PyData) : d2 f a b e = (a e).bind fun x => (b e).bind fun y => .ofO (f x y) := (rfl)
@[simp] theorem dNil_ev : dNil e = .ok [] := (rfl)
@[simp] theorem dCons_ev : dCons a ra e = (a e).bind fun x => (ra e).bind fun xs => .ok (x :: xs) := (rfl)
@[simp] theorem dTup_ev : dTup ra e = (ra e).bind fun xs => if xs.length ≤ 16777216 then .ok (.tuple xs) else .bad := (rfl)
@[simp] theorem dLst_ev : dLst ra e = (ra e).bind fun xs => if xs.length ≤ 16777216 then .ok (.list xs) else .bad := (rfl)
@[simp] theorem asBool_ev (b : Bool) : asBool (.bool b) = .ok b := (rfl)
@[simp] theorem tOf_ev : tOf a e = (a e).bind asBool := (rfl)
@[simp] theorem tAnd_ev : tAnd t u e = (t e).bind fun c => if c = true then u e else .ok false := (rfl)
@[simp] theorem tOr_ev : tOr t u e = (t e).bind fun c => if c = true then .ok true else u e := (rfl)
@[simp] theorem tNot_ev : tNot t e = (t e).bind fun c => .ok (!c) := (rfl)
@[simp] theorem dAnd_ev : dAnd a b e = (a e).bind fun x => (asBool x).bind fun c => if c = true then b e else .ok (.bool false) := (rfl)
@[simp] theorem dOr_ev : dOr a b e = (a e).bind fun x => (asBool x).bind fun c => if c = true then .ok (.bool true) else b e := (rfl)
@[simp] theorem dIf_ev : dIf t a b e = (t e).bind fun c => if c = true then a e else b e := (rfl)
@[simp] theorem dChain_ev (f g : PyData → PyData → Option PyData) : dChain f g a b c e = (a e).bind fun x => (b e).bind fun y => (Rs.ofO (f x y)).bind fun z => (asBool z).bind fun k => if k = true then (c e).bind fun w => .ofO (g y w) else .ok (.bool false) := (rfl)
@[simp] theorem oNone_ev : oNone e = .ok none := (rfl)
@[simp] theorem oSome_ev : oSome a e = (a e).bind fun x => match x with | .int i => .ok (some i) | _ => .bad := (rfl)
@[simp] theorem dSlice_ev (o1 o2 : Lv → Rs (Option Int)) : dSlice a o1 o2 e = (a e).bind fun x => (o1 e).bind fun l => (o2 e).bind fun h => .ofO (pSlice x l h) := (rfl)
@[simp] theorem dCall_ev (n : Nat) (f : List PyData → Rs PyData) : dCall n f ra e = (ra e).bind fun ps => if ps.length = n then f ps else .bad := (rfl)
@[simp] theorem dB_ev (f : List PyData → Option PyData) : dB f ra e = (ra e).bind fun ps => .ofO (f ps) := (rfl)
@[simp] theorem u1_ev (f : PyData → Option PyData) : u1 f [p] = f p := (rfl)
@[simp] theorem u2_ev (f : PyData → PyData → Option PyData) : u2 f [p, q] = f p q := (rfl)
@[simp] theorem dPure_ev (b : Bool) : dPure b a e = (a e).bind fun x => if pureRes b x = true then .ok x else .bad := (rfl)
@[simp] theorem lSeq_ev : lSeq a e = (a e).bind fun x => match items? x with | some xs => .ok xs | none => .bad := (rfl)
@[simp] theorem items_list (xs : List PyData) : items? (.list xs) = some xs := (rfl)
@[simp] theorem items_tuple (xs : List PyData) : items? (.tuple xs) = some xs := (rfl)
@[simp] theorem lRange1_ev : lRange1 a e = (a e).bind fun x => match x with | .int j => if rangeOk 0 j = true then .ok (range2 0 j) else .bad | _ => .bad := (rfl)
@[simp] theorem lRange2_ev : lRange2 a b e = (a e).bind fun x => (b e).bind fun y => match x, y with | .int i, .int j => if rangeOk i j = true then .ok (range2 i j) else .bad | _, _ => .bad := (rfl)
@[simp] theorem gSet_ev (i : Nat) : gSet i p e = some (e.set i (some p)) := (rfl)
@[simp] theorem dLc_ev (l : DL) (own : List Nat) : dLc l own g t a e = (l e).bind fun xs => (noX (lcGo g t a (wipeL e own) xs)).bind fun ys => .ok (.list ys) := (rfl)
@[simp] theorem tYes_ev : tYes e = .ok true := (rfl)
@[simp] theorem sNext_ev : sNext e = .nx e := (rfl)
@[simp] theorem sSeq_ev : sSeq s r e = (s e).bind r := (rfl)
@[simp] theorem sSet_ev (i : Nat) : sSet i a e = (a e).thenO e fun p => .nx (e.set i (some p)) := (rfl)
@[simp] theorem sAsg_ev : sAsg g a e = (a e).thenO e fun p => (Rs.ofO (g p e)).thenO e .nx := (rfl)
@[simp] theorem sExpr_ev : sExpr a e = (a e).thenO e fun _ => .nx e := (rfl)
@[simp] theorem sRet_ev : sRet a e = (a e).thenO e .rt := (rfl)
@[simp] theorem sRetN_ev : sRetN e = .rt .none := (rfl)
@[simp] theorem sIf_ev : sIf t s r e = (t e).thenO e fun c => if c = true then s e else r e := (rfl)
@[simp] theorem sRaise_ev (c : Str) : sRaise c e = .exc c e := (rfl)
@[simp] theorem sAug_ev (i : Nat) (f : PyData → PyData → Option PyData) : sAug i f a e = (dVar i e).thenO e fun x => (a e).thenO e fun y => (Rs.ofO (f x y)).thenO e fun z => .nx (e.set i (some z)) := (rfl)
@[simp] theorem asList_ev (xs : List PyData) : asList (.list xs) = some xs := (rfl)
@[simp] theorem sAppend_ev (i : Nat) : sAppend i a e = (dVar i e).thenO e fun x => (Rs.ofO (asList x)).thenO e fun xs => (a e).thenO e fun y => if xs.length < 16777216 then .nx (e.set i (some (.list (xs ++ [y])))) else .bad := (rfl)
@[simp] theorem sFor_ev (l : DL) : sFor l g s e = (l e).thenO e fun xs => forGo g s xs e := (rfl)
@[simp] theorem sPar_ev (i j : Nat) : sPar i j a b e = (a e).thenO e fun p => (b e).thenO e fun q => .nx ((e.set i (some p)).set j (some q)) := (rfl)
@[simp] theorem sBreak_ev : sBreak e = .bk e := (rfl)
@[simp] theorem sCont_ev : sCont e = .ct e := (rfl)
@[simp] theorem runO_nx : runO false (.nx e) = .ok .none := (rfl)
@[simp] theorem runO_rt (b : Bool) : runO b (.rt p) = .ok p := (rfl)
@[simp] theorem runO_exc (b : Bool) (c : Str) : runO b (.exc c e) = .exc c := (rfl)
theorem runD_ev (m : Nat) (b : Bool) (ps : List PyData) : runD m b s ps = runO b (s (ps.map some ++ List.replicate (m - ps.length) none)) := (rfl)
@[simp] theorem pAdd_int : pAdd (.int i) (.int j) = some (.int (i + j)) := (rfl)
@[simp] theorem pAddI_int : pAddI (.int i) (.int j) = some (.int (i + j)) := (rfl)
@[simp] theorem pSub_int : pSub (.int i) (.int j) = some (.int (i - j)) := (rfl)
@[simp] theorem pNeg_int : pNeg (.int i) = some (.int (-i)) := (rfl)
theorem mulOk_l (h1 : -18446744073709551616 < i) (h2 : i < 18446744073709551616) : mulOk i j = true := by simp [mulOk, h1, h2]
theorem mulOk_r (h1 : -18446744073709551616 < j) (h2 : j < 18446744073709551616) : mulOk i j = true := by simp [mulOk, h1, h2]
theorem pMul_int (h : mulOk i j = true) : pMul (.int i) (.int j) = some (.int (i * j)) := by
  show (if mulOk i j = true then some (PyData.int (i * j)) else none) = _
  rw [if_pos h]
theorem pMul_l (h1 : -18446744073709551616 < i) (h2 : i < 18446744073709551616) : pMul (.int i) (.int j) = some (.int (i * j)) := pMul_int i j (mulOk_l i j h1 h2)
theorem pMul_r (h1 : -18446744073709551616 < j) (h2 : j < 18446744073709551616) : pMul (.int i) (.int j) = some (.int (i * j)) := pMul_int i j (mulOk_r i j h1 h2)
theorem pFdiv_ok (h1 : 0 < j) (h2 : j < 18446744073709551616) : pFdiv (.int i) (.int j) = some (.int (i / j)) := by
  show (if fdivOk j = true then some (PyData.int (i / j)) else none) = _
  rw [if_pos (by simp [fdivOk, h1, h2])]
theorem pMod_ok (h1 : 0 < j) : pMod (.int i) (.int j) = some (.int (i % j)) := by
  show (if 0 < j then some (PyData.int (i % j)) else none) = _
  rw [if_pos h1]
theorem pPow_ok (h1 : 0 ≤ j) (h2 : j ≤ 1000000) (h3 : i.natAbs < 2 ^ 64) : pPow (.int i) (.int j) = some (.int (i ^ j.toNat)) := by
  show (if 0 ≤ j ∧ j ≤ 1000000 ∧ i.natAbs < 2 ^ 64 then some (PyData.int (i ^ j.toNat)) else none) = _
  rw [if_pos ⟨h1, h2, h3⟩]
@[simp] theorem pLt_int : pLt (.int i) (.int j) = some (.bool (decide (i < j))) := (rfl)
@[simp] theorem pLe_int : pLe (.int i) (.int j) = some (.bool (decide (i ≤ j))) := (rfl)
@[simp] theorem pGt_int : pGt (.int i) (.int j) = some (.bool (decide (j < i))) := (rfl)
@[simp] theorem pGe_int : pGe (.int i) (.int j) = some (.bool (decide (j ≤ i))) := (rfl)
@[simp] theorem pEq_int : pEq (.int i) (.int j) = some (.bool (decide (i = j))) := by
  show some (PyData.bool (i == j)) = _
  rw [Bool.beq_eq_decide_eq]
@[simp] theorem pNe_int : pNe (.int i) (.int j) = some (.bool (!decide (i = j))) := by
  show some (PyData.bool (!(i == j))) = _
  rw [Bool.beq_eq_decide_eq]
@[simp] theorem pEq_str (x y : Str) : pEq (.str x) (.str y) = some (.bool (x == y)) := (rfl)
@[simp] theorem pNe_str (x y : Str) : pNe (.str x) (.str y) = some (.bool (!(x == y))) := (rfl)
@[simp] theorem pIsN_ev : pIsN p = some (.bool (isNone p)) := (rfl)
@[simp] theorem pNotN_ev : pNotN p = some (.bool (!isNone p)) := (rfl)
@[simp] theorem pNot_ev (b : Bool) : pNot (.bool b) = some (.bool (!b)) := (rfl)
@[simp] theorem pIsi_ev (t : Ty) : pIsi t p = some (.bool (isTy p t)) := (rfl)
@[simp] theorem pLen_list (xs : List PyData) : pLen (.list xs) = some (.int xs.length) := (rfl)
@[simp] theorem pLen_tuple (xs : List PyData) : pLen (.tuple xs) = some (.int xs.length) := (rfl)
@[simp] theorem pAbs_int : pAbs (.int i) = some (.int (if i < 0 then -i else i)) := (rfl)
@[simp] theorem pInt_int : pInt (.int i) = some (.int i) := (rfl)
@[simp] theorem pMin2_int : pMin2 (.int i) (.int j) = some (.int (if j < i then j else i)) := (rfl)
@[simp] theorem pMax2_int : pMax2 (.int i) (.int j) = some (.int (if j > i then j else i)) := (rfl)
@[simp] theorem pTuple_list (xs : List PyData) : pTuple (.list xs) = some (.tuple xs) := (rfl)
@[simp] theorem pTuple_tuple (xs : List PyData) : pTuple (.tuple xs) = some (.tuple xs) := (rfl)
@[simp] theorem pList_list (xs : List PyData) : pList (.list xs) = some (.list xs) := (rfl)
@[simp] theorem pList_tuple (xs : List PyData) : pList (.tuple xs) = some (.list xs) := (rfl)
@[simp] theorem pSlice_list (xs : List PyData) (l h : Option Int) : pSlice (.list xs) l h = some (.list (cutD xs l h)) := (rfl)
@[simp] theorem pSlice_tuple (xs : List PyData) (l h : Option Int) : pSlice (.tuple xs) l h = some (.tuple (cutD xs l h)) := (rfl)
@[simp] theorem pIx_list (xs : List PyData) : pIx (.list xs) (.int i) = L2.atI xs i := (rfl)
@[simp] theorem pIx_tuple (xs : List PyData) : pIx (.tuple xs) (.int i) = L2.atI xs i := (rfl)
@[simp] theorem thenO_ite {α : Type} {P : Prop} [Decidable P] (x y : Rs α) (f : α → Os) : (if P then x else y).thenO e f = if P then x.thenO e f else y.thenO e f := by split <;> rfl
@[simp] theorem sTry_ev (all : List Str) (hs : List (List Str × DS)) : sTry all s hs e = match s e with | .exc c e' => if all.contains c = true then trySel hs c e' else .bad | o => o := by
  show (match s e with | .exc c e' => if all.contains c then trySel hs c e' else .bad | o => o) = _
  cases s e <;> rfl
theorem trySel_cons (cs : List Str) (hs : List (List Str × DS)) (c : Str) : trySel ((cs, s) :: hs) c e = if cs.contains c = true then noExc (s e) else trySel hs c e := (rfl)
theorem trySel_nil (c : Str) : trySel [] c e = .exc c e := (rfl)
@[simp] theorem noExc_rt : noExc (.rt p) = .rt p := (rfl)
@[simp] theorem noExc_nx : noExc (.nx e) = .nx e := (rfl)
end
@[simp] theorem intsOf_mapE (ns : List Int) : intsOf? (ns.map PyData.int) = some ns := by
  induction ns with
  | nil => rfl
  | cons n ns ih => simp [intsOf?, ih]
@[simp] theorem boolsOf_mapE (ns : List Bool) : boolsOf? (ns.map PyData.bool) = some ns := by
  induction ns with
  | nil => rfl
  | cons n ns ih => simp [boolsOf?, ih]
@[simp] theorem pSum_tup (ns : List Int) : pSum (.tuple (ns.map PyData.int)) = some (.int ns.sum) := by simp [pSum]
@[simp] theorem pSum_lst (ns : List Int) : pSum (.list (ns.map PyData.int)) = some (.int ns.sum) := by simp [pSum]
theorem pMaxL_tup {ns : List Int} (h : ns ≠ []) : pMaxL (.tuple (ns.map PyData.int)) = some (.int (maxI ns)) := by
  cases ns with
  | nil => exact absurd rfl h
  | cons n ns => simp [pMaxL, intsOf?]
theorem pMaxL_lst {ns : List Int} (h : ns ≠ []) : pMaxL (.list (ns.map PyData.int)) = some (.int (maxI ns)) := by
  cases ns with
  | nil => exact absurd rfl h
  | cons n ns => simp [pMaxL, intsOf?]
theorem pMinL_tup {ns : List Int} (h : ns ≠ []) : pMinL (.tuple (ns.map PyData.int)) = some (.int (minI ns)) := by
  cases ns with
  | nil => exact absurd rfl h
  | cons n ns => simp [pMinL, intsOf?]
theorem pMinL_lst {ns : List Int} (h : ns ≠ []) : pMinL (.list (ns.map PyData.int)) = some (.int (minI ns)) := by
  cases ns with
  | nil => exact absurd rfl h
  | cons n ns => simp [pMinL, intsOf?]
@[simp] theorem pAny_lst (bs : List Bool) : pAny (.list (bs.map PyData.bool)) = some (.bool (bs.any id)) := by simp [pAny]
@[simp] theorem pAll_lst (bs : List Bool) : pAll (.list (bs.map PyData.bool)) = some (.bool (bs.all id)) := by simp [pAll]
theorem maxI_mem : ∀ {l : List Int}, l ≠ [] → maxI l ∈ l
  | [], h => absurd rfl h
  | [a], _ => List.mem_cons_self
  | a :: b :: t, _ => by
    have := maxI_mem (l := b :: t) (by simp)
    show max a (maxI (b :: t)) ∈ _
    rcases Int.le_total a (maxI (b :: t)) with q | q
    · rw [Int.max_eq_right q]; exact List.mem_cons_of_mem _ this
    · rw [Int.max_eq_left q]; exact List.mem_cons_self
theorem minI_mem : ∀ {l : List Int}, l ≠ [] → minI l ∈ l
  | [], h => absurd rfl h
  | [a], _ => List.mem_cons_self
  | a :: b :: t, _ => by
    have := minI_mem (l := b :: t) (by simp)
    show min a (minI (b :: t)) ∈ _
    rcases Int.le_total a (minI (b :: t)) with q | q
    · rw [Int.min_eq_left q]; exact List.mem_cons_self
    · rw [Int.min_eq_right q]; exact List.mem_cons_of_mem _ this
theorem maxI_ge : ∀ {l : List Int} {x : Int}, x ∈ l → x ≤ maxI l
  | [a], x, h => by
    have : x = a := by simpa using h
    subst this
    exact Int.le_refl _
  | a :: b :: t, x, h => by
    show x ≤ max a (maxI (b :: t))
    rcases List.mem_cons.mp h with rfl | h
    · omega
    · have := maxI_ge h
      omega
theorem minI_le : ∀ {l : List Int} {x : Int}, x ∈ l → minI l ≤ x
  | [a], x, h => by
    have : x = a := by simpa using h
    subst this
    exact Int.le_refl _
  | a :: b :: t, x, h => by
    show min a (minI (b :: t)) ≤ x
    rcases List.mem_cons.mp h with rfl | h
    · omega
    · have := minI_le h
      omega
/-! ### places -/
theorem atI_map {α : Type} (f : α → PyData) (xs : List α) (i : Int) : L2.atI (xs.map f) i = (L2.atI xs i).map f := by
  unfold L2.atI
  rw [List.length_map]
  cases L2.ixN xs.length i <;> simp
theorem atI_nn {α : Type} {xs : List α} {i : Int} (h1 : 0 ≤ i) (h2 : i < xs.length) : L2.atI xs i = xs[i.toNat]? := by
  unfold L2.atI L2.ixN
  rw [if_pos h1, if_pos h2]
  rfl
theorem cut_take {xs : List PyData} {n : Int} (h : 0 ≤ n) : cutD xs none (some n) = xs.take n.toNat := by
  show List.take ((if n < 0 then (n + xs.length).toNat else min n.toNat xs.length) - 0) (List.drop 0 xs) = _
  rw [if_neg (by omega)]
  simp only [List.drop_zero, Nat.sub_zero]
  rcases Nat.le_total n.toNat xs.length with hl | hl
  · rw [Nat.min_eq_left hl]
  · rw [Nat.min_eq_right hl, List.take_length, List.take_of_length_le hl]
theorem cut_map {α : Type} (f : α → PyData) (xs : List α) (l h : Option Int) : cutD (xs.map f) l h = ((xs.drop (HT.sIx xs.length 0 l)).take (HT.sIx xs.length xs.length h - HT.sIx xs.length 0 l)).map f := by
  unfold cutD
  rw [List.length_map, List.map_take, List.map_drop]
/-! ### loops -/
/-- a loop whose turns all go on -/
theorem forGo_inv {g : DG} {b : DS} (P : Nat → Lv → Prop) : ∀ (xs : List PyData) (k : Nat) (e : Lv), P k e → (∀ i x e, xs[i]? = some x → P (k + i) e → ∃ e1 e2, g x e = some e1 ∧ b e1 = .nx e2 ∧ P (k + i + 1) e2) →
    ∃ e', forGo g b xs e = .nx e' ∧ P (k + xs.length) e'
  | [], k, e, h, _ => ⟨e, rfl, h⟩
  | x :: xs, k, e, h, st => by
    obtain ⟨e1, e2, h1, h2, h3⟩ := st 0 x e rfl h
    obtain ⟨e', h4, h5⟩ := forGo_inv P xs (k + 1) e2 h3 fun i y e he hp => by
      have := st (i + 1) y e (by simpa using he) (by rw [show k + (i + 1) = k + 1 + i by omega]; exact hp)
      rw [show k + (i + 1) + 1 = k + 1 + i + 1 by omega] at this
      exact this
    refine ⟨e', ?_, by rw [List.length_cons, show k + (xs.length + 1) = k + 1 + xs.length by omega]; exact h5⟩
    show (Rs.ofO (g x e)).thenO e _ = _
    rw [h1]
    show (match b e1 with | .nx e2 => forGo g b xs e2 | .ct e2 => forGo g b xs e2 | .bk e2 => .nx e2 | .rt p => .rt p | .exc c e2 => .exc c e2 | .bad => .bad) = _
    rw [h2]
    exact h4
/-- a comprehension without a test, element by element -/
theorem lcGo_map {α : Type} {g : DG} {a : DE} {e : Lv} (enc : α → PyData) (f : α → PyData) : ∀ (xs : List α), (∀ x ∈ xs, ∃ e1, g (enc x) e = some e1 ∧ a e1 = .ok (f x)) → lcGo g tYes a e (xs.map enc) = .ok (xs.map f)
  | [], _ => rfl
  | x :: xs, h => by
    obtain ⟨e1, h1, h2⟩ := h x List.mem_cons_self
    have ih := lcGo_map enc f xs fun y hy => h y (List.mem_cons_of_mem _ hy)
    show ((Rs.ofO (g (enc x) e)).bind fun e1 => (tYes e1).bind fun c => if c = true then (a e1).bind fun y => (lcGo g tYes a e (xs.map enc)).bind fun ys => .ok (y :: ys) else _) = _
    rw [h1]
    simp [h2, ih]
/-- .. with a test -/
theorem lcGo_filter {α : Type} {g : DG} {t : DT} {a : DE} {e : Lv} (enc : α → PyData) (p : α → Bool) (f : α → PyData) : ∀ (xs : List α), (∀ x ∈ xs, ∃ e1, g (enc x) e = some e1 ∧ t e1 = .ok (p x) ∧ (p x = true → a e1 = .ok (f x))) →
    lcGo g t a e (xs.map enc) = .ok ((xs.filter p).map f)
  | [], _ => rfl
  | x :: xs, h => by
    obtain ⟨e1, h1, h2, h3⟩ := h x List.mem_cons_self
    have ih := lcGo_filter enc p f xs fun y hy => h y (List.mem_cons_of_mem _ hy)
    show ((Rs.ofO (g (enc x) e)).bind fun e1 => (t e1).bind fun c => if c = true then (a e1).bind fun y => (lcGo g t a e (xs.map enc)).bind fun ys => .ok (y :: ys) else lcGo g t a e (xs.map enc)) = _
    rw [h1]
    cases hp : p x with
    | true => simp [h2, hp, h3 hp, ih]
    | false => simp [h2, hp, ih]
end Lt
/-! ## LtEval2 -/
set_option maxHeartbeats 4000000
/-! Lt, for the laws' own part: more of it. -/
namespace Lt
open PySem
section
variable (e : Lv) (a b c : DE) (p q : PyData) (i j : Int) (g g1 : DG) (t t1 : DT) (s : DS)
@[simp] theorem lEnum_ev : lEnum a e = (a e).bind fun x => match items? x with | some xs => .ok (enumD xs) | none => .bad := (rfl)
@[simp] theorem dLc2_ev (l l1 : DL) (us us1 : List Nat) : dLc2 l us g t l1 us1 g1 t1 a e = (l e).bind fun xs => (noX (lc2Go g t l1 us1 g1 t1 a (wipeL e us) xs)).bind fun ys => if ys.length ≤ 16777216 then .ok (.list ys) else .bad := (rfl)
@[simp] theorem sSetIx_ev (k : Nat) : sSetIx k a b e = (b e).thenO e fun y => (dVar k e).thenO e fun x => (a e).thenO e fun z => (Rs.ofO (pSetIx x z y)).thenO e fun w => .nx (e.set k (some w)) := (rfl)
@[simp] theorem sAugIx_ev (k : Nat) (f : PyData → PyData → Option PyData) : sAugIx k a f b e = (dVar k e).thenO e fun x => (a e).thenO e fun z => (Rs.ofO (pIx x z)).thenO e fun o => (b e).thenO e fun y => (Rs.ofO (f o y)).thenO e fun u => (Rs.ofO (pSetIx x z u)).thenO e fun w => .nx (e.set k (some w)) := (rfl)
@[simp] theorem pSetIx_list (xs : List PyData) : pSetIx (.list xs) (.int i) p = (L2.ixN xs.length i).map fun j => .list (xs.set j p) := (rfl)
@[simp] theorem pMulI_int : pMulI (.int i) (.int j) = if mulOk i j = true then some (.int (i * j)) else none := (rfl)
@[simp] theorem gTup_ev (gs : List DG) (ps : List PyData) : gTup gs (.tuple ps) e = gTupGo gs ps e := (rfl)
@[simp] theorem gTupGo_nil : gTupGo [] [] e = some e := (rfl)
@[simp] theorem gTupGo_cons (gs : List DG) (ps : List PyData) : gTupGo (g :: gs) (p :: ps) e = (g p e).bind fun e' => gTupGo gs ps e' := (rfl)
@[simp] theorem pInt_bool (x : Bool) : pInt (.bool x) = some (.int (if x = true then 1 else 0)) := (rfl)
theorem pAdd_tup {xs ys : List PyData} (h : xs.length + ys.length ≤ 16777216) : pAdd (.tuple xs) (.tuple ys) = some (.tuple (xs ++ ys)) := by
  show (if xs.length + ys.length ≤ 16777216 then some (PyData.tuple (xs ++ ys)) else none) = _
  rw [if_pos h]
theorem pAdd_lst {xs ys : List PyData} (h : xs.length + ys.length ≤ 16777216) : pAdd (.list xs) (.list ys) = some (.list (xs ++ ys)) := by
  show (if xs.length + ys.length ≤ 16777216 then some (PyData.list (xs ++ ys)) else none) = _
  rw [if_pos h]
theorem pCatL_lst {xs ys : List PyData} (h : xs.length + ys.length ≤ 16777216) : pCatL (.list xs) (.list ys) = some (.list (xs ++ ys)) := by
  show (if xs.length + ys.length ≤ 16777216 then some (PyData.list (xs ++ ys)) else none) = _
  rw [if_pos h]
end
/-! ### equality -/
theorem pEq_sh {x y : PyData} (hx : SeqAt.shaped x = true) (hy : SeqAt.shaped y = true) : pEq x y = some (.bool (PyData.eqv x y)) := by
  unfold pEq eqOk
  rw [hx, hy]
  simp
theorem pNe_sh {x y : PyData} (hx : SeqAt.shaped x = true) (hy : SeqAt.shaped y = true) : pNe x y = some (.bool (!PyData.eqv x y)) := by
  unfold pNe eqOk
  rw [hx, hy]
  simp
/-- no bool and no dict within: then == is equality -/
def noB : PyData → Bool
  | .none => true | .int _ => true | .str _ => true | .bool _ => false | .dict _ => false
  | .list xs => noBs xs
  | .tuple xs => noBs xs
where noBs : List PyData → Bool
  | [] => true
  | x :: r => noB x && noBs r
mutual
theorem eqv_self : ∀ x : PyData, noB x = true → PyData.eqv x x = true
  | .none, _ => by simp [PyData.eqv]
  | .int _, _ => by simp [PyData.eqv]
  | .str _, _ => by simp [PyData.eqv]
  | .bool _, h => by simp [noB] at h
  | .dict _, h => by simp [noB] at h
  | .list xs, h => by rw [PyData.eqv]; exact eqvAll_self xs (by simpa [noB] using h)
  | .tuple xs, h => by rw [PyData.eqv]; exact eqvAll_self xs (by simpa [noB] using h)
theorem eqvAll_self : ∀ x : List PyData, noB.noBs x = true → PyData.eqvAll x x = true
  | [], _ => by simp [PyData.eqvAll]
  | x :: xs, h => by
    simp only [noB.noBs, Bool.and_eq_true] at h
    simp only [PyData.eqvAll, Bool.and_eq_true]
    exact ⟨eqv_self x h.1, eqvAll_self xs h.2⟩
end
mutual
theorem eq_of_eqv : ∀ x y : PyData, noB x = true → noB y = true → PyData.eqv x y = true → x = y
  | .none, y, _, hy, h => by cases y <;> simp_all [PyData.eqv, noB]
  | .int _, y, _, hy, h => by cases y <;> simp_all [PyData.eqv, noB]
  | .str _, y, _, hy, h => by cases y <;> simp_all [PyData.eqv, noB]
  | .bool _, _, h, _, _ => by simp [noB] at h
  | .dict _, _, h, _, _ => by simp [noB] at h
  | .list xs, .list ys, hx, hy, h => by
    simp only [noB] at hx hy
    simp only [PyData.eqv] at h
    rw [eq_of_eqvAll xs ys hx hy h]
  | .tuple xs, .tuple ys, hx, hy, h => by
    simp only [noB] at hx hy
    simp only [PyData.eqv] at h
    rw [eq_of_eqvAll xs ys hx hy h]
  | .list _, .none, _, _, h => by simp [PyData.eqv] at h
  | .list _, .int _, _, _, h => by simp [PyData.eqv] at h
  | .list _, .str _, _, _, h => by simp [PyData.eqv] at h
  | .list _, .bool _, _, _, h => by simp [PyData.eqv] at h
  | .list _, .tuple _, _, _, h => by simp [PyData.eqv] at h
  | .list _, .dict _, _, _, h => by simp [PyData.eqv] at h
  | .tuple _, .none, _, _, h => by simp [PyData.eqv] at h
  | .tuple _, .int _, _, _, h => by simp [PyData.eqv] at h
  | .tuple _, .str _, _, _, h => by simp [PyData.eqv] at h
  | .tuple _, .bool _, _, _, h => by simp [PyData.eqv] at h
  | .tuple _, .list _, _, _, h => by simp [PyData.eqv] at h
  | .tuple _, .dict _, _, _, h => by simp [PyData.eqv] at h
theorem eq_of_eqvAll : ∀ x y : List PyData, noB.noBs x = true → noB.noBs y = true → PyData.eqvAll x y = true → x = y
  | [], [], _, _, _ => rfl
  | [], _ :: _, _, _, h => by simp [PyData.eqvAll] at h
  | _ :: _, [], _, _, h => by simp [PyData.eqvAll] at h
  | x :: xs, y :: ys, hx, hy, h => by
    simp only [noB.noBs, Bool.and_eq_true] at hx hy
    simp only [PyData.eqvAll, Bool.and_eq_true] at h
    rw [eq_of_eqv x y hx.1 hy.1 h.1, eq_of_eqvAll xs ys hx.2 hy.2 h.2]
end
theorem noBs_iff {xs : List PyData} : noB.noBs xs = true ↔ ∀ x ∈ xs, noB x = true := by
  induction xs with
  | nil => simp [noB.noBs]
  | cons x xs ih => simp [noB.noBs, ih]
@[simp] theorem noB_tup (xs : List PyData) : noB (.tuple xs) = noB.noBs xs := by simp [noB]
@[simp] theorem noB_lst (xs : List PyData) : noB (.list xs) = noB.noBs xs := by simp [noB]
@[simp] theorem noB_int (i : Int) : noB (.int i) = true := by simp [noB]
@[simp] theorem noB_str (i : Str) : noB (.str i) = true := by simp [noB]
@[simp] theorem noB_none : noB .none = true := by simp [noB]
@[simp] theorem noBs_nil : noB.noBs [] = true := by simp [noB.noBs]
@[simp] theorem noBs_cons (x : PyData) (xs : List PyData) : noB.noBs (x :: xs) = (noB x && noB.noBs xs) := by simp [noB.noBs]
/-- of the depth n at most, of plain parts -/
def plainN (n : Nat) (x : PyData) : Prop := x.canLay0 = true ∧ x.depth ≤ n
theorem plainN.sh {n : Nat} {x : PyData} (h : plainN n x) (hn : n ≤ 64) : SeqAt.shaped x = true := by
  unfold SeqAt.shaped
  rw [h.1, decide_eq_true (Nat.le_trans h.2 hn)]
  rfl
theorem canLay_all {xs : List PyData} : PyData.canLayAll0 xs = true ↔ ∀ x ∈ xs, x.canLay0 = true := by
  induction xs with
  | nil => simp [PyData.canLayAll0]
  | cons x xs ih => simp [PyData.canLayAll0, ih]
theorem depth_all {xs : List PyData} {n : Nat} (h : ∀ x ∈ xs, x.depth ≤ n) : PyData.depthAll xs ≤ n := by
  induction xs with
  | nil => simp [PyData.depthAll]
  | cons x xs ih =>
    simp only [PyData.depthAll]
    have h1 := h x List.mem_cons_self
    have h2 := ih fun y hy => h y (List.mem_cons_of_mem _ hy)
    omega
theorem plain_tup {n : Nat} {xs : List PyData} (h : ∀ x ∈ xs, plainN n x) : plainN (n + 1) (.tuple xs) := by
  refine ⟨?_, ?_⟩
  · rw [PyData.canLay0]; exact canLay_all.mpr fun x hx => (h x hx).1
  · have := depth_all (n := n) fun x hx => (h x hx).2
    simp only [PyData.depth]
    omega
theorem plain_lst {n : Nat} {xs : List PyData} (h : ∀ x ∈ xs, plainN n x) : plainN (n + 1) (.list xs) := by
  refine ⟨?_, ?_⟩
  · rw [PyData.canLay0]; exact canLay_all.mpr fun x hx => (h x hx).1
  · have := depth_all (n := n) fun x hx => (h x hx).2
    simp only [PyData.depth]
    omega
theorem plain_int (n : Nat) (i : Int) : plainN (n + 1) (.int i) := ⟨by simp [PyData.canLay0], by simp [PyData.depth]⟩
theorem plain_none (n : Nat) : plainN (n + 1) .none := ⟨by simp [PyData.canLay0], by simp [PyData.depth]⟩
theorem plain_bool (n : Nat) (i : Bool) : plainN (n + 1) (.bool i) := ⟨by simp [PyData.canLay0], by simp [PyData.depth]⟩
theorem plainN.up {n m : Nat} {x : PyData} (h : plainN n x) (hm : n ≤ m) : plainN m x := ⟨h.1, Nat.le_trans h.2 hm⟩
/-! ### comprehensions with two fors -/
theorem lcGo_mapP {g : DG} {a : DE} {e : Lv} {t : DT} (f : PyData → PyData) : ∀ (xs : List PyData), (∀ x ∈ xs, ∃ e1, g x e = some e1 ∧ t e1 = .ok true ∧ a e1 = .ok (f x)) → lcGo g t a e xs = .ok (xs.map f)
  | [], _ => rfl
  | x :: xs, h => by
    obtain ⟨e1, h1, ht, h2⟩ := h x List.mem_cons_self
    have ih := lcGo_mapP f xs fun y hy => h y (List.mem_cons_of_mem _ hy)
    show ((Rs.ofO (g x e)).bind fun e1 => (t e1).bind fun c => if c = true then (a e1).bind fun y => (lcGo g t a e xs).bind fun ys => .ok (y :: ys) else _) = _
    rw [h1]
    simp [h2, ih, ht]
theorem lc2Go_map {α : Type} {g g1 : DG} {t t1 : DT} {l1 : DL} {us1 : List Nat} {a : DE} {e : Lv} (enc : α → PyData) (sub : α → List PyData) (f : α → PyData → PyData) : ∀ (xs : List α),
    (∀ x ∈ xs, ∃ e1, g (enc x) e = some e1 ∧ t e1 = .ok true ∧ l1 e1 = .ok (sub x) ∧ ∀ y ∈ sub x, ∃ e2, g1 y (wipeL e1 us1) = some e2 ∧ t1 e2 = .ok true ∧ a e2 = .ok (f x y)) →
    lc2Go g t l1 us1 g1 t1 a e (xs.map enc) = .ok (xs.map fun x => (sub x).map (f x)).flatten
  | [], _ => rfl
  | x :: xs, h => by
    obtain ⟨e1, h1, ht, hl, h2⟩ := h x List.mem_cons_self
    have ih := lc2Go_map enc sub f xs fun y hy => h y (List.mem_cons_of_mem _ hy)
    have hin := lcGo_mapP (f x) (sub x) h2
    show ((Rs.ofO (g (enc x) e)).bind fun e1 => (t e1).bind fun c => if c = true then (l1 e1).bind fun ys => (lcGo g1 t1 a (wipeL e1 us1) ys).bind fun zs => (lc2Go g t l1 us1 g1 t1 a e (xs.map enc)).bind fun r => .ok (zs ++ r) else _) = _
    rw [h1]
    simp [ht, hl, hin, ih]
/-! ### loops that may end early -/
theorem forGo_cons (g : DG) (b : DS) (x : PyData) (xs : List PyData) (e : Lv) : forGo g b (x :: xs) e = (Rs.ofO (g x e)).thenO e fun e1 => match b e1 with
    | .nx e2 => forGo g b xs e2
    | .ct e2 => forGo g b xs e2
    | .bk e2 => .nx e2
    | .rt p => .rt p
    | .exc c e2 => .exc c e2
    | .bad => .bad := (rfl)
@[simp] theorem forGo_nil (g : DG) (b : DS) (e : Lv) : forGo g b [] e = .nx e := (rfl)
theorem forGo_nx {g : DG} {b : DS} {x : PyData} {xs : List PyData} {e e1 e2 : Lv} (h1 : g x e = some e1) (h2 : b e1 = .nx e2) : forGo g b (x :: xs) e = forGo g b xs e2 := by
  rw [forGo_cons, h1]
  simp [h2]
theorem forGo_rt {g : DG} {b : DS} {x : PyData} {xs : List PyData} {e e1 : Lv} {p : PyData} (h1 : g x e = some e1) (h2 : b e1 = .rt p) : forGo g b (x :: xs) e = .rt p := by
  rw [forGo_cons, h1]
  simp [h2]
end Lt
/-! ## Den_k53 -/
set_option maxHeartbeats 4000000
namespace Pf
open PySem Lt
abbrev k_MOST_DEBT : DE := dC (.int 1000000000)
abbrev k_MOST_OF_RATE : DE := dC (.int 1000000)
abbrev k_MOST_PAYMENT : DE := dC (.int 10000000000000000)
abbrev k_MOST_PLAN : DE := dC (.int 1000)
abbrev k_MOST_PERIODS : DE := dC (.int 200)
abbrev k_FORM : DE := dC (.str "form")
def excs : List Str := ["BadDebt", "BadRate", "BadAmount", "BadCount"]
def hc_BadDebt : List Str := ["BadDebt"]
def hc_BadRate : List Str := ["BadRate"]
def hc_BadAmount : List Str := ["BadAmount"]
def hc_BadCount : List Str := ["BadCount"]
/-! is_whole(value, least, most): 0 value 1 least 2 most -/
noncomputable def body_is_whole : DS := (sRet (dAnd (d1 (pIsi .int) (dVar 0)) (dAnd (d1 pNot (d1 (pIsi .bool) (dVar 0))) (dChain pLe pLe (dVar 1) (dVar 0) (dVar 2)))))
noncomputable def den_is_whole : List PyData → Rs PyData := runD 3 false body_is_whole
/-! _check(debt, rate): 0 debt 1 rate -/
-- if not is_whole(rate[0], 0, MOST_OF_RATE) or not is_whole(rate[1], 1, MOST_OF_RATE):
noncomputable def t_P_check_1_2 : DS := (sIf (Lt.tOr (Lt.tNot (tOf (dCall 3 den_is_whole (dCons (d2 pIx (dVar 1) (dC (.int 0))) (dCons (dC (.int 0)) (dCons k_MOST_OF_RATE dNil)))))) (Lt.tNot (tOf (dCall 3 den_is_whole (dCons (d2 pIx (dVar 1) (dC (.int 1))) (dCons (dC (.int 1)) (dCons k_MOST_OF_RATE dNil)))))))
 (sRaise "BadRate")
 sNext)
-- if not isinstance(rate, tuple) or len(rate) != 2:
noncomputable def t_P_check_1_1 : DS := (sSeq (sIf (Lt.tOr (Lt.tNot (tOf (d1 (pIsi .tuple) (dVar 1)))) (tOf (d2 pNe (dB (u1 pLen) (dCons (dVar 1) dNil)) (dC (.int 2)))))
 (sRaise "BadRate")
 sNext)
 t_P_check_1_2)
noncomputable def body_P_check : DS := (sSeq (sIf (Lt.tNot (tOf (dCall 3 den_is_whole (dCons (dVar 0) (dCons (dC (.int 1)) (dCons k_MOST_DEBT dNil))))))
 (sRaise "BadDebt")
 sNext)
 t_P_check_1_1)
noncomputable def den_P_check : List PyData → Rs PyData := runD 2 false body_P_check
/-! _check_payment(payment): 0 payment -/
noncomputable def body_P_check_payment : DS := (sIf (Lt.tNot (tOf (dCall 3 den_is_whole (dCons (dVar 0) (dCons (dC (.int 1)) (dCons k_MOST_PAYMENT dNil))))))
 (sRaise "BadAmount")
 sNext)
noncomputable def den_P_check_payment : List PyData → Rs PyData := runD 1 false body_P_check_payment
/-! _row(left, rate, payment): 0 left 1 rate 2 payment 3 interest 4 paid -/
-- return (interest, paid, left + interest - paid)
noncomputable def t_P_row_1_2 : DS := (sRet (dTup (dCons (dVar 3) (dCons (dVar 4) (dCons (d2 pSub (d2 pAdd (dVar 0) (dVar 3)) (dVar 4)) dNil)))))
-- paid = min(payment, left + interest)
noncomputable def t_P_row_1_1 : DS := (sSeq (sSet 4 (dB (u2 pMin2) (dCons (dVar 2) (dCons (d2 pAdd (dVar 0) (dVar 3)) dNil))))
 t_P_row_1_2)
noncomputable def body_P_row : DS := (sSeq (sSet 3 (d2 pFdiv (d2 pAdd (d2 pMul (d2 pMul (dC (.int 2)) (dVar 0)) (d2 pIx (dVar 1) (dC (.int 0)))) (d2 pIx (dVar 1) (dC (.int 1)))) (d2 pMul (dC (.int 2)) (d2 pIx (dVar 1) (dC (.int 1))))))
 t_P_row_1_1)
noncomputable def den_P_row : List PyData → Rs PyData := runD 5 false body_P_row
/-! plan(debt, rate, payment): 0 debt 1 rate 2 payment 3 rows 4 left 5 row -/
-- if len(rows) == MOST_PLAN and left > 0:
noncomputable def t_plan_1_4 : DS := (sIf (Lt.tAnd (tOf (d2 pEq (dB (u1 pLen) (dCons (dVar 3) dNil)) k_MOST_PLAN)) (tOf (d2 pGt (dVar 4) (dC (.int 0)))))
 (sRet (dTup (dCons (dC (.str "long")) (dCons (dVar 4) dNil))))
 sNext)
-- rows.append(row)
noncomputable def t_plan_1_3 : DS := (sSeq (sAppend 3 (dVar 5))
 t_plan_1_4)
-- left = row[2]
noncomputable def t_plan_1_2 : DS := (sSeq (sSet 4 (d2 pIx (dVar 5) (dC (.int 2))))
 t_plan_1_3)
-- if row[2] >= left:
noncomputable def t_plan_1_1 : DS := (sSeq (sIf (tOf (d2 pGe (d2 pIx (dVar 5) (dC (.int 2))) (dVar 4)))
 (sRet (dTup (dCons (dC (.str "never")) (dCons (d2 pIx (dVar 5) (dC (.int 2))) dNil))))
 sNext)
 t_plan_1_2)
-- while left > 0
noncomputable def b_plan_1 : DS := (sSeq (sSet 5 (dCall 3 den_P_row (dCons (dVar 4) (dCons (dVar 1) (dCons (dVar 2) dNil)))))
 t_plan_1_1)
-- return ('paid', tuple(rows))
noncomputable def t_plan_2_5 : DS := (sRet (dTup (dCons (dC (.str "paid")) (dCons (dB (u1 pTuple) (dCons (dVar 3) dNil)) dNil))))
-- while left > 0:
noncomputable def t_plan_2_4 : DS := (sSeq (sWhile (tOf (d2 pGt (dVar 4) (dC (.int 0)))) b_plan_1)
 t_plan_2_5)
-- left = debt
noncomputable def t_plan_2_3 : DS := (sSeq (sSet 4 (dVar 0))
 t_plan_2_4)
-- rows = []
noncomputable def t_plan_2_2 : DS := (sSeq (sSet 3 (dLst dNil))
 t_plan_2_3)
-- _check_payment(payment)
noncomputable def t_plan_2_1 : DS := (sSeq (sExpr (dCall 1 den_P_check_payment (dCons (dVar 2) dNil)))
 t_plan_2_2)
noncomputable def body_plan : DS := (sSeq (sExpr (dCall 2 den_P_check (dCons (dVar 0) (dCons (dVar 1) dNil))))
 t_plan_2_1)
noncomputable def den_plan : List PyData → Rs PyData := runD 6 false body_plan
/-! _is_enough(debt, rate, payment, periods): 0 debt 1 rate 2 payment 3 periods 4 left 5 _period -/
-- for _period in range(periods)
noncomputable def b_P_is_enough_1 : DS := (sSet 4 (d2 pIx (dCall 3 den_P_row (dCons (dVar 4) (dCons (dVar 1) (dCons (dVar 2) dNil)))) (dC (.int 2))))
-- return left == 0
noncomputable def t_P_is_enough_1_2 : DS := (sRet (d2 pEq (dVar 4) (dC (.int 0))))
-- for _period in range(periods):
noncomputable def t_P_is_enough_1_1 : DS := (sSeq (sFor (lRange1 (dVar 3)) (gSet 5) b_P_is_enough_1)
 t_P_is_enough_1_2)
noncomputable def body_P_is_enough : DS := (sSeq (sSet 4 (dVar 0))
 t_P_is_enough_1_1)
noncomputable def den_P_is_enough : List PyData → Rs PyData := runD 6 false body_P_is_enough
/-! least_payment(debt, rate, periods): 0 debt 1 rate 2 periods 3 least 4 most 5 middle -/
-- if _is_enough(debt, rate, middle, periods):
noncomputable def t_least_payment_1_1 : DS := (sIf (tOf (dCall 4 den_P_is_enough (dCons (dVar 0) (dCons (dVar 1) (dCons (dVar 5) (dCons (dVar 2) dNil))))))
 (sSet 4 (dVar 5))
 (sSet 3 (d2 pAdd (dVar 5) (dC (.int 1)))))
-- while least < most
noncomputable def b_least_payment_1 : DS := (sSeq (sSet 5 (d2 pFdiv (d2 pAdd (dVar 3) (dVar 4)) (dC (.int 2))))
 t_least_payment_1_1)
-- return least
noncomputable def t_least_payment_2_4 : DS := (sRet (dVar 3))
-- while least < most:
noncomputable def t_least_payment_2_3 : DS := (sSeq (sWhile (tOf (d2 pLt (dVar 3) (dVar 4))) b_least_payment_1)
 t_least_payment_2_4)
-- least, most = (1, _row(debt, rate, 0)[2])
noncomputable def t_least_payment_2_2 : DS := (sSeq (sPar 3 4 (dC (.int 1)) (d2 pIx (dCall 3 den_P_row (dCons (dVar 0) (dCons (dVar 1) (dCons (dC (.int 0)) dNil)))) (dC (.int 2))))
 t_least_payment_2_3)
-- if not is_whole(periods, 1, MOST_PERIODS):
noncomputable def t_least_payment_2_1 : DS := (sSeq (sIf (Lt.tNot (tOf (dCall 3 den_is_whole (dCons (dVar 2) (dCons (dC (.int 1)) (dCons k_MOST_PERIODS dNil))))))
 (sRaise "BadCount")
 sNext)
 t_least_payment_2_2)
noncomputable def body_least_payment : DS := (sSeq (sExpr (dCall 2 den_P_check (dCons (dVar 0) (dCons (dVar 1) dNil))))
 t_least_payment_2_1)
noncomputable def den_least_payment : List PyData → Rs PyData := runD 6 false body_least_payment
/-! _are_rows(value): 0 value 1 one 2 number -/
-- [isinstance(one, tuple) and len(one) == 3 for one in value]
noncomputable def c_P_are_rows_1 : DE := (dAnd (d1 (pIsi .tuple) (dVar 1)) (d2 pEq (dB (u1 pLen) (dCons (dVar 1) dNil)) (dC (.int 3))))
-- [isinstance(number, int) and (not isinstance(number, bool)) for one in value for number in one]
noncomputable def c_P_are_rows_2 : DE := (dAnd (d1 (pIsi .int) (dVar 2)) (d1 pNot (d1 (pIsi .bool) (dVar 2))))
-- return all([isinstance(number, int) and (not isinstance(number, bool)) for one in value for number in one])
noncomputable def t_P_are_rows_1_1 : DS := (sRet (dB (u1 pAll) (dCons (dLc2 (lSeq (dVar 0)) [1, 2] (gSet 1) tYes (lSeq (dVar 1)) [2] (gSet 2) tYes c_P_are_rows_2) dNil)))
noncomputable def body_P_are_rows : DS := (sSeq (sIf (Lt.tOr (Lt.tNot (tOf (d1 (pIsi .tuple) (dVar 0)))) (Lt.tNot (tOf (dB (u1 pAll) (dCons (dLc (lSeq (dVar 0)) [1] (gSet 1) tYes c_P_are_rows_1) dNil)))))
 (sRet (dC (.bool false)))
 sNext)
 t_P_are_rows_1_1)
noncomputable def den_P_are_rows : List PyData → Rs PyData := runD 3 false body_P_are_rows
/-! plan_fault(debt, rate, payment, rows): 0 debt 1 rate 2 payment 3 rows 4 left 5 number 6 row -/
-- left = row[2]
noncomputable def t_plan_fault_1_1 : DS := (sSet 4 (d2 pIx (dVar 6) (dC (.int 2))))
-- for (number, row) in enumerate(rows)
noncomputable def b_plan_fault_1 : DS := (sSeq (sIf (Lt.tOr (tOf (d2 pEq (dVar 4) (dC (.int 0)))) (tOf (d2 pNe (dVar 6) (dCall 3 den_P_row (dCons (dVar 4) (dCons (dVar 1) (dCons (dVar 2) dNil)))))))
 (sRet (dTup (dCons (dC (.str "row")) (dCons (dVar 5) dNil))))
 sNext)
 t_plan_fault_1_1)
-- return None if left == 0 else ('row', len(rows))
noncomputable def t_plan_fault_2_5 : DS := (sRet (dIf (tOf (d2 pEq (dVar 4) (dC (.int 0)))) (dC .none) (dTup (dCons (dC (.str "row")) (dCons (dB (u1 pLen) (dCons (dVar 3) dNil)) dNil)))))
-- for number, row in enumerate(rows):
noncomputable def t_plan_fault_2_4 : DS := (sSeq (sFor (lEnum (dVar 3)) (gTup [(gSet 5), (gSet 6)]) b_plan_fault_1)
 t_plan_fault_2_5)
-- left = debt
noncomputable def t_plan_fault_2_3 : DS := (sSeq (sSet 4 (dVar 0))
 t_plan_fault_2_4)
-- if not _are_rows(rows):
noncomputable def t_plan_fault_2_2 : DS := (sSeq (sIf (Lt.tNot (tOf (dCall 1 den_P_are_rows (dCons (dVar 3) dNil))))
 (sRet (dTup (dCons k_FORM dNil)))
 sNext)
 t_plan_fault_2_3)
-- _check_payment(payment)
noncomputable def t_plan_fault_2_1 : DS := (sSeq (sExpr (dCall 1 den_P_check_payment (dCons (dVar 2) dNil)))
 t_plan_fault_2_2)
noncomputable def body_plan_fault : DS := (sSeq (sExpr (dCall 2 den_P_check (dCons (dVar 0) (dCons (dVar 1) dNil))))
 t_plan_fault_2_1)
noncomputable def den_plan_fault : List PyData → Rs PyData := runD 7 false body_plan_fault
/-! _law_draws(script, many): 0 script 1 many 2 draws 3 seed 4 cell 5 number 6 k -/
-- number = number // 1009
noncomputable def t_L_draws_1_1 : DS := (sSet 5 (d2 pFdiv (dVar 5) (dC (.int 1009))))
-- for k in range(60)
noncomputable def b_L_draws_1 : DS := (sIf (tOf (d2 pGt (dVar 5) (dC (.int 0))))
 (sSeq (sAppend 2 (d2 pMod (dB (u1 pInt) (dCons (dVar 5) dNil)) (dC (.int 1009))))
 t_L_draws_1_1)
 sNext)
-- if number >= 10 ** 18:
noncomputable def t_L_draws_2_2 : DS := (sIf (tOf (d2 pGe (dVar 5) (d2 pPow (dC (.int 10)) (dC (.int 18)))))
 (sFor (lRange1 (dC (.int 60))) (gSet 6) b_L_draws_1)
 (sAppend 2 (d2 pMod (d2 pFdiv (dB (u1 pInt) (dCons (d2 pAdd (d2 pMul (dVar 3) (dC (.int 16807))) (dC (.int 5))) dNil)) (dC (.int 3))) (dC (.int 65521)))))
-- seed = int(seed * 48271 + number + 11) % 2147483647
noncomputable def t_L_draws_2_1 : DS := (sSeq (sSet 3 (d2 pMod (dB (u1 pInt) (dCons (d2 pAdd (d2 pAdd (d2 pMul (dVar 3) (dC (.int 48271))) (dVar 5)) (dC (.int 11))) dNil)) (dC (.int 2147483647))))
 t_L_draws_2_2)
-- for cell in script[:63]
noncomputable def b_L_draws_2 : DS := (sSeq (sSet 5 (dB (u1 pAbs) (dCons (dVar 4) dNil)))
 t_L_draws_2_1)
-- draws.append(int(seed) // 7 % 65521)
noncomputable def t_L_draws_3_1 : DS := (sAppend 2 (d2 pMod (d2 pFdiv (dB (u1 pInt) (dCons (dVar 3) dNil)) (dC (.int 7))) (dC (.int 65521))))
-- for k in range(many)
noncomputable def b_L_draws_3 : DS := (sIf (tOf (d2 pLt (dB (u1 pLen) (dCons (dVar 2) dNil)) (dVar 1)))
 (sSeq (sSet 3 (d2 pMod (dB (u1 pInt) (dCons (d2 pAdd (d2 pAdd (d2 pMul (dVar 3) (dC (.int 69621))) (dVar 6)) (dC (.int 1))) dNil)) (dC (.int 2147483647))))
 t_L_draws_3_1)
 sNext)
-- return draws[:many]
noncomputable def t_L_draws_4_4 : DS := (sRet (dSlice (dVar 2) oNone (oSome (dVar 1))))
-- for k in range(many):
noncomputable def t_L_draws_4_3 : DS := (sSeq (sFor (lRange1 (dVar 1)) (gSet 6) b_L_draws_3)
 t_L_draws_4_4)
-- for cell in script[:63]:
noncomputable def t_L_draws_4_2 : DS := (sSeq (sFor (lSeq (dSlice (dVar 0) oNone (oSome (dC (.int 63))))) (gSet 4) b_L_draws_2)
 t_L_draws_4_3)
-- seed = 7
noncomputable def t_L_draws_4_1 : DS := (sSeq (sSet 3 (dC (.int 7)))
 t_L_draws_4_2)
noncomputable def body_L_draws : DS := (sSeq (sSet 2 (dLst dNil))
 t_L_draws_4_1)
noncomputable def den_L_draws : List PyData → Rs PyData := runD 7 false body_L_draws
/-! _law_row(left, rate, payment): 0 left 1 rate 2 payment 3 above 4 below 5 whole 6 rest 7 interest 8 paid -/
-- return (interest, paid, left + interest - paid)
noncomputable def t_L_row_1_4 : DS := (sRet (dTup (dCons (dVar 7) (dCons (dVar 8) (dCons (d2 pSub (d2 pAdd (dVar 0) (dVar 7)) (dVar 8)) dNil)))))
-- paid = payment if payment < left + interest else left + interest
noncomputable def t_L_row_1_3 : DS := (sSeq (sSet 8 (dIf (tOf (d2 pLt (dVar 2) (d2 pAdd (dVar 0) (dVar 7)))) (dVar 2) (d2 pAdd (dVar 0) (dVar 7))))
 t_L_row_1_4)
-- interest = whole + int(2 * rest >= below)
noncomputable def t_L_row_1_2 : DS := (sSeq (sSet 7 (d2 pAdd (dVar 5) (dB (u1 pInt) (dCons (d2 pGe (d2 pMul (dC (.int 2)) (dVar 6)) (dVar 4)) dNil))))
 t_L_row_1_3)
-- whole, rest = (left * above // below, left * above % below)
noncomputable def t_L_row_1_1 : DS := (sSeq (sPar 5 6 (d2 pFdiv (d2 pMul (dVar 0) (dVar 3)) (dVar 4)) (d2 pMod (d2 pMul (dVar 0) (dVar 3)) (dVar 4)))
 t_L_row_1_2)
noncomputable def body_L_row : DS := (sSeq (sAsg (gTup [(gSet 3), (gSet 4)]) (dVar 1))
 t_L_row_1_1)
noncomputable def den_L_row : List PyData → Rs PyData := runD 9 false body_L_row
/-! _law_plan(debt, rate, payment): 0 debt 1 rate 2 payment 3 rows 4 left 5 turn 6 row -/
-- if left == 0:
noncomputable def t_L_plan_1_3 : DS := (sIf (tOf (d2 pEq (dVar 4) (dC (.int 0))))
 (sRet (dTup (dCons (dC (.str "paid")) (dCons (dVar 3) dNil))))
 sNext)
-- rows, left = (rows + (row,), row[2])
noncomputable def t_L_plan_1_2 : DS := (sSeq (sPar 3 4 (d2 pAdd (dVar 3) (dTup (dCons (dVar 6) dNil))) (d2 pIx (dVar 6) (dC (.int 2))))
 t_L_plan_1_3)
-- if row[2] >= left:
noncomputable def t_L_plan_1_1 : DS := (sSeq (sIf (tOf (d2 pGe (d2 pIx (dVar 6) (dC (.int 2))) (dVar 4)))
 (sRet (dTup (dCons (dC (.str "never")) (dCons (d2 pIx (dVar 6) (dC (.int 2))) dNil))))
 sNext)
 t_L_plan_1_2)
-- for turn in range(1000)
noncomputable def b_L_plan_1 : DS := (sSeq (sSet 6 (dCall 3 den_L_row (dCons (dVar 4) (dCons (dVar 1) (dCons (dVar 2) dNil)))))
 t_L_plan_1_1)
-- return ('long', left)
noncomputable def t_L_plan_2_2 : DS := (sRet (dTup (dCons (dC (.str "long")) (dCons (dVar 4) dNil))))
-- for turn in range(1000):
noncomputable def t_L_plan_2_1 : DS := (sSeq (sFor (lRange1 (dC (.int 1000))) (gSet 5) b_L_plan_1)
 t_L_plan_2_2)
noncomputable def body_L_plan : DS := (sSeq (sPar 3 4 (dTup dNil) (dVar 0))
 t_L_plan_2_1)
noncomputable def den_L_plan : List PyData → Rs PyData := runD 7 false body_L_plan
/-! _law_due(debt, rate, payment, rows): 0 debt 1 rate 2 payment 3 rows 4 row 5 left 6 k 7 one -/
-- [isinstance(one, int) and (not isinstance(one, bool)) for one in row]
noncomputable def c_L_due_1 : DE := (dAnd (d1 (pIsi .int) (dVar 7)) (d1 pNot (d1 (pIsi .bool) (dVar 7))))
-- for row in rows
noncomputable def b_L_due_2 : DS := (sIf (Lt.tOr (Lt.tNot (tOf (d1 (pIsi .tuple) (dVar 4)))) (Lt.tOr (tOf (d2 pNe (dB (u1 pLen) (dCons (dVar 4) dNil)) (dC (.int 3)))) (Lt.tNot (tOf (dB (u1 pAll) (dCons (dLc (lSeq (dVar 4)) [7] (gSet 7) tYes c_L_due_1) dNil))))))
 (sRet (dTup (dCons (dC (.str "form")) dNil)))
 sNext)
-- left = rows[k][2]
noncomputable def t_L_due_1_1 : DS := (sSet 5 (d2 pIx (d2 pIx (dVar 3) (dVar 6)) (dC (.int 2))))
-- for k in range(len(rows))
noncomputable def b_L_due_3 : DS := (sSeq (sIf (Lt.tOr (tOf (d2 pEq (dVar 5) (dC (.int 0)))) (tOf (d2 pNe (d2 pIx (dVar 3) (dVar 6)) (dCall 3 den_L_row (dCons (dVar 5) (dCons (dVar 1) (dCons (dVar 2) dNil)))))))
 (sRet (dTup (dCons (dC (.str "row")) (dCons (dVar 6) dNil))))
 sNext)
 t_L_due_1_1)
-- return ('row', len(rows)) if left > 0 else None
noncomputable def t_L_due_2_4 : DS := (sRet (dIf (tOf (d2 pGt (dVar 5) (dC (.int 0)))) (dTup (dCons (dC (.str "row")) (dCons (dB (u1 pLen) (dCons (dVar 3) dNil)) dNil))) (dC .none)))
-- for k in range(len(rows)):
noncomputable def t_L_due_2_3 : DS := (sSeq (sFor (lRange1 (dB (u1 pLen) (dCons (dVar 3) dNil))) (gSet 6) b_L_due_3)
 t_L_due_2_4)
-- left = debt
noncomputable def t_L_due_2_2 : DS := (sSeq (sSet 5 (dVar 0))
 t_L_due_2_3)
-- for row in rows:
noncomputable def t_L_due_2_1 : DS := (sSeq (sFor (lSeq (dVar 3)) (gSet 4) b_L_due_2)
 t_L_due_2_2)
noncomputable def body_L_due : DS := (sSeq (sIf (Lt.tNot (tOf (d1 (pIsi .tuple) (dVar 3))))
 (sRet (dTup (dCons (dC (.str "form")) dNil)))
 sNext)
 t_L_due_2_1)
noncomputable def den_L_due : List PyData → Rs PyData := runD 8 false body_L_due
/-! _law_error(call, debt, rate, number): 0 call 1 debt 2 rate 3 number -/
-- return 'none'
noncomputable def t_L_error_1_1 : DS := (sRet (dC (.str "none")))
noncomputable def body_L_error : DS := (sSeq (sTry excs (sIf (tOf (d2 pEq (dVar 0) (dC (.int 0))))
 (sExpr (dCall 3 den_plan (dCons (dVar 1) (dCons (dVar 2) (dCons (dVar 3) dNil)))))
 (sIf (tOf (d2 pEq (dVar 0) (dC (.int 1))))
 (sExpr (dCall 4 den_plan_fault (dCons (dVar 1) (dCons (dVar 2) (dCons (dVar 3) (dCons (dC .none) dNil))))))
 (sExpr (dCall 3 den_least_payment (dCons (dVar 1) (dCons (dVar 2) (dCons (dVar 3) dNil))))))) [(hc_BadDebt, (sRet (dC (.str "debt")))), (hc_BadRate, (sRet (dC (.str "rate")))), (hc_BadAmount, (sRet (dC (.str "amount")))), (hc_BadCount, (sRet (dC (.str "count"))))])
 t_L_error_1_1)
noncomputable def den_L_error : List PyData → Rs PyData := runD 4 false body_L_error
/-! law(script): 0 script 1 draws 2 turn 3 debt 4 rate 5 first 6 payment 7 due 8 told 9 base 10 k 11 values 12 n 13 item 14 value 15 fault 16 word 17 wrong 18 call 19 other 20 row -/
-- [row[1] for row in base]
noncomputable def c_law_1 : DE := (d2 pIx (dVar 20) (dC (.int 1)))
-- [row[0] for row in base]
noncomputable def c_law_2 : DE := (d2 pIx (dVar 20) (dC (.int 0)))
-- [base[:k] + (other,) + base[k + 1:] for other in [None, base[k][:2], list(base[k])]]
noncomputable def c_law_3 : DE := (d2 pAdd (d2 pAdd (dSlice (dVar 9) oNone (oSome (dVar 10))) (dTup (dCons (dVar 19) dNil))) (dSlice (dVar 9) (oSome (d2 pAdd (dVar 10) (dC (.int 1)))) oNone))
-- for item in [base[k][n] + 1, base[k][n] - 1, 0, True, None, '0']
noncomputable def b_law_4 : DS := (sAppend 11 (d2 pAdd (d2 pAdd (dSlice (dVar 9) oNone (oSome (dVar 10))) (dTup (dCons (d2 pAdd (d2 pAdd (dSlice (d2 pIx (dVar 9) (dVar 10)) oNone (oSome (dVar 12))) (dTup (dCons (dVar 13) dNil))) (dSlice (d2 pIx (dVar 9) (dVar 10)) (oSome (d2 pAdd (dVar 12) (dC (.int 1)))) oNone)) dNil))) (dSlice (dVar 9) (oSome (d2 pAdd (dVar 10) (dC (.int 1)))) oNone)))
-- for n in range(3 if len(base) < 60 else 0)
noncomputable def b_law_5 : DS := (sFor (lSeq (dLst (dCons (d2 pAdd (d2 pIx (d2 pIx (dVar 9) (dVar 10)) (dVar 12)) (dC (.int 1))) (dCons (d2 pSub (d2 pIx (d2 pIx (dVar 9) (dVar 10)) (dVar 12)) (dC (.int 1))) (dCons (dC (.int 0)) (dCons (dC (.bool true)) (dCons (dC .none) (dCons (dC (.str "0")) dNil)))))))) (gSet 13) b_law_4)
-- if word != fault or (fault is None and (word is not None or told != ('paid', value))):
noncomputable def t_law_1_1 : DS := (sIf (Lt.tOr (tOf (d2 pNe (dVar 16) (dVar 15))) (Lt.tAnd (tOf (d1 pIsN (dVar 15))) (Lt.tOr (tOf (d1 pNotN (dVar 16))) (tOf (d2 pNe (dVar 8) (dTup (dCons (dC (.str "paid")) (dCons (dVar 14) dNil))))))))
 (sRet (dC (.bool false)))
 sNext)
-- for value in values
noncomputable def b_law_6 : DS := (sSeq (sPar 15 16 (dCall 4 den_L_due (dCons (dVar 3) (dCons (dVar 4) (dCons (dVar 6) (dCons (dVar 14) dNil))))) (dCall 4 den_plan_fault (dCons (dVar 3) (dCons (dVar 4) (dCons (dVar 6) (dCons (dVar 14) dNil))))))
 t_law_1_1)
-- for value in values:
noncomputable def t_law_2_8 : DS := (sFor (lSeq (dVar 11)) (gSet 14) b_law_6)
-- for n in range(3 if len(base) < 60 else 0):
noncomputable def t_law_2_7 : DS := (sSeq (sFor (lRange1 (dIf (tOf (d2 pLt (dB (u1 pLen) (dCons (dVar 9) dNil)) (dC (.int 60)))) (dC (.int 3)) (dC (.int 0)))) (gSet 12) b_law_5)
 t_law_2_8)
-- values = values + [base[:k] + (other,) + base[k + 1:] for other in [None, base[k][:2], list(base[k])]]
noncomputable def t_law_2_6 : DS := (sSeq (sSet 11 (d2 pCatL (dVar 11) (dLc (lSeq (dLst (dCons (dC .none) (dCons (dSlice (d2 pIx (dVar 9) (dVar 10)) oNone (oSome (dC (.int 2)))) (dCons (dB (u1 pList) (dCons (d2 pIx (dVar 9) (dVar 10)) dNil)) dNil))))) [19] (gSet 19) tYes c_law_3)))
 t_law_2_7)
-- values = [base, base[1:], base[:-1], base + base[-1:], base + ((0, 0, 0),), (), None, list(base), 3]
noncomputable def t_law_2_5 : DS := (sSeq (sSet 11 (dLst (dCons (dVar 9) (dCons (dSlice (dVar 9) (oSome (dC (.int 1))) oNone) (dCons (dSlice (dVar 9) oNone (oSome (d1 pNeg (dC (.int 1))))) (dCons (d2 pAdd (dVar 9) (dSlice (dVar 9) (oSome (d1 pNeg (dC (.int 1)))) oNone)) (dCons (d2 pAdd (dVar 9) (dTup (dCons (dTup (dCons (dC (.int 0)) (dCons (dC (.int 0)) (dCons (dC (.int 0)) dNil)))) dNil))) (dCons (dTup dNil) (dCons (dC .none) (dCons (dB (u1 pList) (dCons (dVar 9) dNil)) (dCons (dC (.int 3)) dNil)))))))))))
 t_law_2_6)
-- k = int(draws[16 + turn]) % len(base)
noncomputable def t_law_2_4 : DS := (sSeq (sSet 10 (d2 pMod (dB (u1 pInt) (dCons (d2 pIx (dVar 1) (d2 pAdd (dC (.int 16)) (dVar 2))) dNil)) (dB (u1 pLen) (dCons (dVar 9) dNil))))
 t_law_2_5)
-- if told[0] == 'paid' and (sum([row[1] for row in base]) != debt + sum([row[0] for row in base]) or plan_fault(debt, rate, payment, base) is not None):
noncomputable def t_law_2_3 : DS := (sSeq (sIf (Lt.tAnd (tOf (d2 pEq (d2 pIx (dVar 8) (dC (.int 0))) (dC (.str "paid")))) (Lt.tOr (tOf (d2 pNe (dB (u1 pSum) (dCons (dLc (lSeq (dVar 9)) [20] (gSet 20) tYes c_law_1) dNil)) (d2 pAdd (dVar 3) (dB (u1 pSum) (dCons (dLc (lSeq (dVar 9)) [20] (gSet 20) tYes c_law_2) dNil))))) (tOf (d1 pNotN (dCall 4 den_plan_fault (dCons (dVar 3) (dCons (dVar 4) (dCons (dVar 6) (dCons (dVar 9) dNil)))))))))
 (sRet (dC (.bool false)))
 sNext)
 t_law_2_4)
-- base = told[1] if told[0] == 'paid' else (_law_row(debt, rate, payment),)
noncomputable def t_law_2_2 : DS := (sSeq (sSet 9 (dIf (tOf (d2 pEq (d2 pIx (dVar 8) (dC (.int 0))) (dC (.str "paid")))) (d2 pIx (dVar 8) (dC (.int 1))) (dTup (dCons (dCall 3 den_L_row (dCons (dVar 3) (dCons (dVar 4) (dCons (dVar 6) dNil)))) dNil))))
 t_law_2_3)
-- if not isinstance(told, tuple) or told != due or isinstance(told[1], bool):
noncomputable def t_law_2_1 : DS := (sSeq (sIf (Lt.tOr (Lt.tNot (tOf (d1 (pIsi .tuple) (dVar 8)))) (Lt.tOr (tOf (d2 pNe (dVar 8) (dVar 7))) (tOf (d1 (pIsi .bool) (d2 pIx (dVar 8) (dC (.int 1)))))))
 (sRet (dC (.bool false)))
 sNext)
 t_law_2_2)
-- for payment in [1, first, first + 1, first + 1 + int(draws[12 + turn]) % (1 + debt // 2), debt + first, 10 ** 16]
noncomputable def b_law_7 : DS := (sIf (tOf (d2 pGt (dVar 6) (dC (.int 0))))
 (sSeq (sPar 7 8 (dCall 3 den_L_plan (dCons (dVar 3) (dCons (dVar 4) (dCons (dVar 6) dNil)))) (dCall 3 den_plan (dCons (dVar 3) (dCons (dVar 4) (dCons (dVar 6) dNil)))))
 t_law_2_1)
 sNext)
-- [_law_error(call, wrong, None, None) for call in range(3)]
noncomputable def c_law_8 : DE := (dCall 4 den_L_error (dCons (dVar 18) (dCons (dVar 17) (dCons (dC .none) (dCons (dC .none) dNil)))))
-- for wrong in [0, -1, 10 ** 9 + 1, True, None, '1']
noncomputable def b_law_9 : DS := (sIf (tOf (d2 pNe (dLc (lRange1 (dC (.int 3))) [18] (gSet 18) tYes c_law_8) (d2 pMul (dLst (dCons (dC (.str "debt")) dNil)) (dC (.int 3)))))
 (sRet (dC (.bool false)))
 sNext)
-- [_law_error(call, debt, wrong, None) for call in range(3)]
noncomputable def c_law_10 : DE := (dCall 4 den_L_error (dCons (dVar 18) (dCons (dVar 3) (dCons (dVar 17) (dCons (dC .none) dNil)))))
-- for wrong in [None, (1,), [1, 2], (-1, 2), (1, 0), (10 ** 6 + 1, 1), (1, 10 ** 6 + 1), (True, 2), (1, True), '12']
noncomputable def b_law_11 : DS := (sIf (tOf (d2 pNe (dLc (lRange1 (dC (.int 3))) [18] (gSet 18) tYes c_law_10) (d2 pMul (dLst (dCons (dC (.str "rate")) dNil)) (dC (.int 3)))))
 (sRet (dC (.bool false)))
 sNext)
-- [_law_error(call, debt, rate, wrong) for call in range(3)]
noncomputable def c_law_12 : DE := (dCall 4 den_L_error (dCons (dVar 18) (dCons (dVar 3) (dCons (dVar 4) (dCons (dVar 17) dNil)))))
-- for wrong in [0, -1, 10 ** 16 + 1, True, None, '1']
noncomputable def b_law_13 : DS := (sIf (tOf (d2 pNe (dLc (lRange1 (dC (.int 3))) [18] (gSet 18) tYes c_law_12) (dLst (dCons (dC (.str "amount")) (dCons (dC (.str "amount")) (dCons (dC (.str "count")) dNil))))))
 (sRet (dC (.bool false)))
 sNext)
-- for wrong in [0, -1, 10 ** 16 + 1, True, None, '1']:
noncomputable def t_law_3_6 : DS := (sFor (lSeq (dLst (dCons (dC (.int 0)) (dCons (d1 pNeg (dC (.int 1))) (dCons (d2 pAdd (d2 pPow (dC (.int 10)) (dC (.int 16))) (dC (.int 1))) (dCons (dC (.bool true)) (dCons (dC .none) (dCons (dC (.str "1")) dNil)))))))) (gSet 17) b_law_13)
-- for wrong in [None, (1,), [1, 2], (-1, 2), (1, 0), (10 ** 6 + 1, 1), (1, 10 ** 6 + 1), (True, 2), (1, True), '12']:
noncomputable def t_law_3_5 : DS := (sSeq (sFor (lSeq (dLst (dCons (dC .none) (dCons (dTup (dCons (dC (.int 1)) dNil)) (dCons (dLst (dCons (dC (.int 1)) (dCons (dC (.int 2)) dNil))) (dCons (dTup (dCons (d1 pNeg (dC (.int 1))) (dCons (dC (.int 2)) dNil))) (dCons (dTup (dCons (dC (.int 1)) (dCons (dC (.int 0)) dNil))) (dCons (dTup (dCons (d2 pAdd (d2 pPow (dC (.int 10)) (dC (.int 6))) (dC (.int 1))) (dCons (dC (.int 1)) dNil))) (dCons (dTup (dCons (dC (.int 1)) (dCons (d2 pAdd (d2 pPow (dC (.int 10)) (dC (.int 6))) (dC (.int 1))) dNil))) (dCons (dTup (dCons (dC (.bool true)) (dCons (dC (.int 2)) dNil))) (dCons (dTup (dCons (dC (.int 1)) (dCons (dC (.bool true)) dNil))) (dCons (dC (.str "12")) dNil)))))))))))) (gSet 17) b_law_11)
 t_law_3_6)
-- for wrong in [0, -1, 10 ** 9 + 1, True, None, '1']:
noncomputable def t_law_3_4 : DS := (sSeq (sFor (lSeq (dLst (dCons (dC (.int 0)) (dCons (d1 pNeg (dC (.int 1))) (dCons (d2 pAdd (d2 pPow (dC (.int 10)) (dC (.int 9))) (dC (.int 1))) (dCons (dC (.bool true)) (dCons (dC .none) (dCons (dC (.str "1")) dNil)))))))) (gSet 17) b_law_9)
 t_law_3_5)
-- for payment in [1, first, first + 1, first + 1 + int(draws[12 + turn]) % (1 + debt // 2), debt + first, 10 ** 16]:
noncomputable def t_law_3_3 : DS := (sSeq (sFor (lSeq (dLst (dCons (dC (.int 1)) (dCons (dVar 5) (dCons (d2 pAdd (dVar 5) (dC (.int 1))) (dCons (d2 pAdd (d2 pAdd (dVar 5) (dC (.int 1))) (d2 pMod (dB (u1 pInt) (dCons (d2 pIx (dVar 1) (d2 pAdd (dC (.int 12)) (dVar 2))) dNil)) (d2 pAdd (dC (.int 1)) (d2 pFdiv (dVar 3) (dC (.int 2)))))) (dCons (d2 pAdd (dVar 3) (dVar 5)) (dCons (d2 pPow (dC (.int 10)) (dC (.int 16))) dNil)))))))) (gSet 6) b_law_7)
 t_law_3_4)
-- first = _law_row(debt, rate, 1)[0]
noncomputable def t_law_3_2 : DS := (sSeq (sSet 5 (d2 pIx (dCall 3 den_L_row (dCons (dVar 3) (dCons (dVar 4) (dCons (dC (.int 1)) dNil)))) (dC (.int 0))))
 t_law_3_3)
-- rate = (int(draws[4 + turn]) % [5, 20, 3, 1][turn], 1 + int(draws[8 + turn]) % [60, 100, 40, 9][turn])
noncomputable def t_law_3_1 : DS := (sSeq (sSet 4 (dTup (dCons (d2 pMod (dB (u1 pInt) (dCons (d2 pIx (dVar 1) (d2 pAdd (dC (.int 4)) (dVar 2))) dNil)) (d2 pIx (dLst (dCons (dC (.int 5)) (dCons (dC (.int 20)) (dCons (dC (.int 3)) (dCons (dC (.int 1)) dNil))))) (dVar 2))) (dCons (d2 pAdd (dC (.int 1)) (d2 pMod (dB (u1 pInt) (dCons (d2 pIx (dVar 1) (d2 pAdd (dC (.int 8)) (dVar 2))) dNil)) (d2 pIx (dLst (dCons (dC (.int 60)) (dCons (dC (.int 100)) (dCons (dC (.int 40)) (dCons (dC (.int 9)) dNil))))) (dVar 2)))) dNil))))
 t_law_3_2)
-- for turn in range(4)
noncomputable def b_law_14 : DS := (sSeq (sSet 3 (d2 pAdd (dC (.int 1)) (d2 pMul (d2 pMod (dB (u1 pInt) (dCons (d2 pIx (dVar 1) (dVar 2)) dNil)) (d2 pIx (dLst (dCons (dC (.int 50)) (dCons (dC (.int 3000)) (dCons (dC (.int 65521)) (dCons (dC (.int 65521)) dNil))))) (dVar 2))) (d2 pIx (dLst (dCons (dC (.int 1)) (dCons (dC (.int 1)) (dCons (dC (.int 1)) (dCons (dC (.int 15000)) dNil))))) (dVar 2)))))
 t_law_3_1)
-- return plan(100, (1, 10), 58) == ('paid', ((10, 58, 52), (5, 57, 0))) and plan(100, (1, 10), 10) == ('never', 100) and (plan(10 ** 9, (0, 1), 1) == ('
noncomputable def t_law_4_2 : DS := (sRet (dAnd (d2 pEq (dCall 3 den_plan (dCons (dC (.int 100)) (dCons (dTup (dCons (dC (.int 1)) (dCons (dC (.int 10)) dNil))) (dCons (dC (.int 58)) dNil)))) (dTup (dCons (dC (.str "paid")) (dCons (dTup (dCons (dTup (dCons (dC (.int 10)) (dCons (dC (.int 58)) (dCons (dC (.int 52)) dNil)))) (dCons (dTup (dCons (dC (.int 5)) (dCons (dC (.int 57)) (dCons (dC (.int 0)) dNil)))) dNil))) dNil)))) (dAnd (d2 pEq (dCall 3 den_plan (dCons (dC (.int 100)) (dCons (dTup (dCons (dC (.int 1)) (dCons (dC (.int 10)) dNil))) (dCons (dC (.int 10)) dNil)))) (dTup (dCons (dC (.str "never")) (dCons (dC (.int 100)) dNil)))) (d2 pEq (dCall 3 den_plan (dCons (d2 pPow (dC (.int 10)) (dC (.int 9))) (dCons (dTup (dCons (dC (.int 0)) (dCons (dC (.int 1)) dNil))) (dCons (dC (.int 1)) dNil)))) (dTup (dCons (dC (.str "long")) (dCons (d2 pSub (d2 pPow (dC (.int 10)) (dC (.int 9))) (dC (.int 1000))) dNil)))))))
-- for turn in range(4):
noncomputable def t_law_4_1 : DS := (sSeq (sFor (lRange1 (dC (.int 4))) (gSet 2) b_law_14)
 t_law_4_2)
noncomputable def body_law : DS := (sSeq (sSet 1 (dCall 2 den_L_draws (dCons (dVar 0) (dCons (dC (.int 60)) dNil))))
 t_law_4_1)
noncomputable def den_law : List PyData → Rs PyData := runD 21 false body_law
end Pf
/-! ## Math_k53 -/
set_option maxHeartbeats 4000000
namespace Pf
open PySem Lt
/-! ### the draws -/
/-- what the draws of a law are -/
def DrawsOk (ds : List Int) : Prop := ∀ d ∈ ds, 0 ≤ d ∧ d < 65521
theorem DrawsOk.app {ds : List Int} {d : Int} (h : DrawsOk ds) (h1 : 0 ≤ d) (h2 : d < 65521) : DrawsOk (ds ++ [d]) := fun x hx => by
  rcases List.mem_append.mp hx with hx | hx
  · exact h x hx
  · simp at hx; subst hx; exact ⟨h1, h2⟩
theorem draws_turn1 (a b s : PyData) (ds : List Int) (num k : Int) (c : Option PyData) (hd : DrawsOk ds) (hl : ds.length < 16777216) :
    ∃ ds' num', b_L_draws_1 [some a, some b, some (.list (ds.map PyData.int)), some s, c, some (.int num), some (.int k)] = .nx [some a, some b, some (.list (ds'.map PyData.int)), some s, c, some (.int num'), some (.int k)] ∧ DrawsOk ds' ∧ ds'.length ≤ ds.length + 1 := by
  by_cases hp : 0 < num
  · exact ⟨ds ++ [num % 1009], num / 1009, by simp [b_L_draws_1, t_L_draws_1_1, pMod_ok, pFdiv_ok, hl, hp], hd.app (by omega) (by omega), by simp⟩
  · exact ⟨ds, num, by simp [b_L_draws_1, t_L_draws_1_1, hp], hd, by omega⟩
theorem range2_at {lo hi : Int} {i : Nat} {x : PyData} (h : (range2 lo hi)[i]? = some x) : x = .int (lo + i) ∧ i < (hi - lo).toNat := by
  unfold range2 at h
  rw [List.getElem?_map] at h
  obtain ⟨j, hj, rfl⟩ := Option.map_eq_some_iff.mp h
  obtain ⟨h1, h2⟩ := List.getElem?_eq_some_iff.mp hj
  simp at h1 h2
  subst h2
  exact ⟨rfl, by omega⟩
theorem range2_len (lo hi : Int) : (range2 lo hi).length = (hi - lo).toNat := by simp [range2]
theorem draws_turn2 (a b : PyData) (ds : List Int) (seed cell : Int) (m k : Option PyData) (hd : DrawsOk ds) (hl : ds.length < 16000000) :
    ∃ ds' seed' m' k', b_L_draws_2 [some a, some b, some (.list (ds.map PyData.int)), some (.int seed), some (.int cell), m, k] = .nx [some a, some b, some (.list (ds'.map PyData.int)), some (.int seed'), some (.int cell), m', k'] ∧ DrawsOk ds' ∧ ds'.length ≤ ds.length + 60 := by
  by_cases hc : (1000000000000000000 : Int) ≤ (if cell < 0 then -cell else cell)
  · obtain ⟨e', h1, ds', num', k', rfl, h3, h4⟩ := forGo_inv (g := gSet 6) (b := b_L_draws_1) (fun n e => ∃ ds' num' k', e = [some a, some b, some (.list (ds'.map PyData.int)), some (.int ((seed * 48271 + (if cell < 0 then -cell else cell) + 11) % 2147483647)), some (.int cell), some (.int num'), k'] ∧ DrawsOk ds' ∧ ds'.length ≤ ds.length + n)
      (range2 0 60) 0 [some a, some b, some (.list (ds.map PyData.int)), some (.int ((seed * 48271 + (if cell < 0 then -cell else cell) + 11) % 2147483647)), some (.int cell), some (.int (if cell < 0 then -cell else cell)), k] ⟨ds, _, k, rfl, hd, by omega⟩ (by
        rintro i x e hx ⟨ds', num', k', rfl, h1, h2⟩
        obtain ⟨rfl, hi⟩ := range2_at hx
        have hi : i < 60 := by omega
        obtain ⟨ds2, num2, h3, h4, h5⟩ := draws_turn1 a b (.int ((seed * 48271 + (if cell < 0 then -cell else cell) + 11) % 2147483647)) ds' num' (0 + (i : Int)) (some (.int cell)) h1 (by omega)
        exact ⟨_, _, rfl, h3, ds2, num2, _, rfl, h4, by omega⟩)
    have e60 : (range2 0 60).length = 60 := range2_len 0 60
    refine ⟨ds', (seed * 48271 + (if cell < 0 then -cell else cell) + 11) % 2147483647, some (.int num'), k', ?_, h3, by omega⟩
    simp [b_L_draws_2, t_L_draws_2_1, t_L_draws_2_2, pMod_ok, pMul_r, pPow_ok, hc, rangeOk, h1]
  · refine ⟨ds ++ [((((seed * 48271 + (if cell < 0 then -cell else cell) + 11) % 2147483647) * 16807 + 5) / 3) % 65521], (seed * 48271 + (if cell < 0 then -cell else cell) + 11) % 2147483647, some (.int (if cell < 0 then -cell else cell)), k, ?_, hd.app (by omega) (by omega), by simp⟩
    have hl' : ds.length < 16777216 := by omega
    simp [b_L_draws_2, t_L_draws_2_1, t_L_draws_2_2, pMod_ok, pMul_r, pPow_ok, pFdiv_ok, hc, hl']
theorem draws_turn3 (a : PyData) (ds : List Int) (many seed k : Int) (c m : Option PyData) (hd : DrawsOk ds) (hl : ds.length < 16000000) :
    ∃ ds' seed', b_L_draws_3 [some a, some (.int many), some (.list (ds.map PyData.int)), some (.int seed), c, m, some (.int k)] = .nx [some a, some (.int many), some (.list (ds'.map PyData.int)), some (.int seed'), c, m, some (.int k)] ∧ DrawsOk ds' ∧
      ds'.length ≤ ds.length + 1 ∧ ds.length ≤ ds'.length ∧ ((ds.length : Int) < many → ds'.length = ds.length + 1) := by
  have hl' : ds.length < 16777216 := by omega
  by_cases hp : (ds.length : Int) < many
  · exact ⟨ds ++ [((seed * 69621 + k + 1) % 2147483647) / 7 % 65521], (seed * 69621 + k + 1) % 2147483647, by simp [b_L_draws_3, t_L_draws_3_1, pMod_ok, pMul_r, pFdiv_ok, hl', hp], hd.app (by omega) (by omega), by simp, by simp, fun _ => by simp⟩
  · exact ⟨ds, seed, by simp [b_L_draws_3, t_L_draws_3_1, hp], hd, by omega, by omega, fun h => absurd h hp⟩
theorem draws_ev (ns : List Int) (hn : ns.length ≤ 63) (many : Nat) (hm : many ≤ 1000) : ∃ ds : List Int, ds.length = many ∧ DrawsOk ds ∧ den_L_draws [.list (ns.map PyData.int), .int many] = .ok (.list (ds.map PyData.int)) := by
  obtain ⟨e1, h1, ds1, seed1, c1, m1, k1, rfl, h2, h3⟩ := forGo_inv (g := gSet 4) (b := b_L_draws_2) (fun n e => ∃ ds seed c m k, e = [some (.list (ns.map PyData.int)), some (.int many), some (.list (ds.map PyData.int)), some (.int seed), c, m, k] ∧ DrawsOk ds ∧ ds.length ≤ 60 * n)
    (ns.map PyData.int) 0 [some (.list (ns.map PyData.int)), some (.int many), some (.list (([] : List Int).map PyData.int)), some (.int 7), none, none, none] ⟨[], 7, none, none, none, rfl, fun _ h => (nomatch h), by simp⟩ (by
      rintro i x e hx ⟨ds, seed, c, m, k, rfl, h1, h2⟩
      rw [List.getElem?_map] at hx
      obtain ⟨cell, hj, rfl⟩ := Option.map_eq_some_iff.mp hx
      have hi := (List.getElem?_eq_some_iff.mp hj).1
      obtain ⟨ds', seed', m', k', h3, h4, h5⟩ := draws_turn2 (.list (ns.map PyData.int)) (.int many) ds seed cell m k h1 (by omega)
      exact ⟨_, _, rfl, h3, ds', seed', _, m', k', rfl, h4, by omega⟩)
  rw [List.length_map] at h3
  obtain ⟨e2, g1, ds2, seed2, c2, m2, k2, rfl, g2, g3, g4⟩ := forGo_inv (g := gSet 6) (b := b_L_draws_3) (fun n e => ∃ ds seed c m k, e = [some (.list (ns.map PyData.int)), some (.int many), some (.list (ds.map PyData.int)), some (.int seed), c, m, k] ∧ DrawsOk ds ∧ ds.length ≤ 3780 + n ∧ (n ≤ ds.length ∨ many ≤ ds.length))
    (range2 0 many) 0 [some (.list (ns.map PyData.int)), some (.int many), some (.list (ds1.map PyData.int)), some (.int seed1), c1, m1, k1] ⟨ds1, seed1, c1, m1, k1, rfl, h2, by omega, .inl (by omega)⟩ (by
      rintro i x e hx ⟨ds, seed, c, m, k, rfl, h1, h2, h3⟩
      obtain ⟨rfl, hi⟩ := range2_at hx
      obtain ⟨ds', seed', h4, h5, h6, h7, h8⟩ := draws_turn3 (.list (ns.map PyData.int)) ds many seed (0 + (i : Int)) c m h1 (by omega)
      refine ⟨_, _, rfl, h4, ds', seed', c, m, _, rfl, h5, by omega, ?_⟩
      by_cases hlt : (ds.length : Int) < many
      · have := h8 hlt
        omega
      · exact .inr (by omega))
  have hr : rangeOk 0 (many : Int) = true := by simp [rangeOk]; omega
  refine ⟨ds2.take many, ?_, fun d hd => g2 d (List.mem_of_mem_take hd), ?_⟩
  · rw [range2_len] at g4
    rw [List.length_take]
    omega
  · have hcut : cutD (ns.map PyData.int) none (some 63) = ns.map PyData.int := by
      rw [cut_take (by decide), List.take_of_length_le (by simpa using hn)]
    have hm2 : cutD (ds2.map PyData.int) none (some (many : Int)) = (ds2.take many).map PyData.int := by
      rw [cut_take (by omega), List.map_take]
      rfl
    simp [den_L_draws, runD_ev, body_L_draws, t_L_draws_4_1, t_L_draws_4_2, hcut]
    rw [show ([] : List PyData) = ([] : List Int).map PyData.int from rfl, h1]
    simp [t_L_draws_4_3, t_L_draws_4_4, hr, g1, hm2]
/-- an integer within bounds -/
def inB (p : PyData) (lo hi : Int) : Bool := match p with
  | .int i => decide (lo ≤ i ∧ i ≤ hi)
  | _ => false
theorem is_whole_ev (p : PyData) (lo hi : Int) : den_is_whole [p, .int lo, .int hi] = .ok (.bool (inB p lo hi)) := by
  cases p <;> simp [den_is_whole, runD_ev, body_is_whole, isTy, inB]
  rename_i i
  by_cases h1 : lo ≤ i <;> by_cases h2 : i ≤ hi <;> simp [h1, h2]
/-! ### a period -/
def intr (n d l : Int) : Int := (2 * l * n + d) / (2 * d)
def stp (n d p l : Int) : Int := max 0 (l + intr n d l - p)
def Lf (n d p l : Int) : Nat → Int
  | 0 => l
  | k + 1 => stp n d p (Lf n d p l k)
/-- a rate as it should be -/
abbrev rt (n d : Int) : PyData := .tuple [.int n, .int d]
def RateOk (n d : Int) : Prop := 0 ≤ n ∧ n ≤ 1000000 ∧ 1 ≤ d ∧ d ≤ 1000000
theorem inB_int {a lo hi : Int} (h : lo ≤ a ∧ a ≤ hi) : inB (.int a) lo hi = true := decide_eq_true h
theorem row_ev (n d l p : Int) (h : RateOk n d) : den_P_row [.int l, rt n d, .int p] = .ok (.tuple [.int (intr n d l), .int (if l + intr n d l < p then l + intr n d l else p), .int (stp n d p l)]) := by
  obtain ⟨h1, h2, h3, h4⟩ := h
  have e1 : pMul (.int 2) (.int l) = some (.int (2 * l)) := pMul_l _ _ (by omega) (by omega)
  have e2 : pMul (.int (2 * l)) (.int n) = some (.int (2 * l * n)) := pMul_r _ _ (by omega) (by omega)
  have e3 : pMul (.int 2) (.int d) = some (.int (2 * d)) := pMul_l _ _ (by omega) (by omega)
  have e4 : pFdiv (.int (2 * l * n + d)) (.int (2 * d)) = some (.int ((2 * l * n + d) / (2 * d))) := pFdiv_ok _ _ (by omega) (by omega)
  have x0 : L2.atI [PyData.int n, PyData.int d] 0 = some (.int n) := rfl
  have x1 : L2.atI [PyData.int n, PyData.int d] 1 = some (.int d) := rfl
  simp [den_P_row, runD_ev, body_P_row, t_P_row_1_1, t_P_row_1_2, e1, e2, e3, e4, x0, x1, intr, stp]
  by_cases hc : l + (2 * l * n + d) / (2 * d) < p
  · simp [hc]; omega
  · simp [hc]; omega
theorem check_ev (debt n d : Int) (hd : 1 ≤ debt ∧ debt ≤ 1000000000) (h : RateOk n d) : den_P_check [.int debt, rt n d] = .ok .none := by
  obtain ⟨h1, h2, h3, h4⟩ := h
  have a1 := is_whole_ev (.int debt) 1 1000000000
  have a2 := is_whole_ev (.int n) 0 1000000
  have a3 := is_whole_ev (.int d) 1 1000000
  rw [inB_int hd] at a1
  rw [inB_int ⟨h1, h2⟩] at a2
  rw [inB_int ⟨h3, h4⟩] at a3
  have x0 : L2.atI [PyData.int n, PyData.int d] 0 = some (.int n) := rfl
  have x1 : L2.atI [PyData.int n, PyData.int d] 1 = some (.int d) := rfl
  simp [den_P_check, runD_ev, body_P_check, t_P_check_1_1, t_P_check_1_2, k_MOST_DEBT, k_MOST_OF_RATE, a1, a2, a3, isTy, x0, x1]
theorem Lf_add (n d p l : Int) (a : Nat) : ∀ b, Lf n d p l (a + b) = Lf n d p (Lf n d p l a) b
  | 0 => rfl
  | b + 1 => by
    show stp n d p (Lf n d p l (a + b)) = stp n d p (Lf n d p (Lf n d p l a) b)
    rw [Lf_add n d p l a b]
theorem stp_zero {n d p : Int} (hd : 1 ≤ d) (hp : 0 ≤ p) : stp n d p 0 = 0 := by
  unfold stp intr
  have : (2 * 0 * n + d) / (2 * d) = 0 := by
    rw [show 2 * 0 * n + d = d by simp]
    exact Int.ediv_eq_zero_of_lt (by omega) (by omega)
  rw [this]
  omega
theorem stp_nn (n d p l : Int) : 0 ≤ stp n d p l := by unfold stp; omega
theorem Lf_nn {n d p l : Int} (h : 0 ≤ l) : ∀ k, 0 ≤ Lf n d p l k
  | 0 => h
  | k + 1 => stp_nn _ _ _ _
/-! ### the mathematics of a payment -/
theorem intr_mono {n n' d l l' : Int} (hd : 1 ≤ d) (hn : 0 ≤ n) (hnn : n ≤ n') (h0 : 0 ≤ l) (h : l ≤ l') : intr n d l ≤ intr n' d l' := by
  unfold intr
  apply Int.ediv_le_ediv (by omega)
  have h1 : l * n ≤ l' * n := Int.mul_le_mul_of_nonneg_right h hn
  have h2 : l' * n ≤ l' * n' := Int.mul_le_mul_of_nonneg_left hnn (by omega)
  rw [Int.mul_assoc, Int.mul_assoc]
  omega
theorem stp_mono {n n' d p p' l l' : Int} (hd : 1 ≤ d) (hn : 0 ≤ n) (hnn : n ≤ n') (h0 : 0 ≤ l) (h : l ≤ l') (hp : p' ≤ p) : stp n d p l ≤ stp n' d p' l' := by
  have := intr_mono hd hn hnn h0 h
  unfold stp
  omega
theorem Lf_mono {n n' d p p' l l' : Int} (hd : 1 ≤ d) (hn : 0 ≤ n) (hnn : n ≤ n') (h0 : 0 ≤ l) (h : l ≤ l') (hp : p' ≤ p) : ∀ k, Lf n d p l k ≤ Lf n' d p' l' k
  | 0 => h
  | k + 1 => stp_mono hd hn hnn (Lf_nn h0 k) (Lf_mono hd hn hnn h0 h hp k) hp
theorem Lf_stay {n d p l : Int} (hd : 1 ≤ d) (hp : 0 ≤ p) {k : Nat} (h : Lf n d p l k = 0) : ∀ {m : Nat}, k ≤ m → Lf n d p l m = 0
  | 0, hm => by obtain rfl : k = 0 := by omega
                exact h
  | m + 1, hm => by
    by_cases e : k = m + 1
    · subst e; exact h
    · show stp n d p (Lf n d p l m) = 0
      rw [Lf_stay hd hp h (m := m) (by omega)]
      exact stp_zero hd hp
/-- once it does not fall it never ends -/
theorem Lf_never {n d p l : Int} (hd : 1 ≤ d) (hn : 0 ≤ n) (hl : 0 < l) (h : l ≤ stp n d p l) : ∀ k, l ≤ Lf n d p l k
  | 0 => Int.le_refl _
  | k + 1 => by
    have ih := Lf_never hd hn hl h k
    have := stp_mono (p := p) (p' := p) hd hn (Int.le_refl n) (by omega) ih (Int.le_refl p)
    show l ≤ stp n d p (Lf n d p l k)
    omega
theorem intr_nn {n d l : Int} (hd : 1 ≤ d) (hn : 0 ≤ n) (hl : 0 ≤ l) : 0 ≤ intr n d l := by
  unfold intr
  apply Int.ediv_nonneg
  · have := Int.mul_nonneg hl hn
    rw [Int.mul_assoc]
    omega
  · omega
/-! ### rows -/
def paidI (n d p l : Int) : Int := if l + intr n d l < p then l + intr n d l else p
def rowP (n d p l : Int) : PyData := .tuple [.int (intr n d l), .int (paidI n d p l), .int (stp n d p l)]
theorem at3 (a b c : PyData) : L2.atI [a, b, c] 2 = some c := rfl
theorem at31 (a b c : PyData) : L2.atI [a, b, c] 1 = some b := rfl
theorem at30 (a b c : PyData) : L2.atI [a, b, c] 0 = some a := rfl
theorem at20 (a b : PyData) : L2.atI [a, b] 0 = some a := rfl
theorem at21 (a b : PyData) : L2.atI [a, b] 1 = some b := rfl
theorem intr_other {n d l : Int} (hd : 1 ≤ d) : intr n d l = l * n / d + (if d ≤ 2 * (l * n % d) then 1 else 0) := by
  unfold intr
  have h1 := Int.emod_nonneg (l * n) (show d ≠ 0 by omega)
  have h2 := Int.emod_lt_of_pos (l * n) (show 0 < d by omega)
  have h3 := Int.mul_ediv_add_emod (l * n) d
  have e : 2 * l * n + d = (2 * (l * n % d) + d) + (2 * d) * (l * n / d) := by
    rw [Int.mul_assoc 2 l n, Int.mul_assoc 2 d]
    omega
  rw [e, Int.add_mul_ediv_left _ _ (by omega)]
  split
  · have : (2 * (l * n % d) + d) / (2 * d) = 1 := by
      apply Int.le_antisymm
      · have : (2 * (l * n % d) + d) / (2 * d) < 2 := by
          rw [Int.ediv_lt_iff_lt_mul (by omega)]
          omega
        omega
      · rw [Int.le_ediv_iff_mul_le (by omega)]
        omega
    omega
  · have : (2 * (l * n % d) + d) / (2 * d) = 0 := Int.ediv_eq_zero_of_lt (by omega) (by omega)
    omega
theorem prow_ev (n d l p : Int) (h : RateOk n d) : den_P_row [.int l, rt n d, .int p] = .ok (rowP n d p l) := row_ev n d l p h
theorem lrow_ev (n d l p : Int) (h : RateOk n d) : den_L_row [.int l, rt n d, .int p] = .ok (rowP n d p l) := by
  have hi := intr_other (n := n) (l := l) h.2.2.1
  obtain ⟨h1, h2, h3, h4⟩ := h
  have e1 : pMul (.int l) (.int n) = some (.int (l * n)) := pMul_r _ _ (by omega) (by omega)
  have e3 : pMul (.int 2) (.int (l * n % d)) = some (.int (2 * (l * n % d))) := pMul_l _ _ (by omega) (by omega)
  have e4 : pFdiv (.int (l * n)) (.int d) = some (.int (l * n / d)) := pFdiv_ok _ _ (by omega) (by omega)
  have e5 : pMod (.int (l * n)) (.int d) = some (.int (l * n % d)) := pMod_ok _ _ (by omega)
  have key : rowP n d p l = .tuple [.int (l * n / d + (if d ≤ 2 * (l * n % d) then 1 else 0)), .int (if p < l + (l * n / d + (if d ≤ 2 * (l * n % d) then 1 else 0)) then p else l + (l * n / d + (if d ≤ 2 * (l * n % d) then 1 else 0))),
      .int (l + (l * n / d + (if d ≤ 2 * (l * n % d) then 1 else 0)) - (if p < l + (l * n / d + (if d ≤ 2 * (l * n % d) then 1 else 0)) then p else l + (l * n / d + (if d ≤ 2 * (l * n % d) then 1 else 0))))] := by
    unfold rowP paidI stp
    rw [← hi]
    generalize intr n d l = i
    have a1 : (if l + i < p then l + i else p) = (if p < l + i then p else l + i) := by split <;> split <;> omega
    have a2 : max 0 (l + i - p) = l + i - (if p < l + i then p else l + i) := by split <;> omega
    rw [a1, a2]
  rw [key]
  by_cases c1 : d ≤ 2 * (l * n % d)
  · by_cases c2 : p < l + (l * n / d + 1)
    · simp [den_L_row, runD_ev, body_L_row, t_L_row_1_1, t_L_row_1_2, t_L_row_1_3, t_L_row_1_4, e1, e3, e4, e5, c1, c2]
    · simp [den_L_row, runD_ev, body_L_row, t_L_row_1_1, t_L_row_1_2, t_L_row_1_3, t_L_row_1_4, e1, e3, e4, e5, c1, c2]
  · by_cases c2 : p < l + l * n / d
    · simp [den_L_row, runD_ev, body_L_row, t_L_row_1_1, t_L_row_1_2, t_L_row_1_3, t_L_row_1_4, e1, e3, e4, e5, c1, c2]
    · simp [den_L_row, runD_ev, body_L_row, t_L_row_1_1, t_L_row_1_2, t_L_row_1_3, t_L_row_1_4, e1, e3, e4, e5, c1, c2]
/-- the first k rows -/
def rowsK (n d p debt : Int) (k : Nat) : List PyData := (List.range k).map fun i => rowP n d p (Lf n d p debt i)
theorem rowsK_len (n d p debt : Int) (k : Nat) : (rowsK n d p debt k).length = k := by simp [rowsK]
theorem rowsK_succ (n d p debt : Int) (k : Nat) : rowsK n d p debt (k + 1) = rowsK n d p debt k ++ [rowP n d p (Lf n d p debt k)] := by simp [rowsK, List.range_succ]
/-! ### plan -/
def planF (n d p debt : Int) : Nat → Nat → PyData
  | f, j => if Lf n d p debt j ≤ Lf n d p debt (j + 1) then .tuple [.str "never", .int (Lf n d p debt (j + 1))] else
    if Lf n d p debt (j + 1) = 0 then .tuple [.str "paid", .tuple (rowsK n d p debt (j + 1))] else
    match f with
    | 0 => .tuple [.str "long", .int (Lf n d p debt (j + 1))]
    | f + 1 => planF n d p debt f (j + 1)
theorem planF_def (n d p debt : Int) (f j : Nat) : planF n d p debt f j = if Lf n d p debt j ≤ Lf n d p debt (j + 1) then .tuple [.str "never", .int (Lf n d p debt (j + 1))] else
    if Lf n d p debt (j + 1) = 0 then .tuple [.str "paid", .tuple (rowsK n d p debt (j + 1))] else
    match f with
    | 0 => .tuple [.str "long", .int (Lf n d p debt (j + 1))]
    | f + 1 => planF n d p debt f (j + 1) := by
  cases f <;> rw [planF]
theorem stp_Lf (n d p debt : Int) (j : Nat) : stp n d p (Lf n d p debt j) = Lf n d p debt (j + 1) := rfl
theorem plan_wh (n d p debt : Int) (h : RateOk n d) (hd : 1 ≤ debt) : ∀ (f j : Nat) (c5 : Option PyData), j + f = 999 → 0 < Lf n d p debt j →
    (sWhile (tOf (d2 pGt (dVar 4) (dC (.int 0)))) b_plan_1 [some (.int debt), some (rt n d), some (.int p), some (.list (rowsK n d p debt j)), some (.int (Lf n d p debt j)), c5]).bind t_plan_2_5 = .rt (planF n d p debt f j) := by
  intro f
  induction f with
  | zero =>
    intro j c5 hj hp
    have hr := prow_ev n d (Lf n d p debt j) p h
    unfold rowP at hr
    rw [stp_Lf] at hr
    have nn := Lf_nn (n := n) (d := d) (p := p) (show 0 ≤ debt by omega) (j + 1)
    have hl : (rowsK n d p debt j).length < 16777216 := by rw [rowsK_len]; omega
    have hl2 : ((rowsK n d p debt j).length : Int) + 1 = 1000 := by rw [rowsK_len]; omega
    rw [planF_def, sWhile_turn]
    by_cases c1 : Lf n d p debt j ≤ Lf n d p debt (j + 1)
    · simp [hp, b_plan_1, t_plan_1_1, hr, at3, c1]
    · by_cases c2 : Lf n d p debt (j + 1) = 0
      · have e0 : b_plan_1 [some (.int debt), some (rt n d), some (.int p), some (.list (rowsK n d p debt j)), some (.int (Lf n d p debt j)), c5] =
            .nx [some (.int debt), some (rt n d), some (.int p), some (.list (rowsK n d p debt (j + 1))), some (.int 0), some (rowP n d p (Lf n d p debt j))] := by
          rw [c2] at hr c1
          simp [b_plan_1, t_plan_1_1, t_plan_1_2, t_plan_1_3, t_plan_1_4, k_MOST_PLAN, hr, at3, c1, hl, hl2, rowsK_succ, rowP, stp_Lf, c2]
        simp only [tOf_ev, d2_ev, dVar_ev, dC_ev]
        simp [hp, e0, c1, c2]
        rw [sWhile_turn]
        simp [t_plan_2_5, hp]
      · have c3 : 0 < Lf n d p debt (j + 1) := by omega
        simp [hp, b_plan_1, t_plan_1_1, t_plan_1_2, t_plan_1_3, t_plan_1_4, k_MOST_PLAN, hr, at3, c1, c2, c3, hl, hl2]
  | succ f ih =>
    intro j c5 hj hp
    have hr := prow_ev n d (Lf n d p debt j) p h
    unfold rowP at hr
    rw [stp_Lf] at hr
    have nn := Lf_nn (n := n) (d := d) (p := p) (show 0 ≤ debt by omega) (j + 1)
    have hl : (rowsK n d p debt j).length < 16777216 := by rw [rowsK_len]; omega
    have hl2 : ¬ ((rowsK n d p debt j).length : Int) + 1 = 1000 := by rw [rowsK_len]; omega
    rw [planF_def, sWhile_turn]
    by_cases c1 : Lf n d p debt j ≤ Lf n d p debt (j + 1)
    · simp [hp, b_plan_1, t_plan_1_1, hr, at3, c1]
    · have e0 : b_plan_1 [some (.int debt), some (rt n d), some (.int p), some (.list (rowsK n d p debt j)), some (.int (Lf n d p debt j)), c5] =
          .nx [some (.int debt), some (rt n d), some (.int p), some (.list (rowsK n d p debt (j + 1))), some (.int (Lf n d p debt (j + 1))), some (rowP n d p (Lf n d p debt j))] := by
        simp [b_plan_1, t_plan_1_1, t_plan_1_2, t_plan_1_3, t_plan_1_4, k_MOST_PLAN, hr, at3, c1, hl, hl2, rowsK_succ, rowP, stp_Lf]
      by_cases c2 : Lf n d p debt (j + 1) = 0
      · rw [c2] at e0
        simp only [tOf_ev, d2_ev, dVar_ev, dC_ev]
        simp [hp, e0, c1, c2]
        rw [sWhile_turn]
        simp [t_plan_2_5, hp]
      · rw [if_neg c1, if_neg c2]
        rw [← ih (j + 1) (some (rowP n d p (Lf n d p debt j))) (by omega) (by omega)]
        simp [hp, e0]
theorem plan_ev (n d p debt : Int) (h : RateOk n d) (hd : 1 ≤ debt ∧ debt ≤ 1000000000) (hp : 1 ≤ p ∧ p ≤ 10000000000000000) : den_plan [.int debt, rt n d, .int p] = .ok (planF n d p debt 999 0) := by
  have a1 := is_whole_ev (.int p) 1 10000000000000000
  rw [inB_int hp] at a1
  have hc : den_P_check_payment [.int p] = .ok .none := by simp [den_P_check_payment, runD_ev, body_P_check_payment, k_MOST_PAYMENT, a1]
  have hw := plan_wh n d p debt h hd.1 999 0 none (by omega) (by show 0 < debt; omega)
  have hw : (sWhile (tOf (d2 pGt (dVar 4) (dC (.int 0)))) b_plan_1 [some (.int debt), some (rt n d), some (.int p), some (.list []), some (.int debt), none]).bind t_plan_2_5 = .rt (planF n d p debt 999 0) := hw
  simp [den_plan, runD_ev, body_plan, t_plan_2_1, t_plan_2_2, t_plan_2_3, t_plan_2_4, check_ev debt n d hd h, hc, hw]
theorem lplan_go (n d p debt : Int) (h : RateOk n d) (hd : 1 ≤ debt) : ∀ (f j : Nat) (c5 c6 : Option PyData), j + f = 999 →
    (forGo (gSet 5) b_L_plan_1 ((range2 0 1000).drop j) [some (.int debt), some (rt n d), some (.int p), some (.tuple (rowsK n d p debt j)), some (.int (Lf n d p debt j)), c5, c6]).bind t_L_plan_2_2 = .rt (planF n d p debt f j) := by
  have hx : ∀ j, j < 1000 → (range2 0 1000).drop j = .int (0 + (j : Int)) :: (range2 0 1000).drop (j + 1) := fun j hj => by
    have hlen : j < (range2 0 1000).length := by rw [range2_len]; omega
    rw [List.drop_eq_getElem_cons hlen]
    have := (range2_at (List.getElem?_eq_getElem hlen)).1
    rw [this]
  intro f
  induction f with
  | zero =>
    intro j c5 c6 hj
    have hr := lrow_ev n d (Lf n d p debt j) p h
    unfold rowP at hr
    rw [stp_Lf] at hr
    have hl : (rowsK n d p debt j).length + 1 ≤ 16777216 := by rw [rowsK_len]; omega
    have hadd := pAdd_tup (xs := rowsK n d p debt j) (ys := [rowP n d p (Lf n d p debt j)]) (by simpa using hl)
    rw [← rowsK_succ] at hadd
    have e9 : (range2 0 1000).drop (j + 1) = [] := List.drop_eq_nil_of_le (by rw [range2_len]; omega)
    rw [planF_def, hx j (by omega), e9]
    by_cases c1 : Lf n d p debt j ≤ Lf n d p debt (j + 1)
    · rw [forGo_cons]
      simp [b_L_plan_1, t_L_plan_1_1, hr, at3, c1]
    · unfold rowP at hadd
      rw [stp_Lf] at hadd
      rw [forGo_cons]
      by_cases c2 : Lf n d p debt (j + 1) = 0
      · rw [c2] at hr hadd c1
        simp [b_L_plan_1, t_L_plan_1_1, t_L_plan_1_2, t_L_plan_1_3, hr, at3, c1, c2, hadd]
      · simp [b_L_plan_1, t_L_plan_1_1, t_L_plan_1_2, t_L_plan_1_3, hr, at3, c1, c2, hadd, t_L_plan_2_2]
  | succ f ih =>
    intro j c5 c6 hj
    have hr := lrow_ev n d (Lf n d p debt j) p h
    unfold rowP at hr
    rw [stp_Lf] at hr
    have hl : (rowsK n d p debt j).length + 1 ≤ 16777216 := by rw [rowsK_len]; omega
    have hadd := pAdd_tup (xs := rowsK n d p debt j) (ys := [rowP n d p (Lf n d p debt j)]) (by simpa using hl)
    rw [← rowsK_succ] at hadd
    rw [planF_def, hx j (by omega)]
    unfold rowP at hadd
    rw [stp_Lf] at hadd
    by_cases c1 : Lf n d p debt j ≤ Lf n d p debt (j + 1)
    · rw [forGo_cons]
      simp [b_L_plan_1, t_L_plan_1_1, hr, at3, c1]
    · rw [forGo_cons]
      by_cases c2 : Lf n d p debt (j + 1) = 0
      · rw [c2] at hr hadd c1
        simp [b_L_plan_1, t_L_plan_1_1, t_L_plan_1_2, t_L_plan_1_3, hr, at3, c1, c2, hadd]
      · rw [if_neg c1, if_neg c2]
        rw [← ih (j + 1) (some (.int (0 + (j : Int)))) (some (rowP n d p (Lf n d p debt j))) (by omega)]
        simp [b_L_plan_1, t_L_plan_1_1, t_L_plan_1_2, t_L_plan_1_3, hr, at3, c1, c2, hadd, rowP, stp_Lf]
theorem lplan_ev (n d p debt : Int) (h : RateOk n d) (hd : 1 ≤ debt) : den_L_plan [.int debt, rt n d, .int p] = .ok (planF n d p debt 999 0) := by
  have hw := lplan_go n d p debt h hd 999 0 none none (by omega)
  have hw : (forGo (gSet 5) b_L_plan_1 (range2 0 1000) [some (.int debt), some (rt n d), some (.int p), some (.tuple []), some (.int debt), none, none]).bind t_L_plan_2_2 = .rt (planF n d p debt 999 0) := hw
  simp [den_L_plan, runD_ev, body_L_plan, t_L_plan_2_1, rangeOk, hw]
def PSpec (n d p debt : Int) (r : PyData) : Prop := (∃ x : Int, r = .tuple [.str "never", .int x] ∧ ∀ i, 0 < Lf n d p debt i) ∨ (∃ x : Int, r = .tuple [.str "long", .int x] ∧ ∀ i, i ≤ 1000 → 0 < Lf n d p debt i) ∨
  (∃ k, 1 ≤ k ∧ k ≤ 1000 ∧ r = .tuple [.str "paid", .tuple (rowsK n d p debt k)] ∧ Lf n d p debt k = 0 ∧ ∀ i, i < k → 0 < Lf n d p debt i)
theorem planF_spec (n d p debt : Int) (h : RateOk n d) (hd : 1 ≤ debt) : ∀ (f j : Nat), j + f = 999 → (∀ i, i ≤ j → 0 < Lf n d p debt i) → PSpec n d p debt (planF n d p debt f j) := by
  intro f
  induction f with
  | zero =>
    intro j hj hpos
    have nn := Lf_nn (n := n) (d := d) (p := p) (show 0 ≤ debt by omega) (j + 1)
    rw [planF_def]
    by_cases c1 : Lf n d p debt j ≤ Lf n d p debt (j + 1)
    · rw [if_pos c1]
      refine .inl ⟨_, rfl, fun i => ?_⟩
      by_cases hi : i ≤ j
      · exact hpos i hi
      · have := Lf_never h.2.2.1 h.1 (hpos j (Nat.le_refl j)) c1 (i - j)
        rw [← Lf_add, show j + (i - j) = i by omega] at this
        have := hpos j (Nat.le_refl j)
        omega
    · rw [if_neg c1]
      by_cases c2 : Lf n d p debt (j + 1) = 0
      · rw [if_pos c2]
        exact .inr (.inr ⟨j + 1, by omega, by omega, rfl, c2, fun i hi => hpos i (by omega)⟩)
      · rw [if_neg c2]
        refine .inr (.inl ⟨_, rfl, fun i hi => ?_⟩)
        by_cases q : i ≤ j
        · exact hpos i q
        · obtain rfl : i = j + 1 := by omega
          omega
  | succ f ih =>
    intro j hj hpos
    have nn := Lf_nn (n := n) (d := d) (p := p) (show 0 ≤ debt by omega) (j + 1)
    rw [planF_def]
    by_cases c1 : Lf n d p debt j ≤ Lf n d p debt (j + 1)
    · rw [if_pos c1]
      refine .inl ⟨_, rfl, fun i => ?_⟩
      by_cases hi : i ≤ j
      · exact hpos i hi
      · have := Lf_never h.2.2.1 h.1 (hpos j (Nat.le_refl j)) c1 (i - j)
        rw [← Lf_add, show j + (i - j) = i by omega] at this
        have := hpos j (Nat.le_refl j)
        omega
    · rw [if_neg c1]
      by_cases c2 : Lf n d p debt (j + 1) = 0
      · rw [if_pos c2]
        exact .inr (.inr ⟨j + 1, by omega, by omega, rfl, c2, fun i hi => hpos i (by omega)⟩)
      · rw [if_neg c2]
        refine ih (j + 1) (by omega) fun i hi => ?_
        by_cases q : i ≤ j
        · exact hpos i q
        · obtain rfl : i = j + 1 := by omega
          omega
theorem plan_spec (n d p debt : Int) (h : RateOk n d) (hd : 1 ≤ debt) : PSpec n d p debt (planF n d p debt 999 0) :=
  planF_spec n d p debt h hd 999 0 (by omega) fun i hi => by
    obtain rfl : i = 0 := by omega
    show 0 < debt
    omega
/-! ### rows that are told -/
def isI : PyData → Bool
  | .int _ => true
  | _ => false
def isRow : PyData → Bool
  | .tuple xs => decide (xs.length = 3) && xs.all isI
  | _ => false
theorem isI_ev (y : PyData) : (isTy y .int && !isTy y .bool) = isI y := by cases y <;> rfl
/-- the rows one by one -/
def walkF (n d p : Int) : List PyData → Nat → Int → PyData
  | [], k, l => if l = 0 then .none else .tuple [.str "row", .int k]
  | r :: rs, k, l => if l = 0 ∨ PyData.eqv r (rowP n d p l) = false then .tuple [.str "row", .int k] else walkF n d p rs (k + 1) (stp n d p l)
def faultF (n d p debt : Int) (v : PyData) : PyData :=
  match v with
  | .tuple xs => if xs.all isRow = true then walkF n d p xs 0 debt else .tuple [.str "form"]
  | _ => .tuple [.str "form"]
theorem plain_row (n d p l : Int) : plainN 2 (rowP n d p l) := plain_tup fun x hx => by
  simp at hx
  rcases hx with rfl | rfl | rfl <;> exact plain_int 0 _
theorem noB_row (n d p l : Int) : noB (rowP n d p l) = true := by simp [rowP]
theorem isRow_some {x : PyData} (h : isRow x = true) : ∃ a b c : Int, x = .tuple [.int a, .int b, .int c] := by
  cases x with
  | tuple xs =>
    simp only [isRow, Bool.and_eq_true, decide_eq_true_eq] at h
    obtain ⟨h1, h2⟩ := h
    match xs, h1 with
    | [a, b, c], _ =>
      simp at h2
      cases a <;> cases b <;> cases c <;> simp_all [isI]
  | _ => simp [isRow] at h
theorem isRow_row (n d p l : Int) : isRow (rowP n d p l) = true := by simp [isRow, rowP, isI]
theorem row_eqv {n d p l : Int} {x : PyData} (h : isRow x = true) : PyData.eqv x (rowP n d p l) = true ↔ x = rowP n d p l := by
  obtain ⟨a, b, c, rfl⟩ := isRow_some h
  constructor
  · exact eq_of_eqv _ _ (by simp) (noB_row _ _ _ _)
  · intro e
    rw [e]
    exact eqv_self _ (noB_row _ _ _ _)
theorem areRows_ev (v : PyData) (hv : ∀ xs, v = .tuple xs → xs.length ≤ 5000) : den_P_are_rows [v] = .ok (.bool (match v with | .tuple xs => xs.all isRow | _ => false)) := by
  cases v with
  | tuple xs =>
    have hl := hv xs rfl
    have l1 : lcGo (gSet 1) tYes c_P_are_rows_1 [some (.tuple xs), none, none] xs = .ok ((xs.map fun x => match x with | .tuple ys => decide (ys.length = 3) | _ => false).map PyData.bool) := by
      rw [List.map_map]
      refine lcGo_mapP _ xs fun x hx => ⟨_, rfl, rfl, ?_⟩
      cases x <;> simp [c_P_are_rows_1, isTy]
      rename_i ys
      by_cases c : ys.length = 3
      · simp [c]
      · have : ¬ (ys.length : Int) = 3 := by omega
        simp [c, this]
    by_cases c1 : ((xs.map fun x => match x with | .tuple ys => decide (ys.length = 3) | _ => false).all id) = true
    · have hall : ∀ x ∈ xs, ∃ ys : List PyData, x = .tuple ys ∧ ys.length = 3 := fun x hx => by
        have := List.all_eq_true.mp c1 _ (List.mem_map_of_mem hx)
        cases x <;> simp at this
        exact ⟨_, rfl, this⟩
      have l2 : lc2Go (gSet 1) tYes (lSeq (dVar 1)) [2] (gSet 2) tYes c_P_are_rows_2 [some (.tuple xs), none, none] xs = .ok ((xs.map fun x => (match x with | .tuple ys => ys | _ => []).map isI).flatten.map PyData.bool) := by
        have := lc2Go_map (g := gSet 1) (t := tYes) (l1 := lSeq (dVar 1)) (us1 := [2]) (g1 := gSet 2) (t1 := tYes) (a := c_P_are_rows_2) (e := [some (.tuple xs), none, none]) id (fun x => match x with | .tuple ys => ys | _ => []) (fun _ y => PyData.bool (isI y)) xs fun x hx => by
          obtain ⟨ys, rfl, hy⟩ := hall x hx
          refine ⟨_, rfl, rfl, by simp, fun y hy => ⟨_, rfl, rfl, ?_⟩⟩
          rw [← isI_ev]
          cases y <;> simp [c_P_are_rows_2, isTy, wipeL]
        rw [List.map_id] at this
        rw [this]
        congr 1
        rw [List.map_flatten, List.map_map]
        congr 1
        refine List.map_congr_left fun x hx => ?_
        simp [List.map_map, Function.comp_def]
      have hlen : ((xs.map fun x => (match x with | .tuple ys => ys | _ => []).map isI).flatten).length ≤ 16777216 := by
        have : ∀ (zs : List PyData), (∀ x ∈ zs, ∃ ys : List PyData, x = .tuple ys ∧ ys.length = 3) → ((zs.map fun x => (match x with | .tuple ys => ys | _ => []).map isI).flatten).length = 3 * zs.length := by
          intro zs
          induction zs with
          | nil => intro _; rfl
          | cons z zs ih =>
            intro hz
            obtain ⟨ys, rfl, hy⟩ := hz z List.mem_cons_self
            have := ih fun x hx => hz x (List.mem_cons_of_mem _ hx)
            simp only [List.map_cons, List.flatten_cons, List.length_append, this, List.length_map, hy, List.length_cons]
            omega
        rw [this xs hall]
        omega
      have hres : ((xs.map fun x => (match x with | .tuple ys => ys | _ => []).map isI).flatten).all id = xs.all isRow := by
        have : ∀ (zs : List PyData), (∀ x ∈ zs, ∃ ys : List PyData, x = .tuple ys ∧ ys.length = 3) → ((zs.map fun x => (match x with | .tuple ys => ys | _ => []).map isI).flatten).all id = zs.all isRow := by
          intro zs
          induction zs with
          | nil => intro _; rfl
          | cons z zs ih =>
            intro hz
            obtain ⟨ys, rfl, hy⟩ := hz z List.mem_cons_self
            have := ih fun x hx => hz x (List.mem_cons_of_mem _ hx)
            simp only [List.map_cons, List.flatten_cons, List.all_append, this, List.all_cons, isRow, hy, decide_true, Bool.true_and]
            congr 1
            simp [List.all_map, Function.comp_def]
        exact this xs hall
      simp only [den_P_are_rows, runD_ev, body_P_are_rows, t_P_are_rows_1_1, List.map_cons, List.map_nil, List.cons_append, List.nil_append, List.length_cons, List.length_nil]
      generalize (xs.map fun x => (match x with | .tuple ys => ys | _ => []).map isI).flatten = bs at l2 hlen hres
      simp [isTy, wipeL, l1, l2, pAll_lst, -List.map_map, c1, hres, hlen]
    · have c2 : ((xs.map fun x => match x with | .tuple ys => decide (ys.length = 3) | _ => false).all id) = false := by simpa using c1
      have hres : xs.all isRow = false := by
        rw [Bool.eq_false_iff]
        intro hz
        apply c1
        rw [List.all_eq_true]
        intro b hb
        obtain ⟨x, hx, rfl⟩ := List.mem_map.mp hb
        obtain ⟨a, b, c, rfl⟩ := isRow_some (List.all_eq_true.mp hz x hx)
        rfl
      simp only [den_P_are_rows, runD_ev, body_P_are_rows, t_P_are_rows_1_1, List.map_cons, List.map_nil, List.cons_append, List.nil_append, List.length_cons, List.length_nil]
      simp [isTy, wipeL, l1, pAll_lst, -List.map_map, c2, hres]
  | _ => simp [den_P_are_rows, runD_ev, body_P_are_rows, isTy]
theorem row_plain {x : PyData} (h : isRow x = true) : plainN 2 x := by
  obtain ⟨a, b, c, rfl⟩ := isRow_some h
  exact plain_tup fun x hx => by
    simp at hx
    rcases hx with rfl | rfl | rfl <;> exact plain_int 0 _
theorem row_at2 {n d p l : Int} : pIx (rowP n d p l) (.int 2) = some (.int (stp n d p l)) := rfl
theorem pf_go (n d p debt : Int) (h : RateOk n d) (all : List PyData) : ∀ (xs : List PyData) (k : Nat) (l : Int) (c5 c6 : Option PyData), xs.all isRow = true → all.length = k + xs.length →
    (forGo (gTup [gSet 5, gSet 6]) b_plan_fault_1 ((xs.zipIdx k).map fun q => PyData.tuple [.int (q.2 : Nat), q.1]) [some (.int debt), some (rt n d), some (.int p), some (.tuple all), some (.int l), c5, c6]).bind t_plan_fault_2_5 = .rt (walkF n d p xs k l) := by
  intro xs
  induction xs with
  | nil =>
    intro k l c5 c6 _ hl
    simp only [List.length_nil, Nat.add_zero] at hl
    by_cases c : l = 0
    · simp [walkF, t_plan_fault_2_5, c]
    · simp [walkF, t_plan_fault_2_5, c, hl]
  | cons x xs ih =>
    intro k l c5 c6 hx hl
    simp only [List.all_cons, Bool.and_eq_true] at hx
    have hr := prow_ev n d l p h
    have hne := pNe_sh ((row_plain hx.1).sh (by omega)) ((plain_row n d p l).sh (by omega))
    rw [List.zipIdx_cons, List.map_cons, forGo_cons]
    by_cases c : l = 0
    · simp [b_plan_fault_1, c, walkF]
    · by_cases ce : PyData.eqv x (rowP n d p l) = true
      · have ex := (row_eqv hx.1).mp ce
        subst ex
        have := ih (k + 1) (stp n d p l) (some (.int (k : Nat))) (some (rowP n d p l)) hx.2 (by rw [hl, List.length_cons]; omega)
        unfold walkF
        simp only [c, ce, false_or, Bool.true_eq_false, if_false]
        rw [← this]
        simp [b_plan_fault_1, c, hr, hne, ce, t_plan_fault_1_1, row_at2]
      · have ce : PyData.eqv x (rowP n d p l) = false := by simpa using ce
        simp [b_plan_fault_1, c, walkF, hr, hne, ce]
theorem fault_ev (n d p debt : Int) (h : RateOk n d) (hd : 1 ≤ debt ∧ debt ≤ 1000000000) (hp : 1 ≤ p ∧ p ≤ 10000000000000000) (v : PyData) (hv : ∀ xs, v = .tuple xs → xs.length ≤ 5000) : den_plan_fault [.int debt, rt n d, .int p, v] = .ok (faultF n d p debt v) := by
  have a1 := is_whole_ev (.int p) 1 10000000000000000
  rw [inB_int hp] at a1
  have hc : den_P_check_payment [.int p] = .ok .none := by simp [den_P_check_payment, runD_ev, body_P_check_payment, k_MOST_PAYMENT, a1]
  have har := areRows_ev v hv
  cases v with
  | tuple xs =>
    by_cases c : xs.all isRow = true
    · have hg := pf_go n d p debt h xs xs 0 debt none none c (by simp)
      have hg : (forGo (gTup [gSet 5, gSet 6]) b_plan_fault_1 (enumD xs) [some (.int debt), some (rt n d), some (.int p), some (.tuple xs), some (.int debt), none, none]).bind t_plan_fault_2_5 = .rt (walkF n d p xs 0 debt) := hg
      simp only [c] at har
      simp [den_plan_fault, runD_ev, body_plan_fault, t_plan_fault_2_1, t_plan_fault_2_2, t_plan_fault_2_3, t_plan_fault_2_4, check_ev debt n d hd h, hc, har, hg, faultF, c]
    · have c : xs.all isRow = false := by simpa using c
      simp only [c] at har
      simp [den_plan_fault, runD_ev, body_plan_fault, t_plan_fault_2_1, t_plan_fault_2_2, k_FORM, check_ev debt n d hd h, hc, har, faultF, c]
  | _ => simp [den_plan_fault, runD_ev, body_plan_fault, t_plan_fault_2_1, t_plan_fault_2_2, k_FORM, check_ev debt n d hd h, hc, har, faultF]
/-! ### the law's look at them -/
theorem due_form (debt rt p xs c5 c6 c7 : Option PyData) : ∀ (ys : List PyData) (c4 : Option PyData),
    (ys.all isRow = true → ∃ c4', forGo (gSet 4) b_L_due_2 ys [debt, rt, p, xs, c4, c5, c6, c7] = .nx [debt, rt, p, xs, c4', c5, c6, c7]) ∧
    (ys.all isRow = false → forGo (gSet 4) b_L_due_2 ys [debt, rt, p, xs, c4, c5, c6, c7] = .rt (.tuple [.str "form"]))
  | [], c4 => ⟨fun _ => ⟨c4, rfl⟩, fun h => by simp at h⟩
  | y :: ys, c4 => by
    have ih := due_form debt rt p xs c5 c6 c7 ys (some y)
    have hb : b_L_due_2 [debt, rt, p, xs, some y, c5, c6, c7] = if isRow y = true then .nx [debt, rt, p, xs, some y, c5, c6, c7] else .rt (.tuple [.str "form"]) := by
      cases y with
      | tuple zs =>
        have l1 : lcGo (gSet 7) tYes c_L_due_1 (wipeL [debt, rt, p, xs, some (.tuple zs), c5, c6, c7] [7]) zs = .ok ((zs.map isI).map PyData.bool) := by
          rw [List.map_map]
          refine lcGo_mapP _ zs fun x hx => ⟨_, rfl, rfl, ?_⟩
          show _ = Rs.ok (PyData.bool (isI x))
          rw [← isI_ev]
          cases x <;> simp [c_L_due_1, isTy, wipeL]
        have e1 : (zs.map isI).all id = zs.all isI := by simp [List.all_map, Function.comp_def]
        by_cases c1 : zs.length = 3
        · have c1' : (zs.length : Int) = 3 := by omega
          cases c2 : zs.all isI with
          | true => simp [b_L_due_2, isTy, c1', l1, -List.map_map, e1, c2, isRow, c1]
          | false => simp [b_L_due_2, isTy, c1', l1, -List.map_map, e1, c2, isRow, c1]
        · have c1' : ¬ (zs.length : Int) = 3 := by omega
          simp [b_L_due_2, isTy, c1', isRow, c1]
      | _ => simp [b_L_due_2, isTy, isRow]
    by_cases c : isRow y = true
    · rw [if_pos c] at hb
      constructor
      · intro h
        simp only [List.all_cons, c, Bool.true_and] at h
        obtain ⟨c4', h4⟩ := ih.1 h
        exact ⟨c4', by rw [forGo_nx (e1 := [debt, rt, p, xs, some y, c5, c6, c7]) rfl hb]; exact h4⟩
      · intro h
        simp only [List.all_cons, c, Bool.true_and] at h
        rw [forGo_nx (e1 := [debt, rt, p, xs, some y, c5, c6, c7]) rfl hb]
        exact ih.2 h
    · rw [if_neg c] at hb
      constructor
      · intro h
        simp only [List.all_cons, Bool.and_eq_true] at h
        exact absurd h.1 c
      · intro _
        exact forGo_rt (e1 := [debt, rt, p, xs, some y, c5, c6, c7]) rfl hb
theorem due_go (n d p debt : Int) (h : RateOk n d) (all : List PyData) : ∀ (xs : List PyData) (k : Nat) (l : Int) (c4 c6 c7 : Option PyData), xs.all isRow = true → all.drop k = xs → k ≤ all.length → 0 ≤ l →
    (forGo (gSet 6) b_L_due_3 ((range2 0 all.length).drop k) [some (.int debt), some (rt n d), some (.int p), some (.tuple all), c4, some (.int l), c6, c7]).bind t_L_due_2_4 = .rt (walkF n d p xs k l) := by
  intro xs
  induction xs with
  | nil =>
    intro k l c4 c6 c7 _ hd hk hl
    have hk2 : all.length = k := by
      have := congrArg List.length hd
      rw [List.length_drop, List.length_nil] at this
      omega
    have e9 : (range2 0 (all.length : Int)).drop k = [] := List.drop_eq_nil_of_le (by rw [range2_len]; omega)
    rw [e9]
    by_cases c : l = 0
    · simp [walkF, t_L_due_2_4, c]
    · have c' : 0 < l := by omega
      simp [walkF, t_L_due_2_4, c, c', hk2]
  | cons x xs ih =>
    intro k l c4 c6 c7 hx hd hk hl
    simp only [List.all_cons, Bool.and_eq_true] at hx
    have hkl : k < all.length := by
      have := congrArg List.length hd
      rw [List.length_drop, List.length_cons] at this
      omega
    rw [List.drop_eq_getElem_cons hkl] at hd
    have hxk := (List.cons.inj hd).1
    have hd2 := (List.cons.inj hd).2
    have hlen : k < (range2 0 (all.length : Int)).length := by rw [range2_len]; omega
    have hxx := (range2_at (List.getElem?_eq_getElem hlen)).1
    have hat : L2.atI all (0 + (k : Int)) = some x := by
      rw [atI_nn (by omega) (by omega), show (0 + (k : Int)).toNat = k by omega, List.getElem?_eq_getElem hkl, hxk]
    have hr := lrow_ev n d l p h
    have hne := pNe_sh ((row_plain hx.1).sh (by omega)) ((plain_row n d p l).sh (by omega))
    rw [List.drop_eq_getElem_cons hlen, hxx, forGo_cons]
    rw [Int.zero_add] at hat ⊢
    by_cases c : l = 0
    · simp [b_L_due_3, c, walkF]
    · by_cases ce : PyData.eqv x (rowP n d p l) = true
      · have ex := (row_eqv hx.1).mp ce
        subst ex
        have := ih (k + 1) (stp n d p l) c4 (some (.int (k : Nat))) c7 hx.2 hd2 (by omega) (stp_nn _ _ _ _)
        unfold walkF
        simp only [c, ce, false_or, Bool.true_eq_false, if_false]
        rw [← this]
        simp [b_L_due_3, c, hr, hat, hne, ce, t_L_due_1_1, row_at2]
      · have ce : PyData.eqv x (rowP n d p l) = false := by simpa using ce
        simp [b_L_due_3, c, walkF, hr, hat, hne, ce]
theorem due_ev (n d p debt : Int) (h : RateOk n d) (hd : 1 ≤ debt ∧ debt ≤ 1000000000) (v : PyData) (hv : ∀ xs, v = .tuple xs → xs.length ≤ 5000) : den_L_due [.int debt, rt n d, .int p, v] = .ok (faultF n d p debt v) := by
  cases v with
  | tuple xs =>
    have hl := hv xs rfl
    have hf := due_form (some (.int debt)) (some (rt n d)) (some (.int p)) (some (.tuple xs)) none none none xs none
    by_cases c : xs.all isRow = true
    · obtain ⟨c4, h4⟩ := hf.1 c
      have hg := due_go n d p debt h xs xs 0 debt c4 none none c rfl (by omega) (by omega)
      rw [List.drop_zero] at hg
      have hr : rangeOk 0 (xs.length : Int) = true := by simp [rangeOk]; omega
      simp [den_L_due, runD_ev, body_L_due, t_L_due_2_1, t_L_due_2_2, t_L_due_2_3, isTy, h4, hr, hg, faultF, c]
    · have c : xs.all isRow = false := by simpa using c
      have h4 := hf.2 c
      simp [den_L_due, runD_ev, body_L_due, t_L_due_2_1, isTy, h4, faultF, c]
  | _ => simp [den_L_due, runD_ev, body_L_due, isTy, faultF]
/-! ### what the looks tell -/
theorem plain_str (w : Str) (hw : (PyData.str w).canLay0 = true) (n : Nat) : plainN (n + 1) (.str w) := ⟨hw, by simp [PyData.depth]⟩
theorem walk_res (n d p : Int) : ∀ (xs : List PyData) (k : Nat) (l : Int), noB (walkF n d p xs k l) = true ∧ plainN 2 (walkF n d p xs k l)
  | [], k, l => by
    unfold walkF
    split
    · exact ⟨by simp, plain_none 1⟩
    · refine ⟨by simp, plain_tup fun x hx => ?_⟩
      simp at hx
      rcases hx with rfl | rfl
      · exact plain_str _ (by rw [PyData.canLay0]; decide +kernel) 0
      · exact plain_int 0 _
  | r :: rs, k, l => by
    unfold walkF
    split
    · refine ⟨by simp, plain_tup fun x hx => ?_⟩
      simp at hx
      rcases hx with rfl | rfl
      · exact plain_str _ (by rw [PyData.canLay0]; decide +kernel) 0
      · exact plain_int 0 _
    · exact walk_res n d p rs (k + 1) _
theorem fault_res (n d p debt : Int) (v : PyData) : noB (faultF n d p debt v) = true ∧ plainN 2 (faultF n d p debt v) := by
  have hform : noB (.tuple [.str "form"]) = true ∧ plainN 2 (.tuple [.str "form"]) := ⟨by simp, plain_tup fun x hx => by
    simp at hx
    subst hx
    exact plain_str _ (by rw [PyData.canLay0]; decide +kernel) 0⟩
  cases v with
  | tuple xs =>
    show noB (if xs.all isRow = true then walkF n d p xs 0 debt else .tuple [.str "form"]) = true ∧ plainN 2 (if xs.all isRow = true then walkF n d p xs 0 debt else .tuple [.str "form"])
    split
    · exact walk_res n d p xs 0 debt
    · exact hform
  | _ => exact hform
theorem walk_none (n d p debt : Int) : ∀ (xs : List PyData) (j k : Nat), xs.all isRow = true → walkF n d p xs k (Lf n d p debt j) = .none →
    xs = (List.range' j xs.length).map (fun i => rowP n d p (Lf n d p debt i)) ∧ Lf n d p debt (j + xs.length) = 0 ∧ ∀ i, j ≤ i → i < j + xs.length → Lf n d p debt i ≠ 0
  | [], j, k, _, h => by
    unfold walkF at h
    by_cases c : Lf n d p debt j = 0
    · exact ⟨rfl, c, fun i h1 h2 => by simp at h2; omega⟩
    · rw [if_neg c] at h; cases h
  | x :: xs, j, k, hx, h => by
    simp only [List.all_cons, Bool.and_eq_true] at hx
    unfold walkF at h
    by_cases c : Lf n d p debt j = 0 ∨ PyData.eqv x (rowP n d p (Lf n d p debt j)) = false
    · rw [if_pos c] at h; cases h
    · rw [if_neg c] at h
      have c1 : Lf n d p debt j ≠ 0 := fun z => c (.inl z)
      have c2 : PyData.eqv x (rowP n d p (Lf n d p debt j)) = true := by
        cases hz : PyData.eqv x (rowP n d p (Lf n d p debt j)) with
        | true => rfl
        | false => exact absurd (.inr hz) c
      obtain ⟨h1, h2, h3⟩ := walk_none n d p debt xs (j + 1) (k + 1) hx.2 h
      refine ⟨?_, ?_, fun i h4 h5 => ?_⟩
      · rw [List.length_cons, List.range'_succ, List.map_cons, ← h1, (row_eqv hx.1).mp c2]
      · rw [List.length_cons, show j + (xs.length + 1) = j + 1 + xs.length by omega]; exact h2
      · by_cases q : i = j
        · subst q; exact c1
        · exact h3 i (by omega) (by rw [List.length_cons] at h5; omega)
theorem fault_none {n d p debt : Int} {v : PyData} (h : faultF n d p debt v = .none) : ∃ m, v = .tuple (rowsK n d p debt m) ∧ Lf n d p debt m = 0 ∧ ∀ i, i < m → Lf n d p debt i ≠ 0 := by
  unfold faultF at h
  cases v with
  | tuple xs =>
    have h : (if xs.all isRow = true then walkF n d p xs 0 debt else .tuple [.str "form"]) = PyData.none := h
    by_cases c : xs.all isRow = true
    · rw [if_pos c] at h
      obtain ⟨h1, h2, h3⟩ := walk_none n d p debt xs 0 0 c h
      refine ⟨xs.length, ?_, by simpa using h2, fun i hi => h3 i (by omega) (by omega)⟩
      congr 1
      unfold rowsK
      rw [List.range_eq_range']
      exact h1
    · rw [if_neg c] at h; cases h
  | _ => cases h
theorem walk_good (n d p debt : Int) : ∀ (m j k : Nat), Lf n d p debt (j + m) = 0 → (∀ i, j ≤ i → i < j + m → 0 < Lf n d p debt i) → walkF n d p ((List.range' j m).map fun i => rowP n d p (Lf n d p debt i)) k (Lf n d p debt j) = .none
  | 0, j, k, h, _ => by
    unfold walkF
    exact if_pos h
  | m + 1, j, k, h, hp => by
    rw [List.range'_succ, List.map_cons]
    unfold walkF
    have h1 := hp j (Nat.le_refl j) (by omega)
    have h2 : PyData.eqv (rowP n d p (Lf n d p debt j)) (rowP n d p (Lf n d p debt j)) = true := eqv_self _ (noB_row _ _ _ _)
    rw [if_neg (by rw [h2]; simp; omega)]
    exact walk_good n d p debt m (j + 1) (k + 1) (by rw [show j + 1 + m = j + (m + 1) by omega]; exact h) fun i h3 h4 => hp i (by omega) (by omega)
theorem fault_good {n d p debt : Int} {m : Nat} (h : Lf n d p debt m = 0) (hp : ∀ i, i < m → 0 < Lf n d p debt i) : faultF n d p debt (.tuple (rowsK n d p debt m)) = .none := by
  have hall : (rowsK n d p debt m).all isRow = true := by
    rw [List.all_eq_true]
    intro x hx
    obtain ⟨i, _, rfl⟩ := List.mem_map.mp hx
    exact isRow_row _ _ _ _
  show (if (rowsK n d p debt m).all isRow = true then walkF n d p (rowsK n d p debt m) 0 debt else _) = _
  rw [if_pos hall]
  unfold rowsK
  rw [List.range_eq_range']
  exact walk_good n d p debt m 0 0 (by simpa using h) fun i _ hi => hp i (by omega)
theorem plain_rows (n d p debt : Int) (m : Nat) : plainN 3 (.tuple (rowsK n d p debt m)) := plain_tup fun x hx => by
  obtain ⟨i, _, rfl⟩ := List.mem_map.mp hx
  exact plain_row _ _ _ _
theorem noB_rows (n d p debt : Int) (m : Nat) : noB (.tuple (rowsK n d p debt m)) = true := by
  rw [noB_tup]
  exact noBs_iff.mpr fun x hx => by
    obtain ⟨i, _, rfl⟩ := List.mem_map.mp hx
    exact noB_row _ _ _ _
theorem told_plain {n d p debt : Int} {r : PyData} (h : PSpec n d p debt r) : noB r = true ∧ plainN 4 r := by
  rcases h with ⟨x, rfl, _⟩ | ⟨x, rfl, _⟩ | ⟨k, _, _, rfl, _⟩
  · refine ⟨by simp, plain_tup fun x hx => ?_⟩
    simp at hx
    rcases hx with rfl | rfl
    · exact plain_str _ (by rw [PyData.canLay0]; decide +kernel) 2
    · exact plain_int 2 _
  · refine ⟨by simp, plain_tup fun x hx => ?_⟩
    simp at hx
    rcases hx with rfl | rfl
    · exact plain_str _ (by rw [PyData.canLay0]; decide +kernel) 2
    · exact plain_int 2 _
  · refine ⟨?_, plain_tup fun x hx => ?_⟩
    · rw [noB_tup, noBs_cons, noBs_cons, noB_rows]
      simp
    · simp at hx
      rcases hx with rfl | rfl
      · exact plain_str _ (by rw [PyData.canLay0]; decide +kernel) 2
      · exact plain_rows _ _ _ _ _
/-! ### the law, statement by statement -/
/-- a value that is told: if a tuple, then not too long -/
def VOk (K : Nat) (v : PyData) : Prop := ∀ xs, v = .tuple xs → xs.length ≤ K
/-- how long the values may be -/
def KOk (n d p debt : Int) (r : PyData) (K : Nat) : Prop := K ≤ 5000 ∧ ((∃ k, r = .tuple [.str "paid", .tuple (rowsK n d p debt k)] ∧ Lf n d p debt k = 0 ∧ ∀ i, i < k → 0 < Lf n d p debt i) ∨ ((∀ i, i ≤ 1000 → 0 < Lf n d p debt i) ∧ K ≤ 1000))
theorem stepV (s ds tu : PyData) (n d debt p : Int) (r : PyData) (K : Nat) (h : RateOk n d) (hd : 1 ≤ debt ∧ debt ≤ 1000000000) (hp : 1 ≤ p ∧ p ≤ 10000000000000000) (hs : PSpec n d p debt r) (hK : KOk n d p debt r K) (v : PyData) (hv : VOk K v) (c5 c9 c10 c11 c12 c13 c15 c16 c17 c18 c19 c20 : Option PyData) :
    b_law_6 [some s, some ds, some tu, some (.int debt), some (rt n d), c5, some (.int p), some r, some r, c9, c10, c11, c12, c13, some v, c15, c16, c17, c18, c19, c20] = .nx [some s, some ds, some tu, some (.int debt), some (rt n d), c5, some (.int p), some r, some r, c9, c10, c11, c12, c13, some v, some (faultF n d p debt v), some (faultF n d p debt v), c17, c18, c19, c20] := by
  have hv5 : ∀ xs, v = .tuple xs → xs.length ≤ 5000 := fun xs e => Nat.le_trans (hv xs e) hK.1
  have e1 := due_ev n d p debt h hd v hv5
  have e2 := fault_ev n d p debt h hd hp v hv5
  have hfr := fault_res n d p debt v
  have hne : pNe (faultF n d p debt v) (faultF n d p debt v) = some (.bool false) := by
    rw [pNe_sh (hfr.2.sh (by omega)) (hfr.2.sh (by omega)), eqv_self _ hfr.1]
    rfl
  by_cases hn : faultF n d p debt v = .none
  · obtain ⟨m, rfl, h0, hi⟩ := fault_none hn
    have hm := hv _ rfl
    rw [rowsK_len] at hm
    have ht : r = .tuple [.str "paid", .tuple (rowsK n d p debt m)] := by
      rcases hK.2 with ⟨k, hr, hk0, hki⟩ | ⟨hall, hK2⟩
      · have : m = k := by
          rcases Nat.lt_trichotomy m k with q | q | q
          · have := hki m q; omega
          · exact q
          · exact absurd hk0 (hi k q)
        subst this
        exact hr
      · have := hall m (by omega)
        omega
    have hsp := told_plain hs
    have hne2 : pNe r r = some (.bool false) := by
      rw [pNe_sh (hsp.2.sh (by omega)) (hsp.2.sh (by omega)), eqv_self _ hsp.1]
      rfl
    rw [hn] at e1 e2 hne ⊢
    simp [b_law_6, t_law_1_1, e1, e2, hne, isNone, ← ht, hne2]
  · have : isNone (faultF n d p debt v) = false := by
      cases hz : faultF n d p debt v <;> simp_all [isNone]
    simp [b_law_6, t_law_1_1, e1, e2, hne, this]
theorem loopV (s ds tu : PyData) (n d debt p : Int) (r : PyData) (K : Nat) (h : RateOk n d) (hd : 1 ≤ debt ∧ debt ≤ 1000000000) (hp : 1 ≤ p ∧ p ≤ 10000000000000000) (hs : PSpec n d p debt r) (hK : KOk n d p debt r K) (vs : List PyData) (hv : ∀ v ∈ vs, VOk K v) (c5 c9 c10 c12 c13 c14 c15 c16 c17 c18 c19 c20 : Option PyData) :
    ∃ c14' c15' c16', t_law_2_8 [some s, some ds, some tu, some (.int debt), some (rt n d), c5, some (.int p), some r, some r, c9, c10, some (.list vs), c12, c13, c14, c15, c16, c17, c18, c19, c20] = .nx [some s, some ds, some tu, some (.int debt), some (rt n d), c5, some (.int p), some r, some r, c9, c10, some (.list vs), c12, c13, c14', c15', c16', c17, c18, c19, c20] := by
  obtain ⟨e', h1, c14', c15', c16', rfl⟩ := forGo_inv (g := gSet 14) (b := b_law_6) (fun k e => ∃ c14 c15 c16, e = [some s, some ds, some tu, some (.int debt), some (rt n d), c5, some (.int p), some r, some r, c9, c10, some (.list vs), c12, c13, c14, c15, c16, c17, c18, c19, c20])
    vs 0 [some s, some ds, some tu, some (.int debt), some (rt n d), c5, some (.int p), some r, some r, c9, c10, some (.list vs), c12, c13, c14, c15, c16, c17, c18, c19, c20] ⟨c14, c15, c16, rfl⟩ (by
      rintro k x e hx ⟨c14, c15, c16, rfl⟩
      exact ⟨_, _, rfl, stepV s ds tu n d debt p r K h hd hp hs hK x (hv x (List.mem_of_getElem? hx)) c5 c9 c10 _ c12 c13 c15 c16 c17 c18 c19 c20, _, _, _, rfl⟩)
  exact ⟨c14', c15', c16', by simp [t_law_2_8, h1]⟩
theorem cut_le (xs : List PyData) (l h : Option Int) : (cutD xs l h).length ≤ xs.length := by
  unfold cutD
  rw [List.length_take, List.length_drop]
  omega
theorem cut_drop {xs : List PyData} {n : Int} (h : 0 ≤ n) : cutD xs (some n) none = xs.drop n.toNat := by
  unfold cutD
  have e1 : HT.sIx xs.length 0 (some n) = min n.toNat xs.length := by
    show (if n < 0 then (n + (xs.length : Int)).toNat else min n.toNat xs.length) = _
    rw [if_neg (by omega)]
  have e2 : HT.sIx xs.length xs.length none = xs.length := rfl
  rw [e1, e2, List.take_of_length_le (by rw [List.length_drop]; exact Nat.le_refl _)]
  rcases Nat.le_total n.toNat xs.length with q | q
  · rw [Nat.min_eq_left q]
  · rw [Nat.min_eq_right q, List.drop_eq_nil_of_le (Nat.le_refl _), List.drop_eq_nil_of_le q]
theorem cut_last {xs : List PyData} : (cutD xs (some (-1)) none).length ≤ 1 := by
  unfold cutD
  have e1 : HT.sIx xs.length 0 (some (-1)) = xs.length - 1 := by
    show (if (-1 : Int) < 0 then (-1 + (xs.length : Int)).toNat else min (-1 : Int).toNat xs.length) = _
    rw [if_pos (by omega)]
    omega
  rw [e1, List.length_take, List.length_drop]
  omega
theorem paid_tele (n d p debt : Int) : ∀ k : Nat, ((List.range k).map fun i => paidI n d p (Lf n d p debt i)).sum + Lf n d p debt k = debt + ((List.range k).map fun i => intr n d (Lf n d p debt i)).sum
  | 0 => by simp [Lf]
  | k + 1 => by
    have ih := paid_tele n d p debt k
    rw [List.range_succ, List.map_append, List.map_append, List.sum_append, List.sum_append]
    simp only [List.map_cons, List.map_nil, List.sum_cons, List.sum_nil]
    have e : paidI n d p (Lf n d p debt k) + Lf n d p debt (k + 1) = Lf n d p debt k + intr n d (Lf n d p debt k) := by
      rw [← stp_Lf]
      unfold paidI stp
      split <;> omega
    omega
section
variable (s tu : PyData) (ds : List Int) (n d debt p : Int)
/-- base and how many rows it has -/
theorem stepB (r : PyData) (h : RateOk n d) (hd : 1 ≤ debt ∧ debt ≤ 1000000000) (hp : 1 ≤ p ∧ p ≤ 10000000000000000) (hs : PSpec n d p debt r) (c5 c9 c10 c11 c12 c13 c14 c15 c16 c17 c18 c19 c20 : Option PyData) :
    ∃ m, 1 ≤ m ∧ m ≤ 1000 ∧ KOk n d p debt r (m + 1) ∧ t_law_2_1 [some s, some (.list (ds.map PyData.int)), some tu, some (.int debt), some (rt n d), c5, some (.int p), some r, some r, c9, c10, c11, c12, c13, c14, c15, c16, c17, c18, c19, c20] = t_law_2_4 [some s, some (.list (ds.map PyData.int)), some tu, some (.int debt), some (rt n d), c5, some (.int p), some r, some r, some (.tuple (rowsK n d p debt m)), c10, c11, c12, c13, c14, c15, c16, c17, c18, c19, c20] := by
  have hsp := told_plain hs
  have hne : pNe r r = some (.bool false) := by
    rw [pNe_sh (hsp.2.sh (by omega)) (hsp.2.sh (by omega)), eqv_self _ hsp.1]
    rfl
  have hl := lrow_ev n d debt p h
  have e1 : rowsK n d p debt 1 = [rowP n d p debt] := rfl
  have w1 : (("never" : Str) == "paid") = false := by decide
  have w2 : (("long" : Str) == "paid") = false := by decide
  rcases hs with ⟨x, rfl, hx⟩ | ⟨x, rfl, hx⟩ | ⟨k, hk1, hk2, rfl, hk0, hki⟩
  · exact ⟨1, by omega, by omega, ⟨by omega, .inr ⟨fun i _ => hx i, by omega⟩⟩, by
      rw [e1]
      simp [t_law_2_1, t_law_2_2, t_law_2_3, isTy, hne, at20, at21, w1, hl]⟩
  · exact ⟨1, by omega, by omega, ⟨by omega, .inr ⟨hx, by omega⟩⟩, by
      rw [e1]
      simp [t_law_2_1, t_law_2_2, t_law_2_3, isTy, hne, at20, at21, w2, hl]⟩
  · refine ⟨k, hk1, hk2, ⟨by omega, .inl ⟨k, rfl, hk0, hki⟩⟩, ?_⟩
    have hf := fault_ev n d p debt h hd hp (.tuple (rowsK n d p debt k)) (fun xs e => by cases e; rw [rowsK_len]; omega)
    rw [fault_good hk0 hki] at hf
    have l1 : ∀ e : Lv, (∀ i, i = 20 → i < e.length) → lcGo (gSet 20) tYes c_law_1 e (rowsK n d p debt k) = .ok (((List.range k).map fun i => paidI n d p (Lf n d p debt i)).map PyData.int) := fun e he => by
      unfold rowsK
      rw [List.map_map]
      refine lcGo_map (fun i => rowP n d p (Lf n d p debt i)) _ _ fun i hi => ⟨_, rfl, ?_⟩
      simp [c_law_1, he 20 rfl, rowP, at31]
    have l2 : ∀ e : Lv, (∀ i, i = 20 → i < e.length) → lcGo (gSet 20) tYes c_law_2 e (rowsK n d p debt k) = .ok (((List.range k).map fun i => intr n d (Lf n d p debt i)).map PyData.int) := fun e he => by
      unfold rowsK
      rw [List.map_map]
      refine lcGo_map (fun i => rowP n d p (Lf n d p debt i)) _ _ fun i hi => ⟨_, rfl, ?_⟩
      simp [c_law_2, he 20 rfl, rowP, at30]
    have ht := paid_tele n d p debt k
    rw [hk0] at ht
    simp only [Int.add_zero] at ht
    simp [t_law_2_1, t_law_2_2, t_law_2_3, isTy, hne, at20, at21, wipeL, l1, l2, -List.map_map, hf, isNone, ht]
end
theorem vok_len {K : Nat} {xs : List PyData} (h : xs.length ≤ K) : VOk K (.tuple xs) := fun ys e => by cases e; exact h
theorem vok_other {K : Nat} {v : PyData} (h : ∀ xs, v ≠ .tuple xs) : VOk K v := fun ys e => absurd e (h ys)
/-- an item of a row -/
theorem row_item (n d p l : Int) (i : Nat) (hi : i < 3) : ∃ z : Int, L2.atI [PyData.int (intr n d l), .int (paidI n d p l), .int (stp n d p l)] (i : Int) = some (.int z) := by
  rcases show i = 0 ∨ i = 1 ∨ i = 2 by omega with rfl | rfl | rfl <;> exact ⟨_, rfl⟩
section
variable (s tu r : PyData) (ds : List Int) (n d debt p : Int)
theorem stepC (K : Nat) (h : RateOk n d) (hd : 1 ≤ debt ∧ debt ≤ 1000000000) (hp : 1 ≤ p ∧ p ≤ 10000000000000000) (hs : PSpec n d p debt r) (m : Nat) (hm : 1 ≤ m) (hm2 : m ≤ 1000) (hK : KOk n d p debt r (m + 1)) (hds : ∃ v : Int, ∃ t : Int, tu = .int t ∧ L2.atI (ds.map PyData.int) (16 + t) = some (.int v)) (c5 c10 c11 c12 c13 c14 c15 c16 c17 c18 c19 c20 : Option PyData) :
    ∃ c10' c11' c12' c13' c14' c15' c16', t_law_2_4 [some s, some (.list (ds.map PyData.int)), some tu, some (.int debt), some (rt n d), c5, some (.int p), some r, some r, some (.tuple (rowsK n d p debt m)), c10, c11, c12, c13, c14, c15, c16, c17, c18, c19, c20] = .nx [some s, some (.list (ds.map PyData.int)), some tu, some (.int debt), some (rt n d), c5, some (.int p), some r, some r, some (.tuple (rowsK n d p debt m)), c10', c11', c12', c13', c14', c15', c16', c17, c18, c19, c20] := by
  obtain ⟨v, t, rfl, hv⟩ := hds
  have hlen := rowsK_len n d p debt m
  obtain ⟨bs, hbs⟩ : ∃ bs, bs = rowsK n d p debt m := ⟨_, rfl⟩
  have q1 := Int.emod_nonneg v (show (m : Int) ≠ 0 by omega)
  have q2 := Int.emod_lt_of_pos v (show (0 : Int) < m by omega)
  obtain ⟨k, hk⟩ : ∃ k : Nat, (k : Int) = v % m := ⟨(v % m).toNat, by omega⟩
  have hkm : k < m := by omega
  have hmod : pMod (.int v) (.int (bs.length : Int)) = some (.int (k : Int)) := by
    rw [hbs, hlen, hk]
    exact pMod_ok _ _ (by omega)
  have hrow : L2.atI bs (k : Int) = some (rowP n d p (Lf n d p debt k)) := by
    rw [atI_nn (by omega) (by rw [hbs, hlen]; omega), hbs]
    unfold rowsK
    rw [show (k : Int).toNat = k by omega, List.getElem?_map, List.getElem?_range hkm]
    rfl
  rw [← hbs]
  rw [← hbs] at hlen
  have hA : cutD bs none (some (k : Int)) = bs.take k := by rw [cut_take (by omega)]; simp
  have hB : cutD bs (some ((k : Int) + 1)) none = bs.drop (k + 1) := by
    rw [cut_drop (by omega), show ((k : Int) + 1).toNat = k + 1 by omega]
  have lA : (bs.take k).length = k := by rw [List.length_take, hlen]; omega
  have lB : (bs.drop (k + 1)).length = m - (k + 1) := by rw [List.length_drop, hlen]
  have ad1 : ∀ x : PyData, pAdd (.tuple (bs.take k)) (.tuple [x]) = some (.tuple (bs.take k ++ [x])) := fun x => pAdd_tup (by rw [lA]; simp; omega)
  have ad2 : ∀ x : PyData, pAdd (.tuple (bs.take k ++ [x])) (.tuple (bs.drop (k + 1))) = some (.tuple (bs.take k ++ [x] ++ bs.drop (k + 1))) := fun x => pAdd_tup (by rw [List.length_append, lA, lB]; simp; omega)
  have lAB : ∀ x : PyData, VOk (m + 1) (.tuple (bs.take k ++ [x] ++ bs.drop (k + 1))) := fun x => vok_len (by rw [List.length_append, List.length_append, lA, lB]; simp; omega)
  have ad3 : pAdd (.tuple bs) (.tuple (cutD bs (some (-1)) none)) = some (.tuple (bs ++ cutD bs (some (-1)) none)) := pAdd_tup (by have := cut_last (xs := bs); omega)
  have ad4 : pAdd (.tuple bs) (.tuple [.tuple [.int 0, .int 0, .int 0]]) = some (.tuple (bs ++ [.tuple [.int 0, .int 0, .int 0]])) := pAdd_tup (by simp; omega)
  -- the first nine, and three more
  obtain ⟨v9, h9⟩ : ∃ v9, v9 = [PyData.tuple bs, .tuple (cutD bs (some 1) none), .tuple (cutD bs none (some (-1))), .tuple (bs ++ cutD bs (some (-1)) none), .tuple (bs ++ [.tuple [.int 0, .int 0, .int 0]]), .tuple [], .none, .list bs, .int 3] := ⟨_, rfl⟩
  have hl9 : v9.length = 9 := by rw [h9]; rfl
  have ok9 : ∀ x ∈ v9, VOk (m + 1) x := by
    intro x hx
    rw [h9] at hx
    simp only [List.mem_cons, List.not_mem_nil, or_false] at hx
    rcases hx with rfl | rfl | rfl | rfl | rfl | rfl | rfl | rfl | rfl
    · exact vok_len (by omega)
    · exact vok_len (by have := cut_le bs (some 1) none; omega)
    · exact vok_len (by have := cut_le bs none (some (-1)); omega)
    · exact vok_len (by rw [List.length_append]; have := cut_last (xs := bs); omega)
    · exact vok_len (by rw [List.length_append]; simp; omega)
    · exact vok_len (by simp)
    · exact vok_other fun xs e => nomatch e
    · exact vok_other fun xs e => nomatch e
    · exact vok_other fun xs e => nomatch e
  have lc3 : ∀ (e : Lv) (ws : List PyData), e[9]? = some (some (.tuple bs)) → e[10]? = some (some (.int (k : Int))) → 19 < e.length → lcGo (gSet 19) tYes c_law_3 e ws = .ok (ws.map fun x => .tuple (bs.take k ++ [x] ++ bs.drop (k + 1))) := fun e ws h9 h10 h19 =>
    lcGo_mapP _ ws fun x hx => ⟨_, rfl, rfl, by simp [c_law_3, h9, h10, h19, hA, hB, ad1, ad2, -List.append_assoc]⟩
  have s1 : ∃ vs : List PyData, vs.length = 12 ∧ (∀ x ∈ vs, VOk (m + 1) x) ∧ t_law_2_4 [some s, some (.list (ds.map PyData.int)), some (.int t), some (.int debt), some (rt n d), c5, some (.int p), some r, some r, some (.tuple bs), c10, c11, c12, c13, c14, c15, c16, c17, c18, c19, c20] =
      t_law_2_7 [some s, some (.list (ds.map PyData.int)), some (.int t), some (.int debt), some (rt n d), c5, some (.int p), some r, some r, some (.tuple bs), some (.int (k : Int)), some (.list vs), c12, c13, c14, c15, c16, c17, c18, c19, c20] := by
    obtain ⟨w3, hw3⟩ : ∃ w3, w3 = [PyData.none, .tuple (cutD [PyData.int (intr n d (Lf n d p debt k)), .int (paidI n d p (Lf n d p debt k)), .int (stp n d p (Lf n d p debt k))] none (some 2)), .list [PyData.int (intr n d (Lf n d p debt k)), .int (paidI n d p (Lf n d p debt k)), .int (stp n d p (Lf n d p debt k))]] := ⟨_, rfl⟩
    have hl3 : w3.length = 3 := by rw [hw3]; rfl
    have hcat : pCatL (.list v9) (.list (w3.map fun x => PyData.tuple (bs.take k ++ [x] ++ bs.drop (k + 1)))) = some (.list (v9 ++ w3.map fun x => PyData.tuple (bs.take k ++ [x] ++ bs.drop (k + 1)))) := pCatL_lst (by rw [List.length_map, hl9, hl3]; omega)
    refine ⟨v9 ++ w3.map fun x => .tuple (bs.take k ++ [x] ++ bs.drop (k + 1)), by rw [List.length_append, List.length_map, hl9, hl3], fun x hx => ?_, ?_⟩
    · rcases List.mem_append.mp hx with hx | hx
      · exact ok9 x hx
      · obtain ⟨y, _, rfl⟩ := List.mem_map.mp hx
        exact lAB y
    · have e5 : t_law_2_4 [some s, some (.list (ds.map PyData.int)), some (.int t), some (.int debt), some (rt n d), c5, some (.int p), some r, some r, some (.tuple bs), c10, c11, c12, c13, c14, c15, c16, c17, c18, c19, c20] =
          t_law_2_6 [some s, some (.list (ds.map PyData.int)), some (.int t), some (.int debt), some (rt n d), c5, some (.int p), some r, some r, some (.tuple bs), some (.int (k : Int)), some (.list v9), c12, c13, c14, c15, c16, c17, c18, c19, c20] := by
        simp [t_law_2_4, t_law_2_5, hv, hmod, ad3, ad4, h9]
      rw [e5]
      have hrow' := hrow
      unfold rowP at hrow'
      rw [hw3] at hcat ⊢
      simp only [List.map_cons, List.map_nil] at hcat ⊢
      simp [t_law_2_6, hrow', lc3, wipeL, hcat, -List.append_assoc]
  obtain ⟨vs, hvl, hvok, e1⟩ := s1
  rw [e1]
  -- those with an item changed
  have s2 : ∃ (vs' : List PyData) (c12' c13' : Option PyData), (∀ x ∈ vs', VOk (m + 1) x) ∧ t_law_2_7 [some s, some (.list (ds.map PyData.int)), some (.int t), some (.int debt), some (rt n d), c5, some (.int p), some r, some r, some (.tuple bs), some (.int (k : Int)), some (.list vs), c12, c13, c14, c15, c16, c17, c18, c19, c20] =
      t_law_2_8 [some s, some (.list (ds.map PyData.int)), some (.int t), some (.int debt), some (rt n d), c5, some (.int p), some r, some r, some (.tuple bs), some (.int (k : Int)), some (.list vs'), c12', c13', c14, c15, c16, c17, c18, c19, c20] := by
    by_cases hc : (bs.length : Int) < 60
    · obtain ⟨e', h1, vs', c12', c13', rfl, hok, _⟩ := forGo_inv (g := gSet 12) (b := b_law_5) (fun q e => ∃ vs' c12 c13, e = [some s, some (.list (ds.map PyData.int)), some (.int t), some (.int debt), some (rt n d), c5, some (.int p), some r, some r, some (.tuple bs), some (.int (k : Int)), some (.list vs'), c12, c13, c14, c15, c16, c17, c18, c19, c20] ∧ (∀ x ∈ vs', VOk (m + 1) x) ∧ vs'.length ≤ 12 + 6 * q)
        (range2 0 3) 0 [some s, some (.list (ds.map PyData.int)), some (.int t), some (.int debt), some (rt n d), c5, some (.int p), some r, some r, some (.tuple bs), some (.int (k : Int)), some (.list vs), c12, c13, c14, c15, c16, c17, c18, c19, c20] ⟨vs, c12, c13, rfl, hvok, by omega⟩ (by
          rintro q x e hx ⟨vs', c12, c13, rfl, hok, hvl'⟩
          obtain ⟨rfl, hq⟩ := range2_at hx
          have hq : q < 3 := by omega
          rw [Int.zero_add]
          obtain ⟨z, hz⟩ := row_item n d p (Lf n d p debt k) q hq
          obtain ⟨rw3, hrw⟩ : ∃ rw3, rw3 = [PyData.int (intr n d (Lf n d p debt k)), .int (paidI n d p (Lf n d p debt k)), .int (stp n d p (Lf n d p debt k))] := ⟨_, rfl⟩
          have hrow' := hrow
          unfold rowP at hrow'
          rw [← hrw] at hrow' hz
          have l3 : rw3.length = 3 := by rw [hrw]; rfl
          obtain ⟨e'', h2, vs2, c13', rfl, hok2, hvl2⟩ := forGo_inv (g := gSet 13) (b := b_law_4) (fun j e => ∃ vs2 c13, e = [some s, some (.list (ds.map PyData.int)), some (.int t), some (.int debt), some (rt n d), c5, some (.int p), some r, some r, some (.tuple bs), some (.int (k : Int)), some (.list vs2), some (.int (q : Int)), c13, c14, c15, c16, c17, c18, c19, c20] ∧ (∀ x ∈ vs2, VOk (m + 1) x) ∧ vs2.length ≤ vs'.length + j)
            [PyData.int (z + 1), .int (z - 1), .int 0, .bool true, .none, .str "0"] 0 [some s, some (.list (ds.map PyData.int)), some (.int t), some (.int debt), some (rt n d), c5, some (.int p), some r, some r, some (.tuple bs), some (.int (k : Int)), some (.list vs'), some (.int (q : Int)), c13, c14, c15, c16, c17, c18, c19, c20] ⟨vs', c13, rfl, hok, by omega⟩ (by
              rintro j y e hy ⟨vs2, c13, rfl, hok2, hvl2⟩
              have hj : j < 6 := (List.getElem?_eq_some_iff.mp hy).1
              have hl2 : vs2.length < 16777216 := by omega
              have b1 : pAdd (.tuple (cutD rw3 none (some (q : Int)))) (.tuple [y]) = some (.tuple (cutD rw3 none (some (q : Int)) ++ [y])) := pAdd_tup (by have := cut_le rw3 none (some (q : Int)); simp; omega)
              have b2 : pAdd (.tuple (cutD rw3 none (some (q : Int)) ++ [y])) (.tuple (cutD rw3 (some ((q : Int) + 1)) none)) = some (.tuple (cutD rw3 none (some (q : Int)) ++ [y] ++ cutD rw3 (some ((q : Int) + 1)) none)) := pAdd_tup (by have := cut_le rw3 none (some (q : Int)); have := cut_le rw3 (some ((q : Int) + 1)) none; simp; omega)
              refine ⟨_, [some s, some (.list (ds.map PyData.int)), some (.int t), some (.int debt), some (rt n d), c5, some (.int p), some r, some r, some (.tuple bs), some (.int (k : Int)), some (.list (vs2 ++ [.tuple (bs.take k ++ [.tuple (cutD rw3 none (some (q : Int)) ++ [y] ++ cutD rw3 (some ((q : Int) + 1)) none)] ++ bs.drop (k + 1))])), some (.int (q : Int)), some y, c14, c15, c16, c17, c18, c19, c20], rfl, ?_, _, _, rfl, fun x hx => ?_, by rw [List.length_append]; simp; omega⟩
              · simp [b_law_4, hrow', hA, hB, b1, b2, ad1, ad2, hl2, -List.append_assoc]
              · rcases List.mem_append.mp hx with hx | hx
                · exact hok2 x hx
                · rw [List.mem_singleton.mp hx]; exact lAB _)
          refine ⟨_, _, rfl, ?_, vs2, some (.int (q : Int)), c13', rfl, hok2, by simp at hvl2; omega⟩
          simp [b_law_5, hrow', hz, h2])
      have hr : rangeOk 0 3 = true := by decide
      exact ⟨vs', c12', c13', hok, by simp [t_law_2_7, hc, hr, h1]⟩
    · have hr : rangeOk 0 0 = true := by decide
      have hr2 : range2 0 0 = [] := rfl
      exact ⟨vs, c12, c13, hvok, by simp [t_law_2_7, hc, hr, hr2]⟩
  obtain ⟨vs', c12', c13', hok', e2⟩ := s2
  rw [e2]
  obtain ⟨c14', c15', c16', e3⟩ := loopV s (.list (ds.map PyData.int)) (.int t) n d debt p r (m + 1) h hd hp hs hK vs' hok' c5 (some (.tuple bs)) (some (.int (k : Int))) c12' c13' c14 c15 c16 c17 c18 c19 c20
  exact ⟨_, _, _, _, _, _, _, e3⟩
end
theorem turnP (s : PyData) (ds : List Int) (t : Int) (n d debt p : Int) (h : RateOk n d) (hd : 1 ≤ debt ∧ debt ≤ 1000000000) (hp : p ≤ 10000000000000000) (hds : ∃ v : Int, L2.atI (ds.map PyData.int) (16 + t) = some (.int v)) (c5 c7 c8 c9 c10 c11 c12 c13 c14 c15 c16 c17 c18 c19 c20 : Option PyData) :
    ∃ c7' c8' c9' c10' c11' c12' c13' c14' c15' c16', b_law_7 [some s, some (.list (ds.map PyData.int)), some (.int t), some (.int debt), some (rt n d), c5, some (.int p), c7, c8, c9, c10, c11, c12, c13, c14, c15, c16, c17, c18, c19, c20] =
      .nx [some s, some (.list (ds.map PyData.int)), some (.int t), some (.int debt), some (rt n d), c5, some (.int p), c7', c8', c9', c10', c11', c12', c13', c14', c15', c16', c17, c18, c19, c20] := by
  by_cases hpp : 0 < p
  · have e1 := plan_ev n d p debt h hd ⟨by omega, hp⟩
    have e2 := lplan_ev n d p debt h hd.1
    have hs := plan_spec n d p debt h hd.1
    obtain ⟨m, hm1, hm2, hK, e3⟩ := stepB s (.int t) ds n d debt p _ h hd ⟨by omega, hp⟩ hs c5 c9 c10 c11 c12 c13 c14 c15 c16 c17 c18 c19 c20
    obtain ⟨v, hv⟩ := hds
    obtain ⟨c10', c11', c12', c13', c14', c15', c16', e4⟩ := stepC s (.int t) _ ds n d debt p 0 h hd ⟨by omega, hp⟩ hs m hm1 hm2 hK ⟨v, t, rfl, hv⟩ c5 c10 c11 c12 c13 c14 c15 c16 c17 c18 c19 c20
    exact ⟨_, _, _, c10', c11', c12', c13', c14', c15', c16', by
      rw [← e4, ← e3]
      simp [b_law_7, hpp, e1, e2]⟩
  · exact ⟨c7, c8, c9, c10, c11, c12, c13, c14, c15, c16, by simp [b_law_7, hpp]⟩
theorem intr_le {n d l : Int} (hd : 1 ≤ d) (hn : 0 ≤ n) (hl : 0 ≤ l) : intr n d l ≤ l * n + 1 := by
  unfold intr
  have h0 : 0 ≤ l * n := Int.mul_nonneg hl hn
  have : (2 * l * n + d) / (2 * d) < l * n + 2 := by
    rw [Int.ediv_lt_iff_lt_mul (by omega), Int.add_mul]
    have : l * n * 1 ≤ l * n * (2 * d) := Int.mul_le_mul_of_nonneg_left (by omega) h0
    have h3 : l * n * 2 ≤ l * n * (2 * d) := Int.mul_le_mul_of_nonneg_left (by omega) h0
    rw [Int.mul_assoc 2 l n]
    omega
  omega
/-! ### wrong ones -/
theorem check_bad (w q : PyData) (h : inB w 1 1000000000 = false) : den_P_check [w, q] = .exc "BadDebt" := by
  have a1 := is_whole_ev w 1 1000000000
  simp [den_P_check, runD_ev, body_P_check, k_MOST_DEBT, a1, h]
def rateGood : PyData → Bool
  | .tuple [a, b] => inB a 0 1000000 && inB b 1 1000000
  | _ => false
theorem check_bad2 (debt : Int) (hd : 1 ≤ debt ∧ debt ≤ 1000000000) (w : PyData) (h : rateGood w = false) : den_P_check [.int debt, w] = .exc "BadRate" := by
  have a1 := is_whole_ev (.int debt) 1 1000000000
  rw [inB_int hd] at a1
  cases w with
  | tuple xs =>
    by_cases hl : xs.length = 2
    · match xs, hl with
      | [a, b], _ =>
        have b1 := is_whole_ev a 0 1000000
        have b2 := is_whole_ev b 1 1000000
        simp only [rateGood, Bool.and_eq_false_iff] at h
        rcases h with h | h
        · simp [den_P_check, runD_ev, body_P_check, t_P_check_1_1, t_P_check_1_2, k_MOST_DEBT, k_MOST_OF_RATE, a1, isTy, at20, at21, b1, h]
        · cases hb : inB a 0 1000000 <;> simp [den_P_check, runD_ev, body_P_check, t_P_check_1_1, t_P_check_1_2, k_MOST_DEBT, k_MOST_OF_RATE, a1, isTy, at20, at21, b1, b2, h, hb]
    · have hl' : ¬ (xs.length : Int) = 2 := by omega
      simp [den_P_check, runD_ev, body_P_check, t_P_check_1_1, k_MOST_DEBT, a1, isTy, hl']
  | _ => simp [den_P_check, runD_ev, body_P_check, t_P_check_1_1, k_MOST_DEBT, a1, isTy]
theorem three (x : PyData) : x ∈ range2 0 3 → x = .int 0 ∨ x = .int 1 ∨ x = .int 2 := fun h => by
  have e : range2 0 3 = [.int 0, .int 1, .int 2] := rfl
  rw [e] at h
  simpa using h
theorem err_of (c : Str) (w : Str) (x a b v : PyData) (hx : x = .int 0 ∨ x = .int 1 ∨ x = .int 2) (h0 : x = .int 0 → den_plan [a, b, v] = .exc c) (h1 : x = .int 1 → den_plan_fault [a, b, v, .none] = .exc c) (h2 : x = .int 2 → den_least_payment [a, b, v] = .exc c)
    (hw : c = "BadDebt" ∧ w = "debt" ∨ c = "BadRate" ∧ w = "rate" ∨ c = "BadAmount" ∧ w = "amount" ∨ c = "BadCount" ∧ w = "count") : den_L_error [x, a, b, v] = .ok (.str w) := by
  have m1 : excs.contains "BadDebt" = true := by decide
  have m2 : excs.contains "BadRate" = true := by decide
  have m3 : excs.contains "BadAmount" = true := by decide
  have m4 : excs.contains "BadCount" = true := by decide
  have n1 : hc_BadDebt.contains "BadDebt" = true := by decide
  have n2 : hc_BadDebt.contains "BadRate" = false := by decide
  have n3 : hc_BadDebt.contains "BadAmount" = false := by decide
  have n4 : hc_BadDebt.contains "BadCount" = false := by decide
  have o2 : hc_BadRate.contains "BadRate" = true := by decide
  have o3 : hc_BadRate.contains "BadAmount" = false := by decide
  have o4 : hc_BadRate.contains "BadCount" = false := by decide
  have p3 : hc_BadAmount.contains "BadAmount" = true := by decide
  have p4 : hc_BadAmount.contains "BadCount" = false := by decide
  have q4 : hc_BadCount.contains "BadCount" = true := by decide
  have key : den_L_error [x, a, b, v] = runO false ((match (Os.exc c [some x, some a, some b, some v] : Os) with | .exc c e' => if excs.contains c = true then trySel [(hc_BadDebt, (sRet (dC (.str "debt")))), (hc_BadRate, (sRet (dC (.str "rate")))), (hc_BadAmount, (sRet (dC (.str "amount")))), (hc_BadCount, (sRet (dC (.str "count"))))] c e' else .bad | o => o).bind t_L_error_1_1) := by
    rcases hx with rfl | rfl | rfl
    · have h := h0 rfl
      simp [den_L_error, runD_ev, body_L_error, h, -List.contains_eq_mem]
    · have h := h1 rfl
      simp [den_L_error, runD_ev, body_L_error, h, -List.contains_eq_mem]
    · have h := h2 rfl
      simp [den_L_error, runD_ev, body_L_error, h, -List.contains_eq_mem]
  rw [key]
  rcases hw with ⟨rfl, rfl⟩ | ⟨rfl, rfl⟩ | ⟨rfl, rfl⟩ | ⟨rfl, rfl⟩
  · simp [trySel_cons, -List.contains_eq_mem, m1, n1]
  · simp [trySel_cons, -List.contains_eq_mem, m2, n2, o2]
  · simp [trySel_cons, -List.contains_eq_mem, m3, n3, o3, p3]
  · simp [trySel_cons, -List.contains_eq_mem, m4, n4, o4, p4, q4]
theorem err_debt (x w a b : PyData) (hx : x = .int 0 ∨ x = .int 1 ∨ x = .int 2) (h : inB w 1 1000000000 = false) : den_L_error [x, w, a, b] = .ok (.str "debt") := by
  have hc := check_bad w a h
  exact err_of "BadDebt" "debt" x w a b hx (fun _ => by simp [den_plan, runD_ev, body_plan, hc]) (fun _ => by simp [den_plan_fault, runD_ev, body_plan_fault, hc]) (fun _ => by simp [den_least_payment, runD_ev, body_least_payment, hc]) (.inl ⟨rfl, rfl⟩)
theorem err_rate (x w b : PyData) (debt : Int) (hd : 1 ≤ debt ∧ debt ≤ 1000000000) (hx : x = .int 0 ∨ x = .int 1 ∨ x = .int 2) (h : rateGood w = false) : den_L_error [x, .int debt, w, b] = .ok (.str "rate") := by
  have hc := check_bad2 debt hd w h
  exact err_of "BadRate" "rate" x (.int debt) w b hx (fun _ => by simp [den_plan, runD_ev, body_plan, hc]) (fun _ => by simp [den_plan_fault, runD_ev, body_plan_fault, hc]) (fun _ => by simp [den_least_payment, runD_ev, body_least_payment, hc]) (.inr (.inl ⟨rfl, rfl⟩))
theorem err_amount (x w : PyData) (n d debt : Int) (hR : RateOk n d) (hd : 1 ≤ debt ∧ debt ≤ 1000000000) (hx : x = .int 0 ∨ x = .int 1) (h : inB w 1 10000000000000000 = false) : den_L_error [x, .int debt, rt n d, w] = .ok (.str "amount") := by
  have a1 := is_whole_ev w 1 10000000000000000
  have hc : den_P_check_payment [w] = .exc "BadAmount" := by simp [den_P_check_payment, runD_ev, body_P_check_payment, k_MOST_PAYMENT, a1, h]
  have hk := check_ev debt n d hd hR
  exact err_of "BadAmount" "amount" x (.int debt) (rt n d) w (by rcases hx with h | h <;> simp [h]) (fun _ => by simp [den_plan, runD_ev, body_plan, t_plan_2_1, hk, hc]) (fun _ => by simp [den_plan_fault, runD_ev, body_plan_fault, t_plan_fault_2_1, hk, hc]) (fun e => by subst e; rcases hx with h | h <;> simp at h) (.inr (.inr (.inl ⟨rfl, rfl⟩)))
theorem err_count (w : PyData) (n d debt : Int) (hR : RateOk n d) (hd : 1 ≤ debt ∧ debt ≤ 1000000000) (h : inB w 1 200 = false) : den_L_error [.int 2, .int debt, rt n d, w] = .ok (.str "count") := by
  have a1 := is_whole_ev w 1 200
  have hk := check_ev debt n d hd hR
  exact err_of "BadCount" "count" (.int 2) (.int debt) (rt n d) w (.inr (.inr rfl)) (fun e => by simp at e) (fun e => by simp at e) (fun _ => by simp [den_least_payment, runD_ev, body_least_payment, t_least_payment_2_1, hk, k_MOST_PERIODS, a1, h]) (.inr (.inr (.inr ⟨rfl, rfl⟩)))
theorem pNe_self {n : Nat} {x : PyData} (h : plainN n x) (hn : n ≤ 64) (hb : noB x = true) : pNe x x = some (.bool false) := by
  rw [pNe_sh (h.sh hn) (h.sh hn), eqv_self _ hb]
  rfl
theorem pEq_self {n : Nat} {x : PyData} (h : plainN n x) (hn : n ≤ 64) (hb : noB x = true) : pEq x x = some (.bool true) := by
  rw [pEq_sh (h.sh hn) (h.sh hn), eqv_self _ hb]
theorem words_ne (a b c : Str) (ha : (PyData.str a).canLay0 = true) (hb : (PyData.str b).canLay0 = true) (hc : (PyData.str c).canLay0 = true) : pNe (.list [.str a, .str b, .str c]) (.list [.str a, .str b, .str c]) = some (.bool false) := by
  refine pNe_self (n := 2) (plain_lst fun x hx => ?_) (by omega) (by simp)
  simp at hx
  rcases hx with rfl | rfl | rfl
  · exact plain_str _ ha 0
  · exact plain_str _ hb 0
  · exact plain_str _ hc 0
theorem mul3 (x : PyData) : pMul (.list [x]) (.int 3) = some (.list [x, x, x]) := by
  show (if -9223372036854775808 ≤ (3 : Int) ∧ (3 : Int) < 9223372036854775808 ∧ [x].length * (3 : Int).toNat ≤ 16777216 then some (PyData.list (List.replicate (3 : Int).toNat [x]).flatten) else none) = _
  rw [if_pos (by simp)]
  rfl
theorem lay_debt : (PyData.str "debt").canLay0 = true := by rw [PyData.canLay0]; decide +kernel
theorem lay_rate : (PyData.str "rate").canLay0 = true := by rw [PyData.canLay0]; decide +kernel
theorem lay_amount : (PyData.str "amount").canLay0 = true := by rw [PyData.canLay0]; decide +kernel
theorem lay_count : (PyData.str "count").canLay0 = true := by rw [PyData.canLay0]; decide +kernel
theorem r3 : range2 0 3 = [PyData.int 0, .int 1, .int 2] := rfl
theorem rk3 : rangeOk 0 3 = true := by decide
section
variable (s ds tu : PyData) (n d debt : Int) (c5 c6 c7 c8 c9 c10 c11 c12 c13 c14 c15 c16 c18 c19 c20 : Option PyData)
theorem wrong1 (w : PyData) (hw : inB w 1 1000000000 = false) : b_law_9 [some s, some ds, some tu, some (.int debt), some (rt n d), c5, c6, c7, c8, c9, c10, c11, c12, c13, c14, c15, c16, some w, c18, c19, c20] = .nx [some s, some ds, some tu, some (.int debt), some (rt n d), c5, c6, c7, c8, c9, c10, c11, c12, c13, c14, c15, c16, some w, c18, c19, c20] := by
  have l1 : ∀ e : Lv, e[17]? = some (some w) → 18 < e.length → lcGo (gSet 18) tYes c_law_8 e (range2 0 3) = .ok [.str "debt", .str "debt", .str "debt"] := fun e h17 h18 =>
    lcGo_mapP (fun _ => .str "debt") (range2 0 3) fun x hx => ⟨_, rfl, rfl, by simp [c_law_8, h17, h18, err_debt x w .none .none (three x hx) hw]⟩
  simp [b_law_9, rk3, wipeL, l1, mul3, words_ne _ _ _ lay_debt lay_debt lay_debt]
theorem wrong2 (hd : 1 ≤ debt ∧ debt ≤ 1000000000) (w : PyData) (hw : rateGood w = false) : b_law_11 [some s, some ds, some tu, some (.int debt), some (rt n d), c5, c6, c7, c8, c9, c10, c11, c12, c13, c14, c15, c16, some w, c18, c19, c20] = .nx [some s, some ds, some tu, some (.int debt), some (rt n d), c5, c6, c7, c8, c9, c10, c11, c12, c13, c14, c15, c16, some w, c18, c19, c20] := by
  have l1 : ∀ e : Lv, e[3]? = some (some (.int debt)) → e[17]? = some (some w) → 18 < e.length → lcGo (gSet 18) tYes c_law_10 e (range2 0 3) = .ok [.str "rate", .str "rate", .str "rate"] := fun e h3 h17 h18 =>
    lcGo_mapP (fun _ => .str "rate") (range2 0 3) fun x hx => ⟨_, rfl, rfl, by simp [c_law_10, h3, h17, h18, err_rate x w .none debt hd (three x hx) hw]⟩
  simp [b_law_11, rk3, wipeL, l1, mul3, words_ne _ _ _ lay_rate lay_rate lay_rate]
theorem wrong3 (hR : RateOk n d) (hd : 1 ≤ debt ∧ debt ≤ 1000000000) (w : PyData) (hw : inB w 1 10000000000000000 = false) (hw2 : inB w 1 200 = false) : b_law_13 [some s, some ds, some tu, some (.int debt), some (rt n d), c5, c6, c7, c8, c9, c10, c11, c12, c13, c14, c15, c16, some w, c18, c19, c20] = .nx [some s, some ds, some tu, some (.int debt), some (rt n d), c5, c6, c7, c8, c9, c10, c11, c12, c13, c14, c15, c16, some w, c18, c19, c20] := by
  have l1 : ∀ e : Lv, e[3]? = some (some (.int debt)) → e[4]? = some (some (rt n d)) → e[17]? = some (some w) → 18 < e.length → lcGo (gSet 18) tYes c_law_12 e (range2 0 3) = .ok [.str "amount", .str "amount", .str "count"] := fun e h3 h4 h17 h18 => by
    have := lcGo_mapP (g := gSet 18) (t := tYes) (a := c_law_12) (e := e) (fun x => match x with | .int 2 => .str "count" | _ => .str "amount") (range2 0 3) fun x hx => ⟨e.set 18 (some x), rfl, rfl, by
      rcases three x hx with rfl | rfl | rfl
      · simp [c_law_12, h3, h4, h17, h18, err_amount (.int 0) w n d debt hR hd (.inl rfl) hw]
      · simp [c_law_12, h3, h4, h17, h18, err_amount (.int 1) w n d debt hR hd (.inr rfl) hw]
      · simp [c_law_12, h3, h4, h17, h18, err_count w n d debt hR hd hw2]⟩
    rw [this]
    rfl
  simp [b_law_13, rk3, wipeL, l1, words_ne _ _ _ lay_amount lay_amount lay_count]
theorem wrongs (hR : RateOk n d) (hd : 1 ≤ debt ∧ debt ≤ 1000000000) (c17 : Option PyData) : ∃ c17', t_law_3_4 [some s, some ds, some tu, some (.int debt), some (rt n d), c5, c6, c7, c8, c9, c10, c11, c12, c13, c14, c15, c16, c17, c18, c19, c20] = .nx [some s, some ds, some tu, some (.int debt), some (rt n d), c5, c6, c7, c8, c9, c10, c11, c12, c13, c14, c15, c16, c17', c18, c19, c20] := by
  have p9 : pPow (.int 10) (.int 9) = some (.int 1000000000) := pPow_ok 10 9 (by omega) (by omega) (by decide)
  have p6 : pPow (.int 10) (.int 6) = some (.int 1000000) := pPow_ok 10 6 (by omega) (by omega) (by decide)
  have p16 : pPow (.int 10) (.int 16) = some (.int 10000000000000000) := pPow_ok 10 16 (by omega) (by omega) (by decide)
  obtain ⟨e1, h1, a17, rfl⟩ := forGo_inv (g := gSet 17) (b := b_law_9) (fun k e => ∃ c17, e = [some s, some ds, some tu, some (.int debt), some (rt n d), c5, c6, c7, c8, c9, c10, c11, c12, c13, c14, c15, c16, c17, c18, c19, c20]) [PyData.int 0, .int (-1), .int 1000000001, .bool true, .none, .str "1"] 0 [some s, some ds, some tu, some (.int debt), some (rt n d), c5, c6, c7, c8, c9, c10, c11, c12, c13, c14, c15, c16, c17, c18, c19, c20] ⟨_, rfl⟩ (by
    rintro k x e hx ⟨c17, rfl⟩
    have hw : inB x 1 1000000000 = false := by
      have := List.mem_of_getElem? hx
      simp at this
      rcases this with rfl | rfl | rfl | rfl | rfl | rfl <;> rfl
    exact ⟨_, _, rfl, wrong1 s ds tu n d debt c5 c6 c7 c8 c9 c10 c11 c12 c13 c14 c15 c16 c18 c19 c20 x hw, _, rfl⟩)
  obtain ⟨e2, h2, b17, rfl⟩ := forGo_inv (g := gSet 17) (b := b_law_11) (fun k e => ∃ c17, e = [some s, some ds, some tu, some (.int debt), some (rt n d), c5, c6, c7, c8, c9, c10, c11, c12, c13, c14, c15, c16, c17, c18, c19, c20]) [PyData.none, .tuple [.int 1], .list [.int 1, .int 2], .tuple [.int (-1), .int 2], .tuple [.int 1, .int 0], .tuple [.int 1000001, .int 1], .tuple [.int 1, .int 1000001], .tuple [.bool true, .int 2], .tuple [.int 1, .bool true], .str "12"] 0 [some s, some ds, some tu, some (.int debt), some (rt n d), c5, c6, c7, c8, c9, c10, c11, c12, c13, c14, c15, c16, a17, c18, c19, c20] ⟨_, rfl⟩ (by
    rintro k x e hx ⟨c17, rfl⟩
    have hw : rateGood x = false := by
      have := List.mem_of_getElem? hx
      simp at this
      rcases this with rfl | rfl | rfl | rfl | rfl | rfl | rfl | rfl | rfl | rfl <;> rfl
    exact ⟨_, _, rfl, wrong2 s ds tu n d debt c5 c6 c7 c8 c9 c10 c11 c12 c13 c14 c15 c16 c18 c19 c20 hd x hw, _, rfl⟩)
  obtain ⟨e3, h3, d17, rfl⟩ := forGo_inv (g := gSet 17) (b := b_law_13) (fun k e => ∃ c17, e = [some s, some ds, some tu, some (.int debt), some (rt n d), c5, c6, c7, c8, c9, c10, c11, c12, c13, c14, c15, c16, c17, c18, c19, c20]) [PyData.int 0, .int (-1), .int 10000000000000001, .bool true, .none, .str "1"] 0 [some s, some ds, some tu, some (.int debt), some (rt n d), c5, c6, c7, c8, c9, c10, c11, c12, c13, c14, c15, c16, b17, c18, c19, c20] ⟨_, rfl⟩ (by
    rintro k x e hx ⟨c17, rfl⟩
    have hw : inB x 1 10000000000000000 = false ∧ inB x 1 200 = false := by
      have := List.mem_of_getElem? hx
      simp at this
      rcases this with rfl | rfl | rfl | rfl | rfl | rfl <;> exact ⟨rfl, rfl⟩
    exact ⟨_, _, rfl, wrong3 s ds tu n d debt c5 c6 c7 c8 c9 c10 c11 c12 c13 c14 c15 c16 c18 c19 c20 hR hd x hw.1 hw.2, _, rfl⟩)
  exact ⟨d17, by simp [t_law_3_4, t_law_3_5, t_law_3_6, p9, p6, p16, h1, h2, h3]⟩
end
theorem turnT (s : PyData) (ds : List Int) (hl : ds.length = 60) (hok : DrawsOk ds) (i : Nat) (hi : i < 4) (c3 c4 c5 c6 c7 c8 c9 c10 c11 c12 c13 c14 c15 c16 c17 c18 c19 c20 : Option PyData) :
    ∃ a3 a4 a5 a6 a7 a8 a9 a10 a11 a12 a13 a14 a15 a16 a17, b_law_14 [some s, some (.list (ds.map PyData.int)), some (.int (i : Int)), c3, c4, c5, c6, c7, c8, c9, c10, c11, c12, c13, c14, c15, c16, c17, c18, c19, c20] =
      .nx [some s, some (.list (ds.map PyData.int)), some (.int (i : Int)), a3, a4, a5, a6, a7, a8, a9, a10, a11, a12, a13, a14, a15, a16, a17, c18, c19, c20] := by
  have hx : ∀ k : Nat, k ≤ 20 → ∃ v : Int, L2.atI (ds.map PyData.int) ((k : Int) + (i : Int)) = some (.int v) ∧ 0 ≤ v ∧ v < 65521 := fun k hk => by
    refine ⟨ds[k + i], ?_, (hok _ (List.getElem_mem _)).1, (hok _ (List.getElem_mem _)).2⟩
    rw [atI_map, atI_nn (by omega) (by omega), show ((k : Int) + (i : Int)).toNat = k + i by omega, List.getElem?_eq_getElem (by omega)]
    rfl
  obtain ⟨v0, x0, r0⟩ := hx 0 (by omega)
  obtain ⟨v4, x4, r4⟩ := hx 4 (by omega)
  obtain ⟨v8, x8, r8⟩ := hx 8 (by omega)
  obtain ⟨v12, x12, r12⟩ := hx 12 (by omega)
  obtain ⟨v16, x16, r16⟩ := hx 16 (by omega)
  simp at x0 x4 x8 x12 x16
  have ms : ∃ a b : Int, L2.atI [PyData.int 50, .int 3000, .int 65521, .int 65521] (i : Int) = some (.int a) ∧ L2.atI [PyData.int 1, .int 1, .int 1, .int 15000] (i : Int) = some (.int b) ∧ 0 < a ∧ a ≤ 65521 ∧ 1 ≤ b ∧ b ≤ 15000 := by
    rcases show i = 0 ∨ i = 1 ∨ i = 2 ∨ i = 3 by omega with rfl | rfl | rfl | rfl <;> exact ⟨_, _, rfl, rfl, by decide, by decide, by decide, by decide⟩
  obtain ⟨a, b, y1, y2, ha, ha2, hb, hb2⟩ := ms
  have ns : ∃ a b : Int, L2.atI [PyData.int 5, .int 20, .int 3, .int 1] (i : Int) = some (.int a) ∧ L2.atI [PyData.int 60, .int 100, .int 40, .int 9] (i : Int) = some (.int b) ∧ 0 < a ∧ a ≤ 20 ∧ 1 ≤ b ∧ b ≤ 100 := by
    rcases show i = 0 ∨ i = 1 ∨ i = 2 ∨ i = 3 by omega with rfl | rfl | rfl | rfl <;> exact ⟨_, _, rfl, rfl, by decide, by decide, by decide, by decide⟩
  obtain ⟨na, nb, y3, y4, hna, hna2, hnb, hnb2⟩ := ns
  have m1 := Int.emod_nonneg v0 (show a ≠ 0 by omega)
  have m2 := Int.emod_lt_of_pos v0 ha
  have m3 : 0 ≤ v0 % a * b := Int.mul_nonneg m1 (by omega)
  have m4 : v0 % a * b ≤ 65520 * 15000 := Int.mul_le_mul (by omega) hb2 (by omega) (by omega)
  have m5 := Int.emod_nonneg v4 (show na ≠ 0 by omega)
  have m6 := Int.emod_lt_of_pos v4 hna
  have m7 := Int.emod_nonneg v8 (show nb ≠ 0 by omega)
  have m8 := Int.emod_lt_of_pos v8 (show 0 < nb by omega)
  have p1 : pMod (.int v0) (.int a) = some (.int (v0 % a)) := pMod_ok _ _ ha
  have p2 : pMul (.int (v0 % a)) (.int b) = some (.int (v0 % a * b)) := pMul_r _ _ (by omega) (by omega)
  have p3 : pMod (.int v4) (.int na) = some (.int (v4 % na)) := pMod_ok _ _ hna
  have p4 : pMod (.int v8) (.int nb) = some (.int (v8 % nb)) := pMod_ok _ _ (by omega)
  have hR : RateOk (v4 % na) (1 + v8 % nb) := ⟨by omega, by omega, by omega, by omega⟩
  obtain ⟨debt, hde⟩ : ∃ debt : Int, debt = 1 + v0 % a * b := ⟨_, rfl⟩
  have hdb : 1 ≤ debt ∧ debt ≤ 1000000000 := by omega
  obtain ⟨n, hn⟩ : ∃ n : Int, n = v4 % na := ⟨_, rfl⟩
  obtain ⟨d, hdd⟩ : ∃ d : Int, d = 1 + v8 % nb := ⟨_, rfl⟩
  rw [← hn, ← hdd] at hR
  have hfl := intr_nn hR.2.2.1 hR.1 (show 0 ≤ debt by omega)
  have hfu := intr_le hR.2.2.1 hR.1 (show 0 ≤ debt by omega)
  have hfu2 : debt * n ≤ 1000000000 * 20 := Int.mul_le_mul hdb.2 (by omega) hR.1 (by omega)
  have hlr := lrow_ev n d debt 1 hR
  obtain ⟨first, hfi⟩ : ∃ first : Int, first = intr n d debt := ⟨_, rfl⟩
  rw [← hfi] at hfl hfu
  have p5 : pFdiv (.int debt) (.int 2) = some (.int (debt / 2)) := pFdiv_ok _ _ (by omega) (by omega)
  have p6 : pMod (.int v12) (.int (1 + debt / 2)) = some (.int (v12 % (1 + debt / 2))) := pMod_ok _ _ (by omega)
  have m9 := Int.emod_nonneg v12 (show 1 + debt / 2 ≠ 0 by omega)
  have m10 := Int.emod_lt_of_pos v12 (show 0 < 1 + debt / 2 by omega)
  have p16 : pPow (.int 10) (.int 16) = some (.int 10000000000000000) := pPow_ok 10 16 (by omega) (by omega) (by decide)
  obtain ⟨e1, h1, a6, a7, a8, a9, a10, a11, a12, a13, a14, a15, a16, rfl⟩ := forGo_inv (g := gSet 6) (b := b_law_7) (fun k e => ∃ c6 c7 c8 c9 c10 c11 c12 c13 c14 c15 c16, e = [some s, some (.list (ds.map PyData.int)), some (.int (i : Int)), some (.int debt), some (rt n d), some (.int first), c6, c7, c8, c9, c10, c11, c12, c13, c14, c15, c16, c17, c18, c19, c20])
    [PyData.int 1, .int first, .int (first + 1), .int (first + 1 + v12 % (1 + debt / 2)), .int (debt + first), .int 10000000000000000] 0 [some s, some (.list (ds.map PyData.int)), some (.int (i : Int)), some (.int debt), some (rt n d), some (.int first), c6, c7, c8, c9, c10, c11, c12, c13, c14, c15, c16, c17, c18, c19, c20] ⟨_, _, _, _, _, _, _, _, _, _, _, rfl⟩ (by
      rintro k x e hx ⟨c6, c7, c8, c9, c10, c11, c12, c13, c14, c15, c16, rfl⟩
      have hp : ∃ p : Int, x = .int p ∧ p ≤ 10000000000000000 := by
        have := List.mem_of_getElem? hx
        simp at this
        rcases this with rfl | rfl | rfl | rfl | rfl | rfl
        · exact ⟨_, rfl, by omega⟩
        · exact ⟨_, rfl, by omega⟩
        · exact ⟨_, rfl, by omega⟩
        · exact ⟨_, rfl, by omega⟩
        · exact ⟨_, rfl, by omega⟩
        · exact ⟨_, rfl, by omega⟩
      obtain ⟨p, rfl, hp⟩ := hp
      obtain ⟨b7, b8, b9, b10, b11, b12, b13, b14, b15, b16, hb⟩ := turnP s ds (i : Int) n d debt p hR hdb hp ⟨v16, x16⟩ (some (.int first)) c7 c8 c9 c10 c11 c12 c13 c14 c15 c16 c17 c18 c19 c20
      exact ⟨_, _, rfl, hb, _, b7, b8, b9, b10, b11, b12, b13, b14, b15, b16, rfl⟩)
  obtain ⟨a17, h2⟩ := wrongs s (.list (ds.map PyData.int)) (.int (i : Int)) n d debt (some (.int first)) a6 a7 a8 a9 a10 a11 a12 a13 a14 a15 a16 c18 c19 c20 hR hdb c17
  have row0 : pIx (rowP n d 1 debt) (.int 0) = some (.int first) := by rw [hfi]; rfl
  refine ⟨some (.int debt), some (rt n d), some (.int first), a6, a7, a8, a9, a10, a11, a12, a13, a14, a15, a16, a17, ?_⟩
  simp [b_law_14, t_law_3_1, t_law_3_2, t_law_3_3, x0, x4, x8, x12, y1, y2, y3, y4, p1, p2, p3, p4, ← hde, ← hn, ← hdd, hlr, row0, p5, p6, p16, h1, h2]
theorem long_L : ∀ i : Nat, i ≤ 1000 → Lf 0 1 1 1000000000 i = 1000000000 - (i : Int)
  | 0, _ => rfl
  | i + 1, h => by
    show stp 0 1 1 (Lf 0 1 1 1000000000 i) = _
    rw [long_L i (by omega)]
    unfold stp intr
    have : (2 * (1000000000 - (i : Int)) * 0 + 1) / (2 * 1) = 0 := by simp
    rw [this]
    omega
theorem long_F : ∀ f j : Nat, j + f = 999 → planF 0 1 1 1000000000 f j = .tuple [.str "long", .int 999999000]
  | 0, j, h => by
    rw [planF_def, long_L j (by omega), long_L (j + 1) (by omega), if_neg (by omega), if_neg (by omega)]
    have : (1000000000 : Int) - ((j + 1 : Nat) : Int) = 999999000 := by omega
    rw [this]
  | f + 1, j, h => by
    rw [planF_def, long_L j (by omega), long_L (j + 1) (by omega), if_neg (by omega), if_neg (by omega)]
    exact long_F f (j + 1) (by omega)
theorem law_true (ns : List Int) (hn : ns.length ≤ 63) : den_law [.list (ns.map PyData.int)] = .ok (.bool true) := by
  obtain ⟨ds, hl, hok, hd⟩ := draws_ev ns hn 60 (by omega)
  have hd : den_L_draws [.list (ns.map PyData.int), .int 60] = .ok (.list (ds.map PyData.int)) := hd
  obtain ⟨e', h1, a2, a3, a4, a5, a6, a7, a8, a9, a10, a11, a12, a13, a14, a15, a16, a17, rfl⟩ := forGo_inv (g := gSet 2) (b := b_law_14) (fun k e => ∃ c2 c3 c4 c5 c6 c7 c8 c9 c10 c11 c12 c13 c14 c15 c16 c17, e = [some (.list (ns.map PyData.int)), some (.list (ds.map PyData.int)), c2, c3, c4, c5, c6, c7, c8, c9, c10, c11, c12, c13, c14, c15, c16, c17, none, none, none])
    (range2 0 4) 0 [some (.list (ns.map PyData.int)), some (.list (ds.map PyData.int)), none, none, none, none, none, none, none, none, none, none, none, none, none, none, none, none, none, none, none] ⟨_, _, _, _, _, _, _, _, _, _, _, _, _, _, _, _, rfl⟩ (by
      rintro k x e hx ⟨c2, c3, c4, c5, c6, c7, c8, c9, c10, c11, c12, c13, c14, c15, c16, c17, rfl⟩
      obtain ⟨rfl, hk⟩ := range2_at hx
      obtain ⟨d3, d4, d5, d6, d7, d8, d9, d10, d11, d12, d13, d14, d15, d16, d17, h⟩ := turnT (.list (ns.map PyData.int)) ds hl hok k (by omega) c3 c4 c5 c6 c7 c8 c9 c10 c11 c12 c13 c14 c15 c16 c17 none none none
      rw [Int.zero_add]
      exact ⟨_, _, rfl, h, _, d3, d4, d5, d6, d7, d8, d9, d10, d11, d12, d13, d14, d15, d16, d17, rfl⟩)
  have f1 := plan_ev 1 10 58 100 ⟨by omega, by omega, by omega, by omega⟩ (by omega) (by omega)
  have f2 := plan_ev 1 10 10 100 ⟨by omega, by omega, by omega, by omega⟩ (by omega) (by omega)
  have f3 := plan_ev 0 1 1 1000000000 ⟨by omega, by omega, by omega, by omega⟩ (by omega) (by omega)
  have g1 : planF 1 10 58 100 999 0 = .tuple [.str "paid", .tuple [.tuple [.int 10, .int 58, .int 52], .tuple [.int 5, .int 57, .int 0]]] := by
    rw [planF_def, if_neg (by decide), if_neg (by decide)]
    show planF 1 10 58 100 998 1 = _
    rw [planF_def, if_neg (by decide), if_pos (by decide)]
    rfl
  have g2 : planF 1 10 10 100 999 0 = .tuple [.str "never", .int 100] := by
    rw [planF_def, if_pos (by decide)]
    rfl
  have g3 := long_F 999 0 (by omega)
  have sp1 := told_plain (plan_spec 1 10 58 100 ⟨by omega, by omega, by omega, by omega⟩ (by omega))
  have sp2 := told_plain (plan_spec 1 10 10 100 ⟨by omega, by omega, by omega, by omega⟩ (by omega))
  have sp3 := told_plain (plan_spec 0 1 1 1000000000 ⟨by omega, by omega, by omega, by omega⟩ (by omega))
  rw [g1] at f1 sp1
  rw [g2] at f2 sp2
  rw [g3] at f3 sp3
  have q1 := pEq_self sp1.2 (by omega) sp1.1
  have q2 := pEq_self sp2.2 (by omega) sp2.1
  have q3 := pEq_self sp3.2 (by omega) sp3.1
  have p9 : pPow (.int 10) (.int 9) = some (.int 1000000000) := pPow_ok 10 9 (by omega) (by omega) (by decide)
  have f1 : den_plan [.int 100, .tuple [.int 1, .int 10], .int 58] = _ := f1
  have f2 : den_plan [.int 100, .tuple [.int 1, .int 10], .int 10] = _ := f2
  have f3 : den_plan [.int 1000000000, .tuple [.int 0, .int 1], .int 1] = _ := f3
  have rk4 : rangeOk 0 4 = true := by decide
  simp [den_law, runD_ev, body_law, t_law_4_1, t_law_4_2, rk4, hd, h1, f1, f2, f3, q1, q2, q3, p9]

end Pf
/-! ## Walk_k53 -/
set_option maxHeartbeats 8000000
namespace Pf
open PySem PySem.Spec PyProof.Rows L2 Lt
def topS (i : Nat) : Stmt := PySem.Challenge.pw_ledgertongue_k53_whole_plans.main.body.getD i (.Pass ⟨0, 0, 0, 0⟩)
abbrev s_is_whole : Stmt := topS 7
abbrev N_is_whole : List Str := ["value", "least", "most"]
theorem sc_is_whole : FnScope N_is_whole ["value", "least", "most"] (defScope s_is_whole) := ⟨rfl, rfl, rfl, by decide +kernel, rfl, by decide +kernel, by decide +kernel⟩
abbrev s_P_check : Stmt := topS 15
abbrev N_P_check : List Str := ["debt", "rate"]
theorem sc_P_check : FnScope N_P_check ["debt", "rate"] (defScope s_P_check) := ⟨rfl, rfl, rfl, by decide +kernel, rfl, by decide +kernel, by decide +kernel⟩
abbrev s_P_check_payment : Stmt := topS 16
abbrev N_P_check_payment : List Str := ["payment"]
theorem sc_P_check_payment : FnScope N_P_check_payment ["payment"] (defScope s_P_check_payment) := ⟨rfl, rfl, rfl, by decide +kernel, rfl, by decide +kernel, by decide +kernel⟩
abbrev s_P_row : Stmt := topS 17
abbrev N_P_row : List Str := ["left", "rate", "payment", "interest", "paid"]
theorem sc_P_row : FnScope N_P_row ["left", "rate", "payment"] (defScope s_P_row) := ⟨rfl, rfl, rfl, by decide +kernel, rfl, by decide +kernel, by decide +kernel⟩
abbrev s_plan : Stmt := topS 18
abbrev N_plan : List Str := ["debt", "rate", "payment", "rows", "left", "row"]
theorem sc_plan : FnScope N_plan ["debt", "rate", "payment"] (defScope s_plan) := ⟨rfl, rfl, rfl, by decide +kernel, rfl, by decide +kernel, by decide +kernel⟩
abbrev s_P_is_enough : Stmt := topS 19
abbrev N_P_is_enough : List Str := ["debt", "rate", "payment", "periods", "left", "_period"]
theorem sc_P_is_enough : FnScope N_P_is_enough ["debt", "rate", "payment", "periods"] (defScope s_P_is_enough) := ⟨rfl, rfl, rfl, by decide +kernel, rfl, by decide +kernel, by decide +kernel⟩
abbrev s_least_payment : Stmt := topS 20
abbrev N_least_payment : List Str := ["debt", "rate", "periods", "least", "most", "middle"]
theorem sc_least_payment : FnScope N_least_payment ["debt", "rate", "periods"] (defScope s_least_payment) := ⟨rfl, rfl, rfl, by decide +kernel, rfl, by decide +kernel, by decide +kernel⟩
abbrev s_P_are_rows : Stmt := topS 21
abbrev N_P_are_rows : List Str := ["value", "one", "number"]
theorem sc_P_are_rows : FnScope N_P_are_rows ["value"] (defScope s_P_are_rows) := ⟨rfl, rfl, rfl, by decide +kernel, rfl, by decide +kernel, by decide +kernel⟩
abbrev s_plan_fault : Stmt := topS 22
abbrev N_plan_fault : List Str := ["debt", "rate", "payment", "rows", "left", "number", "row"]
theorem sc_plan_fault : FnScope N_plan_fault ["debt", "rate", "payment", "rows"] (defScope s_plan_fault) := ⟨rfl, rfl, rfl, by decide +kernel, rfl, by decide +kernel, by decide +kernel⟩
abbrev s_L_draws : Stmt := topS 24
abbrev N_L_draws : List Str := ["script", "many", "draws", "seed", "cell", "number", "k"]
theorem sc_L_draws : FnScope N_L_draws ["script", "many"] (defScope s_L_draws) := ⟨rfl, rfl, rfl, by decide +kernel, rfl, by decide +kernel, by decide +kernel⟩
abbrev s_L_row : Stmt := topS 25
abbrev N_L_row : List Str := ["left", "rate", "payment", "above", "below", "whole", "rest", "interest", "paid"]
theorem sc_L_row : FnScope N_L_row ["left", "rate", "payment"] (defScope s_L_row) := ⟨rfl, rfl, rfl, by decide +kernel, rfl, by decide +kernel, by decide +kernel⟩
abbrev s_L_plan : Stmt := topS 26
abbrev N_L_plan : List Str := ["debt", "rate", "payment", "rows", "left", "turn", "row"]
theorem sc_L_plan : FnScope N_L_plan ["debt", "rate", "payment"] (defScope s_L_plan) := ⟨rfl, rfl, rfl, by decide +kernel, rfl, by decide +kernel, by decide +kernel⟩
abbrev s_L_due : Stmt := topS 27
abbrev N_L_due : List Str := ["debt", "rate", "payment", "rows", "row", "left", "k", "one"]
theorem sc_L_due : FnScope N_L_due ["debt", "rate", "payment", "rows"] (defScope s_L_due) := ⟨rfl, rfl, rfl, by decide +kernel, rfl, by decide +kernel, by decide +kernel⟩
abbrev s_L_error : Stmt := topS 28
abbrev N_L_error : List Str := ["call", "debt", "rate", "number"]
theorem sc_L_error : FnScope N_L_error ["call", "debt", "rate", "number"] (defScope s_L_error) := ⟨rfl, rfl, rfl, by decide +kernel, rfl, by decide +kernel, by decide +kernel⟩
abbrev s_law : Stmt := topS 29
abbrev N_law : List Str := ["script", "draws", "turn", "debt", "rate", "first", "payment", "due", "told", "base", "k", "values", "n", "item", "value", "fault", "word", "wrong", "call", "other", "row"]
theorem sc_law : FnScope N_law ["script"] (defScope s_law) := ⟨rfl, rfl, rfl, by decide +kernel, rfl, by decide +kernel, by decide +kernel⟩
structure Ad where
  f_is_whole : Addr
  d_is_whole : FuncData
  f_P_check : Addr
  d_P_check : FuncData
  f_P_check_payment : Addr
  d_P_check_payment : FuncData
  f_P_row : Addr
  d_P_row : FuncData
  f_plan : Addr
  d_plan : FuncData
  f_P_is_enough : Addr
  d_P_is_enough : FuncData
  f_least_payment : Addr
  d_least_payment : FuncData
  f_P_are_rows : Addr
  d_P_are_rows : FuncData
  f_plan_fault : Addr
  d_plan_fault : FuncData
  f_L_draws : Addr
  d_L_draws : FuncData
  f_L_row : Addr
  d_L_row : FuncData
  f_L_plan : Addr
  d_L_plan : FuncData
  f_L_due : Addr
  d_L_due : FuncData
  f_L_error : Addr
  d_L_error : FuncData
  f_law : Addr
  d_law : FuncData
  c_BadDebt : Addr
  c_BadRate : Addr
  c_BadAmount : Addr
  c_BadCount : Addr
structure Tx (K : PySem.W.Frag) (mg : Str → Option Value) (A : Ad) : Prop where
  is_whole : FnT K mg "is_whole" s_is_whole ["value", "least", "most"] A.f_is_whole A.d_is_whole
  P_check : FnT K mg "_check" s_P_check ["debt", "rate"] A.f_P_check A.d_P_check
  P_check_payment : FnT K mg "_check_payment" s_P_check_payment ["payment"] A.f_P_check_payment A.d_P_check_payment
  P_row : FnT K mg "_row" s_P_row ["left", "rate", "payment"] A.f_P_row A.d_P_row
  plan : FnT K mg "plan" s_plan ["debt", "rate", "payment"] A.f_plan A.d_plan
  P_is_enough : FnT K mg "_is_enough" s_P_is_enough ["debt", "rate", "payment", "periods"] A.f_P_is_enough A.d_P_is_enough
  least_payment : FnT K mg "least_payment" s_least_payment ["debt", "rate", "periods"] A.f_least_payment A.d_least_payment
  P_are_rows : FnT K mg "_are_rows" s_P_are_rows ["value"] A.f_P_are_rows A.d_P_are_rows
  plan_fault : FnT K mg "plan_fault" s_plan_fault ["debt", "rate", "payment", "rows"] A.f_plan_fault A.d_plan_fault
  L_draws : FnT K mg "_law_draws" s_L_draws ["script", "many"] A.f_L_draws A.d_L_draws
  L_row : FnT K mg "_law_row" s_L_row ["left", "rate", "payment"] A.f_L_row A.d_L_row
  L_plan : FnT K mg "_law_plan" s_L_plan ["debt", "rate", "payment"] A.f_L_plan A.d_L_plan
  L_due : FnT K mg "_law_due" s_L_due ["debt", "rate", "payment", "rows"] A.f_L_due A.d_L_due
  L_error : FnT K mg "_law_error" s_L_error ["call", "debt", "rate", "number"] A.f_L_error A.d_L_error
  law : FnT K mg "law" s_law ["script"] A.f_law A.d_law
  n_isinstance : mg "isinstance" = none
  n_bool : mg "bool" = none
  n_int : mg "int" = none
  n_len : mg "len" = none
  n_tuple : mg "tuple" = none
  n_min : mg "min" = none
  n_range : mg "range" = none
  n_all : mg "all" = none
  n_enumerate : mg "enumerate" = none
  n_abs : mg "abs" = none
  n_sum : mg "sum" = none
  n_list : mg "list" = none
  k_MOST_DEBT : ∃ t, mg "MOST_DEBT" = some (.int 1000000000 t)
  k_MOST_OF_RATE : ∃ t, mg "MOST_OF_RATE" = some (.int 1000000 t)
  k_MOST_PAYMENT : ∃ t, mg "MOST_PAYMENT" = some (.int 10000000000000000 t)
  k_MOST_PLAN : ∃ t, mg "MOST_PLAN" = some (.int 1000 t)
  k_MOST_PERIODS : ∃ t, mg "MOST_PERIODS" = some (.int 200 t)
  k_FORM : ∃ t, mg "FORM" = some (.str "form" t)
  x_BadDebt : ExT K mg "BadDebt" A.c_BadDebt
  x_BadRate : ExT K mg "BadRate" A.c_BadRate
  x_BadAmount : ExT K mg "BadAmount" A.c_BadAmount
  x_BadCount : ExT K mg "BadCount" A.c_BadCount
  hg_BadDebt : mg "BadDebt" = some (.ref A.c_BadDebt)
  ha_BadDebt : ExAll K mg (.ref A.c_BadDebt) hc_BadDebt excs
  hg_BadRate : mg "BadRate" = some (.ref A.c_BadRate)
  ha_BadRate : ExAll K mg (.ref A.c_BadRate) hc_BadRate excs
  hg_BadAmount : mg "BadAmount" = some (.ref A.c_BadAmount)
  ha_BadAmount : ExAll K mg (.ref A.c_BadAmount) hc_BadAmount excs
  hg_BadCount : mg "BadCount" = some (.ref A.c_BadCount)
  ha_BadCount : ExAll K mg (.ref A.c_BadCount) hc_BadCount excs
section
variable {P : Program} {w : World} {K : PySem.W.Frag} {mg : Str → Option Value} {base : Heap} {A : Ad}
theorem ok_is_whole (T : Tx K mg A) : FnOk P w K mg base (L2.CX P w) 1 A.f_is_whole A.d_is_whole ["value", "least", "most"] (spD K mg 3 false den_is_whole) :=
 fn_ok (k := 0) (o1 := []) T.is_whole.F sc_is_whole rfl rfl fun _ _ _ _ _ _ C =>
 (ss_one (s_ret (e_and (e_isi .int T.n_isinstance T.n_int (e_var 0)) (e_and (e_not (e_isi .bool T.n_isinstance T.n_bool (e_var 0))) (e_one (e_chain op_le op_le op2_le op2_le (e_var 1) (e_var 0) (e_var 2)))))))
theorem ok_P_check (T : Tx K mg A) (G_is_whole : FnOk P w K mg base (L2.CX P w) 1 A.f_is_whole A.d_is_whole ["value", "least", "most"] (spD K mg 3 false den_is_whole)) : FnOk P w K mg base (L2.CX P w) 2 A.f_P_check A.d_P_check ["debt", "rate"] (spD K mg 2 false den_P_check) :=
 fn_ok (k := 1) (o1 := []) T.P_check.F sc_P_check rfl rfl fun _ _ _ _ _ _ C =>
 (ss_cons (s_if (t_not (t_val (e_call C G_is_whole (by decide) T.is_whole.g T.is_whole.F.kp T.is_whole.b (a_cons (e_var 0) (a_cons e_int (a_cons (e_globI T.k_MOST_DEBT) a_nil))))))
 (ss_one (s_raise C T.x_BadDebt))
 ss_nil)
 (ss_cons (s_if (t_bool (w_or (t_not (t_val (e_isi .tuple T.n_isinstance T.n_tuple (e_var 1)))) (w_or1 (t_ne C (e_blt call_len opA_len T.n_len (a_cons (e_var 1) a_nil)) e_int))))
 (ss_one (s_raise C T.x_BadRate))
 ss_nil)
 (ss_one (s_if (t_bool (w_or (t_not (t_val (e_call C G_is_whole (by decide) T.is_whole.g T.is_whole.F.kp T.is_whole.b (a_cons (e_ix (e_var 1) e_int) (a_cons e_int (a_cons (e_globI T.k_MOST_OF_RATE) a_nil)))))) (w_or1 (t_not (t_val (e_call C G_is_whole (by decide) T.is_whole.g T.is_whole.F.kp T.is_whole.b (a_cons (e_ix (e_var 1) e_int) (a_cons e_int (a_cons (e_globI T.k_MOST_OF_RATE) a_nil)))))))))
 (ss_one (s_raise C T.x_BadRate))
 ss_nil))))
theorem ok_P_check_payment (T : Tx K mg A) (G_is_whole : FnOk P w K mg base (L2.CX P w) 1 A.f_is_whole A.d_is_whole ["value", "least", "most"] (spD K mg 3 false den_is_whole)) : FnOk P w K mg base (L2.CX P w) 2 A.f_P_check_payment A.d_P_check_payment ["payment"] (spD K mg 1 false den_P_check_payment) :=
 fn_ok (k := 1) (o1 := []) T.P_check_payment.F sc_P_check_payment rfl rfl fun _ _ _ _ _ _ C =>
 (ss_one (s_if (t_not (t_val (e_call C G_is_whole (by decide) T.is_whole.g T.is_whole.F.kp T.is_whole.b (a_cons (e_var 0) (a_cons e_int (a_cons (e_globI T.k_MOST_PAYMENT) a_nil))))))
 (ss_one (s_raise C T.x_BadAmount))
 ss_nil))
theorem ok_P_row (T : Tx K mg A) : FnOk P w K mg base (L2.CX P w) 1 A.f_P_row A.d_P_row ["left", "rate", "payment"] (spD K mg 3 false den_P_row) :=
 fn_ok (k := 0) (o1 := []) T.P_row.F sc_P_row rfl rfl fun _ _ _ _ _ _ C =>
 (ss_cons (s_set 3 (o1 := []) C.nd (e_fdiv (e_add (e_mul (e_mul e_int (e_var 0)) (e_ix (e_var 1) e_int)) (e_ix (e_var 1) e_int)) (e_mul e_int (e_ix (e_var 1) e_int))))
 (ss_cons (s_set 4 (o1 := []) C.nd (e_blt (call_min2 C.calm) opA_min2 T.n_min (a_cons (e_var 2) (a_cons (e_add (e_var 0) (e_var 3)) a_nil))))
 (ss_one (s_ret (e_tup (a_cons (e_var 3) (a_cons (e_var 4) (a_cons (e_sub (e_add (e_var 0) (e_var 3)) (e_var 4)) a_nil))))))))
theorem ok_plan (T : Tx K mg A) (G_P_check : FnOk P w K mg base (L2.CX P w) 2 A.f_P_check A.d_P_check ["debt", "rate"] (spD K mg 2 false den_P_check)) (G_P_check_payment : FnOk P w K mg base (L2.CX P w) 2 A.f_P_check_payment A.d_P_check_payment ["payment"] (spD K mg 1 false den_P_check_payment)) (G_P_row : FnOk P w K mg base (L2.CX P w) 1 A.f_P_row A.d_P_row ["left", "rate", "payment"] (spD K mg 3 false den_P_row)) : FnOk P w K mg base (L2.CX P w) 3 A.f_plan A.d_plan ["debt", "rate", "payment"] (spD K mg 3 false den_plan) :=
 fn_ok (k := 2) (o1 := []) T.plan.F sc_plan rfl rfl fun _ _ _ _ _ _ C =>
 (ss_cons (s_expr (e_call C G_P_check (by decide) T.P_check.g T.P_check.F.kp T.P_check.b (a_cons (e_var 0) (a_cons (e_var 1) a_nil))))
 (ss_cons (s_expr (e_call C G_P_check_payment (by decide) T.P_check_payment.g T.P_check_payment.F.kp T.P_check_payment.b (a_cons (e_var 2) a_nil)))
 (ss_cons (s_set 3 (o1 := [3]) C.nd (e_lst a_nil))
 (ss_cons (s_set 4 (o1 := [3]) C.nd (e_var 0))
 (ss_cons (s_while C (t_gt (e_var 4) e_int)
 (ss_cons (s_set 5 (o1 := [3]) C.nd (e_call C G_P_row (by decide) T.P_row.g T.P_row.F.kp T.P_row.b (a_cons (e_var 4) (a_cons (e_var 1) (a_cons (e_var 2) a_nil)))))
 (ss_cons (s_if (t_ge (e_ix (e_var 5) e_int) (e_var 4))
 (ss_one (s_ret (e_tup (a_cons e_str (a_cons (e_ix (e_var 5) e_int) a_nil)))))
 ss_nil)
 (ss_cons (s_set 4 (o1 := [3]) C.nd (e_ix (e_var 5) e_int))
 (ss_cons (s_append 3 (e_var 5))
 (ss_one (s_if (unbT (ow := []) [3] (t_bool (w_and (t_eq C (e_blt call_len opA_len T.n_len (a_cons (e_var 3) a_nil)) (e_globI T.k_MOST_PLAN)) (w_and1 (t_gt (e_var 4) e_int)))))
 (ss_one (s_ret (e_tup (a_cons e_str (a_cons (e_var 4) a_nil)))))
 ss_nil)))))))
 (ss_one (s_pre (ow := []) [3] (s_ret (e_tup (a_cons e_str (a_cons (e_bltTy call_tuple_of opA_tuple T.n_tuple (a_cons (e_var 3) a_nil)) a_nil)))))))))))
theorem ok_P_is_enough (T : Tx K mg A) (G_P_row : FnOk P w K mg base (L2.CX P w) 1 A.f_P_row A.d_P_row ["left", "rate", "payment"] (spD K mg 3 false den_P_row)) : FnOk P w K mg base (L2.CX P w) 2 A.f_P_is_enough A.d_P_is_enough ["debt", "rate", "payment", "periods"] (spD K mg 4 false den_P_is_enough) :=
 fn_ok (k := 1) (o1 := []) T.P_is_enough.F sc_P_is_enough rfl rfl fun _ _ _ _ _ _ C =>
 (ss_cons (s_set 4 (o1 := []) C.nd (e_var 0))
 (ss_cons (s_for C (i_range1 T.n_range (e_var 3)) (g_name 5 C.nd)
 (ss_one (s_set 4 (o1 := []) C.nd (e_ix (e_call C G_P_row (by decide) T.P_row.g T.P_row.F.kp T.P_row.b (a_cons (e_var 4) (a_cons (e_var 1) (a_cons (e_var 2) a_nil)))) e_int))))
 (ss_one (s_ret (e_eq C (e_var 4) e_int)))))
theorem ok_least_payment (T : Tx K mg A) (G_P_check : FnOk P w K mg base (L2.CX P w) 2 A.f_P_check A.d_P_check ["debt", "rate"] (spD K mg 2 false den_P_check)) (G_is_whole : FnOk P w K mg base (L2.CX P w) 1 A.f_is_whole A.d_is_whole ["value", "least", "most"] (spD K mg 3 false den_is_whole)) (G_P_row : FnOk P w K mg base (L2.CX P w) 1 A.f_P_row A.d_P_row ["left", "rate", "payment"] (spD K mg 3 false den_P_row)) (G_P_is_enough : FnOk P w K mg base (L2.CX P w) 2 A.f_P_is_enough A.d_P_is_enough ["debt", "rate", "payment", "periods"] (spD K mg 4 false den_P_is_enough)) : FnOk P w K mg base (L2.CX P w) 3 A.f_least_payment A.d_least_payment ["debt", "rate", "periods"] (spD K mg 3 false den_least_payment) :=
 fn_ok (k := 2) (o1 := []) T.least_payment.F sc_least_payment rfl rfl fun _ _ _ _ _ _ C =>
 (ss_cons (s_expr (e_call C G_P_check (by decide) T.P_check.g T.P_check.F.kp T.P_check.b (a_cons (e_var 0) (a_cons (e_var 1) a_nil))))
 (ss_cons (s_if (t_not (t_val (e_call C G_is_whole (by decide) T.is_whole.g T.is_whole.F.kp T.is_whole.b (a_cons (e_var 2) (a_cons e_int (a_cons (e_globI T.k_MOST_PERIODS) a_nil))))))
 (ss_one (s_raise C T.x_BadCount))
 ss_nil)
 (ss_cons (s_par 3 4 C e_int (e_ix (e_call C G_P_row (by decide) T.P_row.g T.P_row.F.kp T.P_row.b (a_cons (e_var 0) (a_cons (e_var 1) (a_cons e_int a_nil)))) e_int))
 (ss_cons (s_while C (t_lt (e_var 3) (e_var 4))
 (ss_cons (s_set 5 (o1 := []) C.nd (e_fdiv (e_add (e_var 3) (e_var 4)) e_int))
 (ss_one (s_if (t_val (e_call C G_P_is_enough (by decide) T.P_is_enough.g T.P_is_enough.F.kp T.P_is_enough.b (a_cons (e_var 0) (a_cons (e_var 1) (a_cons (e_var 5) (a_cons (e_var 2) a_nil))))))
 (ss_one (s_set 4 (o1 := []) C.nd (e_var 5)))
 (ss_one (s_set 3 (o1 := []) C.nd (e_add (e_var 5) e_int)))))))
 (ss_one (s_ret (e_var 3)))))))
theorem ok_P_are_rows (T : Tx K mg A) : FnOk P w K mg base (L2.CX P w) 1 A.f_P_are_rows A.d_P_are_rows ["value"] (spD K mg 1 false den_P_are_rows) :=
 fn_ok (k := 0) (o1 := []) T.P_are_rows.F sc_P_are_rows rfl rfl fun _ _ _ _ _ _ C =>
 (ss_cons (s_if (t_bool (w_or (t_not (t_val (e_isi .tuple T.n_isinstance T.n_tuple (e_var 0)))) (w_or1 (t_not (t_val (e_blt (cr_all C.calm) opA_all T.n_all (a_cons (fz (e_lc [("one", 1)] C (i_seq (e_var 0)) (blkOk_by (N := N_P_are_rows) (sc := defScope s_P_are_rows) (own := [("one", 1)]) (by decide +kernel)) (fun _ _ _ _ _ => (g_name 1 (C.blk _ _ _ _ _).nd)) (fun _ _ _ _ _ => ts_nil) (fun _ _ _ _ _ => (e_and (e_isi .tuple T.n_isinstance T.n_tuple (e_var 1)) (e_one (e_eq (C.blk _ _ _ _ _) (e_blt call_len opA_len T.n_len (a_cons (e_var 1) a_nil)) e_int)))))) a_nil)))))))
 (ss_one (s_ret e_bl))
 ss_nil)
 (ss_one (s_ret (e_blt (cr_all C.calm) opA_all T.n_all (a_cons (fz (e_lc2 [("one", 1), ("number", 2)] [2] C (i_seq (e_var 0)) (blkOk_by (N := N_P_are_rows) (sc := defScope s_P_are_rows) (own := [("one", 1), ("number", 2)]) (by decide +kernel)) (og_set 1) (fun _ _ _ _ _ => (g_name 1 (C.blk _ _ _ _ _).nd)) (fun _ _ _ _ _ => ts_nil) (fun _ _ _ _ _ => (i_seq (e_var 1))) (fun _ _ _ _ _ => (g_name 2 (C.blk _ _ _ _ _).nd)) (fun _ _ _ _ _ => ts_nil) (fun _ _ _ _ _ => (e_and (e_isi .int T.n_isinstance T.n_int (e_var 2)) (e_one (e_not (e_isi .bool T.n_isinstance T.n_bool (e_var 2)))))))) a_nil)))))
theorem ok_plan_fault (T : Tx K mg A) (G_P_check : FnOk P w K mg base (L2.CX P w) 2 A.f_P_check A.d_P_check ["debt", "rate"] (spD K mg 2 false den_P_check)) (G_P_check_payment : FnOk P w K mg base (L2.CX P w) 2 A.f_P_check_payment A.d_P_check_payment ["payment"] (spD K mg 1 false den_P_check_payment)) (G_P_are_rows : FnOk P w K mg base (L2.CX P w) 1 A.f_P_are_rows A.d_P_are_rows ["value"] (spD K mg 1 false den_P_are_rows)) (G_P_row : FnOk P w K mg base (L2.CX P w) 1 A.f_P_row A.d_P_row ["left", "rate", "payment"] (spD K mg 3 false den_P_row)) : FnOk P w K mg base (L2.CX P w) 3 A.f_plan_fault A.d_plan_fault ["debt", "rate", "payment", "rows"] (spD K mg 4 false den_plan_fault) :=
 fn_ok (k := 2) (o1 := []) T.plan_fault.F sc_plan_fault rfl rfl fun _ _ _ _ _ _ C =>
 (ss_cons (s_expr (e_call C G_P_check (by decide) T.P_check.g T.P_check.F.kp T.P_check.b (a_cons (e_var 0) (a_cons (e_var 1) a_nil))))
 (ss_cons (s_expr (e_call C G_P_check_payment (by decide) T.P_check_payment.g T.P_check_payment.F.kp T.P_check_payment.b (a_cons (e_var 2) a_nil)))
 (ss_cons (s_if (t_not (t_val (e_call C G_P_are_rows (by decide) T.P_are_rows.g T.P_are_rows.F.kp T.P_are_rows.b (a_cons (e_var 3) a_nil))))
 (ss_one (s_ret (e_tup (a_cons (e_globS T.k_FORM) a_nil))))
 ss_nil)
 (ss_cons (s_set 4 (o1 := []) C.nd (e_var 0))
 (ss_cons (s_for C (i_enum T.n_enumerate (e_var 3)) (g_tup C.calm (gs_cons (g_name 5 C.nd) (gs_cons (g_name 6 C.nd) gs_nil)))
 (ss_cons (s_if (t_bool (w_or (t_eq C (e_var 4) e_int) (w_or1 (t_ne C (e_var 6) (e_call C G_P_row (by decide) T.P_row.g T.P_row.F.kp T.P_row.b (a_cons (e_var 4) (a_cons (e_var 1) (a_cons (e_var 2) a_nil))))))))
 (ss_one (s_ret (e_tup (a_cons e_str (a_cons (e_var 5) a_nil)))))
 ss_nil)
 (ss_one (s_set 4 (o1 := []) C.nd (e_ix (e_var 6) e_int)))))
 (ss_one (s_ret (e_if (t_eq C (e_var 4) e_int) e_non (e_tup (a_cons e_str (a_cons (e_blt call_len opA_len T.n_len (a_cons (e_var 3) a_nil)) a_nil)))))))))))
theorem ok_L_draws (T : Tx K mg A) : FnOk P w K mg base (L2.CX P w) 1 A.f_L_draws A.d_L_draws ["script", "many"] (spD K mg 2 false den_L_draws) :=
 fn_ok (k := 0) (o1 := []) T.L_draws.F sc_L_draws rfl rfl fun _ _ _ _ _ _ C =>
 (ss_cons (s_set 2 (o1 := [2]) C.nd (e_lst a_nil))
 (ss_cons (s_set 3 (o1 := [2]) C.nd e_int)
 (ss_cons (s_for C (i_seq (e_slice (e_var 0) o_none (o_some e_int))) (g_name 4 C.nd)
 (ss_cons (s_set 5 (o1 := [2]) C.nd (e_blt call_abs opA_abs T.n_abs (a_cons (e_var 4) a_nil)))
 (ss_cons (s_set 3 (o1 := [2]) C.nd (e_mod (e_bltTy call_int1 opA_int T.n_int (a_cons (e_add (e_add (e_mul (e_var 3) e_int) (e_var 5)) e_int) a_nil)) e_int))
 (ss_one (s_if (t_ge (e_var 5) (e_pow e_int e_int))
 (ss_one (s_for C (i_range1 T.n_range e_int) (g_name 6 C.nd)
 (ss_one (s_if (t_gt (e_var 5) e_int)
 (ss_cons (s_append 2 (e_mod (e_bltTy call_int1 opA_int T.n_int (a_cons (e_var 5) a_nil)) e_int))
 (ss_one (s_set 5 (o1 := [2]) C.nd (e_fdiv (e_var 5) e_int))))
 ss_nil))))
 (ss_one (s_append 2 (e_mod (e_fdiv (e_bltTy call_int1 opA_int T.n_int (a_cons (e_add (e_mul (e_var 3) e_int) e_int) a_nil)) e_int) e_int))))))))
 (ss_cons (s_for C (i_range1 T.n_range (e_var 1)) (g_name 6 C.nd)
 (ss_one (s_if (unbT (ow := []) [2] (t_lt (e_blt call_len opA_len T.n_len (a_cons (e_var 2) a_nil)) (e_var 1)))
 (ss_cons (s_set 3 (o1 := [2]) C.nd (e_mod (e_bltTy call_int1 opA_int T.n_int (a_cons (e_add (e_add (e_mul (e_var 3) e_int) (e_var 6)) e_int) a_nil)) e_int))
 (ss_one (s_append 2 (e_mod (e_fdiv (e_bltTy call_int1 opA_int T.n_int (a_cons (e_var 3) a_nil)) e_int) e_int))))
 ss_nil)))
 (ss_one (s_pre (ow := []) [2] (s_ret (e_slice (e_var 2) o_none (o_some (e_var 1))))))))))
theorem ok_L_row (T : Tx K mg A) : FnOk P w K mg base (L2.CX P w) 1 A.f_L_row A.d_L_row ["left", "rate", "payment"] (spD K mg 3 false den_L_row) :=
 fn_ok (k := 0) (o1 := []) T.L_row.F sc_L_row rfl rfl fun _ _ _ _ _ _ C =>
 (ss_cons (s_asg (e_var 1) (g_tup C.calm (gs_cons (g_name 3 C.nd) (gs_cons (g_name 4 C.nd) gs_nil))))
 (ss_cons (s_par 5 6 C (e_fdiv (e_mul (e_var 0) (e_var 3)) (e_var 4)) (e_mod (e_mul (e_var 0) (e_var 3)) (e_var 4)))
 (ss_cons (s_set 7 (o1 := []) C.nd (e_add (e_var 5) (e_bltTy call_int1 opA_int T.n_int (a_cons (e_ge (e_mul e_int (e_var 6)) (e_var 4)) a_nil))))
 (ss_cons (s_set 8 (o1 := []) C.nd (e_if (t_lt (e_var 2) (e_add (e_var 0) (e_var 7))) (e_var 2) (e_add (e_var 0) (e_var 7))))
 (ss_one (s_ret (e_tup (a_cons (e_var 7) (a_cons (e_var 8) (a_cons (e_sub (e_add (e_var 0) (e_var 7)) (e_var 8)) a_nil))))))))))
theorem ok_L_plan (T : Tx K mg A) (G_L_row : FnOk P w K mg base (L2.CX P w) 1 A.f_L_row A.d_L_row ["left", "rate", "payment"] (spD K mg 3 false den_L_row)) : FnOk P w K mg base (L2.CX P w) 2 A.f_L_plan A.d_L_plan ["debt", "rate", "payment"] (spD K mg 3 false den_L_plan) :=
 fn_ok (k := 1) (o1 := []) T.L_plan.F sc_L_plan rfl rfl fun _ _ _ _ _ _ C =>
 (ss_cons (s_par 3 4 C (e_tup a_nil) (e_var 0))
 (ss_cons (s_for C (i_range1 T.n_range e_int) (g_name 5 C.nd)
 (ss_cons (s_set 6 (o1 := []) C.nd (e_call C G_L_row (by decide) T.L_row.g T.L_row.F.kp T.L_row.b (a_cons (e_var 4) (a_cons (e_var 1) (a_cons (e_var 2) a_nil)))))
 (ss_cons (s_if (t_ge (e_ix (e_var 6) e_int) (e_var 4))
 (ss_one (s_ret (e_tup (a_cons e_str (a_cons (e_ix (e_var 6) e_int) a_nil)))))
 ss_nil)
 (ss_cons (s_par 3 4 C (e_add (e_var 3) (e_tup (a_cons (e_var 6) a_nil))) (e_ix (e_var 6) e_int))
 (ss_one (s_if (t_eq C (e_var 4) e_int)
 (ss_one (s_ret (e_tup (a_cons e_str (a_cons (e_var 3) a_nil)))))
 ss_nil))))))
 (ss_one (s_ret (e_tup (a_cons e_str (a_cons (e_var 4) a_nil)))))))
theorem ok_L_due (T : Tx K mg A) (G_L_row : FnOk P w K mg base (L2.CX P w) 1 A.f_L_row A.d_L_row ["left", "rate", "payment"] (spD K mg 3 false den_L_row)) : FnOk P w K mg base (L2.CX P w) 2 A.f_L_due A.d_L_due ["debt", "rate", "payment", "rows"] (spD K mg 4 false den_L_due) :=
 fn_ok (k := 1) (o1 := []) T.L_due.F sc_L_due rfl rfl fun _ _ _ _ _ _ C =>
 (ss_cons (s_if (t_not (t_val (e_isi .tuple T.n_isinstance T.n_tuple (e_var 3))))
 (ss_one (s_ret (e_tup (a_cons e_str a_nil))))
 ss_nil)
 (ss_cons (s_for C (i_seq (e_var 3)) (g_name 4 C.nd)
 (ss_one (s_if (t_bool (w_or (t_not (t_val (e_isi .tuple T.n_isinstance T.n_tuple (e_var 4)))) (w_or (t_ne C (e_blt call_len opA_len T.n_len (a_cons (e_var 4) a_nil)) e_int) (w_or1 (t_not (t_val (e_blt (cr_all C.calm) opA_all T.n_all (a_cons (fz (e_lc [("one", 7)] C (i_seq (e_var 4)) (blkOk_by (N := N_L_due) (sc := defScope s_L_due) (own := [("one", 7)]) (by decide +kernel)) (fun _ _ _ _ _ => (g_name 7 (C.blk _ _ _ _ _).nd)) (fun _ _ _ _ _ => ts_nil) (fun _ _ _ _ _ => (e_and (e_isi .int T.n_isinstance T.n_int (e_var 7)) (e_one (e_not (e_isi .bool T.n_isinstance T.n_bool (e_var 7)))))))) a_nil))))))))
 (ss_one (s_ret (e_tup (a_cons e_str a_nil))))
 ss_nil)))
 (ss_cons (s_set 5 (o1 := []) C.nd (e_var 0))
 (ss_cons (s_for C (i_range1 T.n_range (e_blt call_len opA_len T.n_len (a_cons (e_var 3) a_nil))) (g_name 6 C.nd)
 (ss_cons (s_if (t_bool (w_or (t_eq C (e_var 5) e_int) (w_or1 (t_ne C (e_ix (e_var 3) (e_var 6)) (e_call C G_L_row (by decide) T.L_row.g T.L_row.F.kp T.L_row.b (a_cons (e_var 5) (a_cons (e_var 1) (a_cons (e_var 2) a_nil))))))))
 (ss_one (s_ret (e_tup (a_cons e_str (a_cons (e_var 6) a_nil)))))
 ss_nil)
 (ss_one (s_set 5 (o1 := []) C.nd (e_ix (e_ix (e_var 3) (e_var 6)) e_int)))))
 (ss_one (s_ret (e_if (t_gt (e_var 5) e_int) (e_tup (a_cons e_str (a_cons (e_blt call_len opA_len T.n_len (a_cons (e_var 3) a_nil)) a_nil))) e_non)))))))
theorem ok_L_error (T : Tx K mg A) (G_plan : FnOk P w K mg base (L2.CX P w) 3 A.f_plan A.d_plan ["debt", "rate", "payment"] (spD K mg 3 false den_plan)) (G_plan_fault : FnOk P w K mg base (L2.CX P w) 3 A.f_plan_fault A.d_plan_fault ["debt", "rate", "payment", "rows"] (spD K mg 4 false den_plan_fault)) (G_least_payment : FnOk P w K mg base (L2.CX P w) 3 A.f_least_payment A.d_least_payment ["debt", "rate", "periods"] (spD K mg 3 false den_least_payment)) : FnOk P w K mg base (L2.CX P w) 4 A.f_L_error A.d_L_error ["call", "debt", "rate", "number"] (spD K mg 4 false den_L_error) :=
 fn_ok (k := 3) (o1 := []) T.L_error.F sc_L_error rfl rfl fun _ _ _ _ _ _ C =>
 (ss_cons (s_try C (fun _ _ _ C => (ss_one (s_if (t_eq C (e_var 0) e_int)
 (ss_one (s_expr (e_call C G_plan (by decide) T.plan.g T.plan.F.kp T.plan.b (a_cons (e_var 1) (a_cons (e_var 2) (a_cons (e_var 3) a_nil))))))
 (ss_one (s_if (t_eq C (e_var 0) e_int)
 (ss_one (s_expr (e_call C G_plan_fault (by decide) T.plan_fault.g T.plan_fault.F.kp T.plan_fault.b (a_cons (e_var 1) (a_cons (e_var 2) (a_cons (e_var 3) (a_cons e_non a_nil)))))))
 (ss_one (s_expr (e_call C G_least_payment (by decide) T.least_payment.g T.least_payment.F.kp T.least_payment.b (a_cons (e_var 1) (a_cons (e_var 2) (a_cons (e_var 3) a_nil))))))))))) (.cons T.hg_BadDebt T.ha_BadDebt (fun _ _ _ => (ss_one (s_ret e_str))) (.cons T.hg_BadRate T.ha_BadRate (fun _ _ _ => (ss_one (s_ret e_str))) (.cons T.hg_BadAmount T.ha_BadAmount (fun _ _ _ => (ss_one (s_ret e_str))) (.cons T.hg_BadCount T.ha_BadCount (fun _ _ _ => (ss_one (s_ret e_str))) .nil)))))
 (ss_one (s_ret e_str)))
theorem ok_law (T : Tx K mg A) (G_L_draws : FnOk P w K mg base (L2.CX P w) 1 A.f_L_draws A.d_L_draws ["script", "many"] (spD K mg 2 false den_L_draws)) (G_L_row : FnOk P w K mg base (L2.CX P w) 1 A.f_L_row A.d_L_row ["left", "rate", "payment"] (spD K mg 3 false den_L_row)) (G_L_plan : FnOk P w K mg base (L2.CX P w) 2 A.f_L_plan A.d_L_plan ["debt", "rate", "payment"] (spD K mg 3 false den_L_plan)) (G_plan : FnOk P w K mg base (L2.CX P w) 3 A.f_plan A.d_plan ["debt", "rate", "payment"] (spD K mg 3 false den_plan)) (G_plan_fault : FnOk P w K mg base (L2.CX P w) 3 A.f_plan_fault A.d_plan_fault ["debt", "rate", "payment", "rows"] (spD K mg 4 false den_plan_fault)) (G_L_due : FnOk P w K mg base (L2.CX P w) 2 A.f_L_due A.d_L_due ["debt", "rate", "payment", "rows"] (spD K mg 4 false den_L_due)) (G_L_error : FnOk P w K mg base (L2.CX P w) 4 A.f_L_error A.d_L_error ["call", "debt", "rate", "number"] (spD K mg 4 false den_L_error)) : FnOk P w K mg base (L2.CX P w) 5 A.f_law A.d_law ["script"] (spD K mg 1 false den_law) :=
 fn_ok (k := 4) (o1 := []) T.law.F sc_law rfl rfl fun _ _ _ _ _ _ C =>
 (ss_cons (s_set 1 (o1 := []) C.nd (e_call C G_L_draws (by decide) T.L_draws.g T.L_draws.F.kp T.L_draws.b (a_cons (e_var 0) (a_cons e_int a_nil))))
 (ss_cons (s_for C (i_range1 T.n_range e_int) (g_name 2 C.nd)
 (ss_cons (s_set 3 (o1 := []) C.nd (e_add e_int (e_mul (e_mod (e_bltTy call_int1 opA_int T.n_int (a_cons (e_ix (e_var 1) (e_var 2)) a_nil)) (e_ix (fz (e_lst (a_cons e_int (a_cons e_int (a_cons e_int (a_cons e_int a_nil)))))) (e_var 2))) (e_ix (fz (e_lst (a_cons e_int (a_cons e_int (a_cons e_int (a_cons e_int a_nil)))))) (e_var 2)))))
 (ss_cons (s_set 4 (o1 := []) C.nd (e_tup (a_cons (e_mod (e_bltTy call_int1 opA_int T.n_int (a_cons (e_ix (e_var 1) (e_add e_int (e_var 2))) a_nil)) (e_ix (fz (e_lst (a_cons e_int (a_cons e_int (a_cons e_int (a_cons e_int a_nil)))))) (e_var 2))) (a_cons (e_add e_int (e_mod (e_bltTy call_int1 opA_int T.n_int (a_cons (e_ix (e_var 1) (e_add e_int (e_var 2))) a_nil)) (e_ix (fz (e_lst (a_cons e_int (a_cons e_int (a_cons e_int (a_cons e_int a_nil)))))) (e_var 2)))) a_nil))))
 (ss_cons (s_set 5 (o1 := []) C.nd (e_ix (e_call C G_L_row (by decide) T.L_row.g T.L_row.F.kp T.L_row.b (a_cons (e_var 3) (a_cons (e_var 4) (a_cons e_int a_nil)))) e_int))
 (ss_cons (s_for C (i_seq (fz (e_lst (a_cons e_int (a_cons (e_var 5) (a_cons (e_add (e_var 5) e_int) (a_cons (e_add (e_add (e_var 5) e_int) (e_mod (e_bltTy call_int1 opA_int T.n_int (a_cons (e_ix (e_var 1) (e_add e_int (e_var 2))) a_nil)) (e_add e_int (e_fdiv (e_var 3) e_int)))) (a_cons (e_add (e_var 3) (e_var 5)) (a_cons (e_pow e_int e_int) a_nil))))))))) (g_name 6 C.nd)
 (ss_one (s_if (t_gt (e_var 6) e_int)
 (ss_cons (s_par 7 8 C (e_call C G_L_plan (by decide) T.L_plan.g T.L_plan.F.kp T.L_plan.b (a_cons (e_var 3) (a_cons (e_var 4) (a_cons (e_var 6) a_nil)))) (e_call C G_plan (by decide) T.plan.g T.plan.F.kp T.plan.b (a_cons (e_var 3) (a_cons (e_var 4) (a_cons (e_var 6) a_nil)))))
 (ss_cons (s_if (t_bool (w_or (t_not (t_val (e_isi .tuple T.n_isinstance T.n_tuple (e_var 8)))) (w_or (t_ne C (e_var 8) (e_var 7)) (w_or1 (t_val (e_isi .bool T.n_isinstance T.n_bool (e_ix (e_var 8) e_int)))))))
 (ss_one (s_ret e_bl))
 ss_nil)
 (ss_cons (s_set 9 (o1 := []) C.nd (e_if (t_eq C (e_ix (e_var 8) e_int) e_str) (e_ix (e_var 8) e_int) (e_tup (a_cons (e_call C G_L_row (by decide) T.L_row.g T.L_row.F.kp T.L_row.b (a_cons (e_var 3) (a_cons (e_var 4) (a_cons (e_var 6) a_nil)))) a_nil))))
 (ss_cons (s_if (t_bool (w_and (t_eq C (e_ix (e_var 8) e_int) e_str) (w_and1 (t_bool (w_or (t_ne C (e_blt ((cr_sum C.calm).or (cr_sumT C.calm)) opA_sum T.n_sum (a_cons (fz (e_lc [("row", 20)] C (i_seq (e_var 9)) (blkOk_by (N := N_law) (sc := defScope s_law) (own := [("row", 20)]) (by decide +kernel)) (fun _ _ _ _ _ => (g_name 20 (C.blk _ _ _ _ _).nd)) (fun _ _ _ _ _ => ts_nil) (fun _ _ _ _ _ => (e_ix (e_var 20) e_int)))) a_nil)) (e_add (e_var 3) (e_blt ((cr_sum C.calm).or (cr_sumT C.calm)) opA_sum T.n_sum (a_cons (fz (e_lc [("row", 20)] C (i_seq (e_var 9)) (blkOk_by (N := N_law) (sc := defScope s_law) (own := [("row", 20)]) (by decide +kernel)) (fun _ _ _ _ _ => (g_name 20 (C.blk _ _ _ _ _).nd)) (fun _ _ _ _ _ => ts_nil) (fun _ _ _ _ _ => (e_ix (e_var 20) e_int)))) a_nil)))) (w_or1 (t_notN (e_call C G_plan_fault (by decide) T.plan_fault.g T.plan_fault.F.kp T.plan_fault.b (a_cons (e_var 3) (a_cons (e_var 4) (a_cons (e_var 6) (a_cons (e_var 9) a_nil))))))))))))
 (ss_one (s_ret e_bl))
 ss_nil)
 (ss_cons (s_set 10 (o1 := []) C.nd (e_mod (e_bltTy call_int1 opA_int T.n_int (a_cons (e_ix (e_var 1) (e_add e_int (e_var 2))) a_nil)) (e_blt call_len opA_len T.n_len (a_cons (e_var 9) a_nil))))
 (ss_cons (s_set 11 (o1 := [11]) C.nd (e_lst (a_cons (e_var 9) (a_cons (e_slice (e_var 9) (o_some e_int) o_none) (a_cons (e_slice (e_var 9) o_none (o_some (e_neg e_int))) (a_cons (e_add (e_var 9) (e_slice (e_var 9) (o_some (e_neg e_int)) o_none)) (a_cons (e_add (e_var 9) (e_tup (a_cons (e_tup (a_cons e_int (a_cons e_int (a_cons e_int a_nil)))) a_nil))) (a_cons (e_tup a_nil) (a_cons e_non (a_cons (fz (e_bltTy call_list_of opA_list T.n_list (a_cons (e_var 9) a_nil))) (a_cons e_int a_nil)))))))))))
 (ss_cons (s_set 11 (o1 := [11]) C.nd (e_catOwn 11 (fz (e_lc [("other", 19)] C (i_seq (fz (e_lst (a_cons e_non (a_cons (e_slice (e_ix (e_var 9) (e_var 10)) o_none (o_some e_int)) (a_cons (fz (e_bltTy call_list_of opA_list T.n_list (a_cons (e_ix (e_var 9) (e_var 10)) a_nil))) a_nil)))))) (blkOk_by (N := N_law) (sc := defScope s_law) (own := [("other", 19)]) (by decide +kernel)) (fun _ _ _ _ _ => (g_name 19 (C.blk _ _ _ _ _).nd)) (fun _ _ _ _ _ => ts_nil) (fun _ _ _ _ _ => (e_add (e_add (e_slice (e_var 9) o_none (o_some (e_var 10))) (e_tup (a_cons (e_var 19) a_nil))) (e_slice (e_var 9) (o_some (e_add (e_var 10) e_int)) o_none)))))))
 (ss_cons (s_for C (i_range1 T.n_range (e_if (t_lt (e_blt call_len opA_len T.n_len (a_cons (e_var 9) a_nil)) e_int) e_int e_int)) (g_name 12 C.nd)
 (ss_one (s_for C (i_seq (fz (e_lst (a_cons (e_add (e_ix (e_ix (e_var 9) (e_var 10)) (e_var 12)) e_int) (a_cons (e_sub (e_ix (e_ix (e_var 9) (e_var 10)) (e_var 12)) e_int) (a_cons e_int (a_cons e_bl (a_cons e_non (a_cons e_str a_nil))))))))) (g_name 13 C.nd)
 (ss_one (s_append 11 (e_add (e_add (e_slice (e_var 9) o_none (o_some (e_var 10))) (e_tup (a_cons (e_add (e_add (e_slice (e_ix (e_var 9) (e_var 10)) o_none (o_some (e_var 12))) (e_tup (a_cons (e_var 13) a_nil))) (e_slice (e_ix (e_var 9) (e_var 10)) (o_some (e_add (e_var 12) e_int)) o_none)) a_nil))) (e_slice (e_var 9) (o_some (e_add (e_var 10) e_int)) o_none)))))))
 (ss_one (s_pre (ow := []) [11] (s_for C (i_seq (e_var 11)) (g_name 14 C.nd)
 (ss_cons (s_par 15 16 C (e_call C G_L_due (by decide) T.L_due.g T.L_due.F.kp T.L_due.b (a_cons (e_var 3) (a_cons (e_var 4) (a_cons (e_var 6) (a_cons (e_var 14) a_nil))))) (e_call C G_plan_fault (by decide) T.plan_fault.g T.plan_fault.F.kp T.plan_fault.b (a_cons (e_var 3) (a_cons (e_var 4) (a_cons (e_var 6) (a_cons (e_var 14) a_nil))))))
 (ss_one (s_if (t_bool (w_or (t_ne C (e_var 16) (e_var 15)) (w_or1 (t_bool (w_and (t_isN (e_var 15)) (w_and1 (t_bool (w_or (t_notN (e_var 16)) (w_or1 (t_ne C (e_var 8) (e_tup (a_cons e_str (a_cons (e_var 14) a_nil)))))))))))))
 (ss_one (s_ret e_bl))
 ss_nil))))))))))))))
 ss_nil)))
 (ss_cons (s_for C (i_seq (fz (e_lst (a_cons e_int (a_cons (e_neg e_int) (a_cons (e_add (e_pow e_int e_int) e_int) (a_cons e_bl (a_cons e_non (a_cons e_str a_nil))))))))) (g_name 17 C.nd)
 (ss_one (s_if (t_ne C (fz (e_lc [("call", 18)] C (i_range1 T.n_range e_int) (blkOk_by (N := N_law) (sc := defScope s_law) (own := [("call", 18)]) (by decide +kernel)) (fun _ _ _ _ _ => (g_name 18 (C.blk _ _ _ _ _).nd)) (fun _ _ _ _ _ => ts_nil) (fun _ _ _ _ _ => (e_call (C.blk _ _ _ _ _) G_L_error (by decide) T.L_error.g T.L_error.F.kp T.L_error.b (a_cons (e_var 18) (a_cons (e_var 17) (a_cons e_non (a_cons e_non a_nil)))))))) (e_mul (fz (e_lst (a_cons e_str a_nil))) e_int))
 (ss_one (s_ret e_bl))
 ss_nil)))
 (ss_cons (s_for C (i_seq (fz (e_lst (a_cons e_non (a_cons (e_tup (a_cons e_int a_nil)) (a_cons (fz (e_lst (a_cons e_int (a_cons e_int a_nil)))) (a_cons (e_tup (a_cons (e_neg e_int) (a_cons e_int a_nil))) (a_cons (e_tup (a_cons e_int (a_cons e_int a_nil))) (a_cons (e_tup (a_cons (e_add (e_pow e_int e_int) e_int) (a_cons e_int a_nil))) (a_cons (e_tup (a_cons e_int (a_cons (e_add (e_pow e_int e_int) e_int) a_nil))) (a_cons (e_tup (a_cons e_bl (a_cons e_int a_nil))) (a_cons (e_tup (a_cons e_int (a_cons e_bl a_nil))) (a_cons e_str a_nil))))))))))))) (g_name 17 C.nd)
 (ss_one (s_if (t_ne C (fz (e_lc [("call", 18)] C (i_range1 T.n_range e_int) (blkOk_by (N := N_law) (sc := defScope s_law) (own := [("call", 18)]) (by decide +kernel)) (fun _ _ _ _ _ => (g_name 18 (C.blk _ _ _ _ _).nd)) (fun _ _ _ _ _ => ts_nil) (fun _ _ _ _ _ => (e_call (C.blk _ _ _ _ _) G_L_error (by decide) T.L_error.g T.L_error.F.kp T.L_error.b (a_cons (e_var 18) (a_cons (e_var 3) (a_cons (e_var 17) (a_cons e_non a_nil)))))))) (e_mul (fz (e_lst (a_cons e_str a_nil))) e_int))
 (ss_one (s_ret e_bl))
 ss_nil)))
 (ss_one (s_for C (i_seq (fz (e_lst (a_cons e_int (a_cons (e_neg e_int) (a_cons (e_add (e_pow e_int e_int) e_int) (a_cons e_bl (a_cons e_non (a_cons e_str a_nil))))))))) (g_name 17 C.nd)
 (ss_one (s_if (t_ne C (fz (e_lc [("call", 18)] C (i_range1 T.n_range e_int) (blkOk_by (N := N_law) (sc := defScope s_law) (own := [("call", 18)]) (by decide +kernel)) (fun _ _ _ _ _ => (g_name 18 (C.blk _ _ _ _ _).nd)) (fun _ _ _ _ _ => ts_nil) (fun _ _ _ _ _ => (e_call (C.blk _ _ _ _ _) G_L_error (by decide) T.L_error.g T.L_error.F.kp T.L_error.b (a_cons (e_var 18) (a_cons (e_var 3) (a_cons (e_var 4) (a_cons (e_var 17) a_nil)))))))) (fz (e_lst (a_cons e_str (a_cons e_str (a_cons e_str a_nil))))))
 (ss_one (s_ret e_bl))
 ss_nil)))))))))))
 (ss_one (s_ret (e_and (e_eq C (e_call C G_plan (by decide) T.plan.g T.plan.F.kp T.plan.b (a_cons e_int (a_cons (e_tup (a_cons e_int (a_cons e_int a_nil))) (a_cons e_int a_nil)))) (e_tup (a_cons e_str (a_cons (e_tup (a_cons (e_tup (a_cons e_int (a_cons e_int (a_cons e_int a_nil)))) (a_cons (e_tup (a_cons e_int (a_cons e_int (a_cons e_int a_nil)))) a_nil))) a_nil)))) (e_and (e_eq C (e_call C G_plan (by decide) T.plan.g T.plan.F.kp T.plan.b (a_cons e_int (a_cons (e_tup (a_cons e_int (a_cons e_int a_nil))) (a_cons e_int a_nil)))) (e_tup (a_cons e_str (a_cons e_int a_nil)))) (e_one (e_eq C (e_call C G_plan (by decide) T.plan.g T.plan.F.kp T.plan.b (a_cons (e_pow e_int e_int) (a_cons (e_tup (a_cons e_int (a_cons e_int a_nil))) (a_cons e_int a_nil)))) (e_tup (a_cons e_str (a_cons (e_sub (e_pow e_int e_int) e_int) a_nil)))))))))))
theorem ok_all (T : Tx K mg A) : FnOk P w K mg base (L2.CX P w) 5 A.f_law A.d_law ["script"] (spD K mg 1 false den_law) := by
  have G_is_whole := ok_is_whole (P := P) (w := w) (base := base) T
  have G_P_check := ok_P_check (P := P) (w := w) (base := base) T G_is_whole
  have G_P_check_payment := ok_P_check_payment (P := P) (w := w) (base := base) T G_is_whole
  have G_P_row := ok_P_row (P := P) (w := w) (base := base) T
  have G_plan := ok_plan (P := P) (w := w) (base := base) T G_P_check G_P_check_payment G_P_row
  have G_P_is_enough := ok_P_is_enough (P := P) (w := w) (base := base) T G_P_row
  have G_least_payment := ok_least_payment (P := P) (w := w) (base := base) T G_P_check G_is_whole G_P_row G_P_is_enough
  have G_P_are_rows := ok_P_are_rows (P := P) (w := w) (base := base) T
  have G_plan_fault := ok_plan_fault (P := P) (w := w) (base := base) T G_P_check G_P_check_payment G_P_are_rows G_P_row
  have G_L_draws := ok_L_draws (P := P) (w := w) (base := base) T
  have G_L_row := ok_L_row (P := P) (w := w) (base := base) T
  have G_L_plan := ok_L_plan (P := P) (w := w) (base := base) T G_L_row
  have G_L_due := ok_L_due (P := P) (w := w) (base := base) T G_L_row
  have G_L_error := ok_L_error (P := P) (w := w) (base := base) T G_plan G_plan_fault G_least_payment
  have G_law := ok_law (P := P) (w := w) (base := base) T G_L_draws G_L_row G_L_plan G_plan G_plan_fault G_L_due G_L_error
  exact G_law
end
theorem all_mk {l : PySem.W.OpenLaw} {w : World} {K : PySem.W.Frag} {h : Heap} {mg : Str → Option Value} {fa : Addr} (X : K.In h) (G : h.Ns mainGlobals mg) (hfa : mg "law" = some (.ref fa))
  {f0 : Addr} {oc0 kV0 dc0 pm0 cd0 ct0 : Value} {od0 an0 : Option Addr} {sl0 : Array (Option Value)}
  {f1 : Addr} {oc1 kV1 dc1 pm1 cd1 ct1 : Value} {od1 an1 : Option Addr} {sl1 : Array (Option Value)}
  {f2 : Addr} {oc2 kV2 dc2 pm2 cd2 ct2 : Value} {od2 an2 : Option Addr} {sl2 : Array (Option Value)}
  {f3 : Addr} {oc3 kV3 dc3 pm3 cd3 ct3 : Value} {od3 an3 : Option Addr} {sl3 : Array (Option Value)}
  {f4 : Addr} {oc4 kV4 dc4 pm4 cd4 ct4 : Value} {od4 an4 : Option Addr} {sl4 : Array (Option Value)}
  {f5 : Addr} {oc5 kV5 dc5 pm5 cd5 ct5 : Value} {od5 an5 : Option Addr} {sl5 : Array (Option Value)}
  {f6 : Addr} {oc6 kV6 dc6 pm6 cd6 ct6 : Value} {od6 an6 : Option Addr} {sl6 : Array (Option Value)}
  {f7 : Addr} {oc7 kV7 dc7 pm7 cd7 ct7 : Value} {od7 an7 : Option Addr} {sl7 : Array (Option Value)}
  {f8 : Addr} {oc8 kV8 dc8 pm8 cd8 ct8 : Value} {od8 an8 : Option Addr} {sl8 : Array (Option Value)}
  {f9 : Addr} {oc9 kV9 dc9 pm9 cd9 ct9 : Value} {od9 an9 : Option Addr} {sl9 : Array (Option Value)}
  {f10 : Addr} {oc10 kV10 dc10 pm10 cd10 ct10 : Value} {od10 an10 : Option Addr} {sl10 : Array (Option Value)}
  {f11 : Addr} {oc11 kV11 dc11 pm11 cd11 ct11 : Value} {od11 an11 : Option Addr} {sl11 : Array (Option Value)}
  {f12 : Addr} {oc12 kV12 dc12 pm12 cd12 ct12 : Value} {od12 an12 : Option Addr} {sl12 : Array (Option Value)}
  {f13 : Addr} {oc13 kV13 dc13 pm13 cd13 ct13 : Value} {od13 an13 : Option Addr} {sl13 : Array (Option Value)}
  {f14 : Addr} {oc14 kV14 dc14 pm14 cd14 ct14 : Value} {od14 an14 : Option Addr} {sl14 : Array (Option Value)}
  {t0 : Tok}
  {t1 : Tok}
  {t2 : Tok}
  {t3 : Tok}
  {t4 : Tok}
  {t5 : Tok}
  {e0 : Addr}
  {e1 : Addr}
  {e2 : Addr}
  {e3 : Addr}
  (a0 : PySem.W.nsIn K mainGlobals "is_whole" = some (some (.ref f0)))
  (l0 : K.lookup f0 = some ⟨oc0, od0, .func (PySem.W.fnOf "is_whole" "is_whole" (defArgs s_is_whole) (defBody s_is_whole) (defScope s_is_whole) .none kV0 dc0 pm0 an0 cd0 ct0), sl0⟩)
  (c0 : PySem.W.codeIn K cd0 "is_whole" = true)
  (k0 : PySem.W.keepIn K (.ref f0) = true)
  (a1 : PySem.W.nsIn K mainGlobals "_check" = some (some (.ref f1)))
  (l1 : K.lookup f1 = some ⟨oc1, od1, .func (PySem.W.fnOf "_check" "_check" (defArgs s_P_check) (defBody s_P_check) (defScope s_P_check) .none kV1 dc1 pm1 an1 cd1 ct1), sl1⟩)
  (c1 : PySem.W.codeIn K cd1 "_check" = true)
  (k1 : PySem.W.keepIn K (.ref f1) = true)
  (a2 : PySem.W.nsIn K mainGlobals "_check_payment" = some (some (.ref f2)))
  (l2 : K.lookup f2 = some ⟨oc2, od2, .func (PySem.W.fnOf "_check_payment" "_check_payment" (defArgs s_P_check_payment) (defBody s_P_check_payment) (defScope s_P_check_payment) .none kV2 dc2 pm2 an2 cd2 ct2), sl2⟩)
  (c2 : PySem.W.codeIn K cd2 "_check_payment" = true)
  (k2 : PySem.W.keepIn K (.ref f2) = true)
  (a3 : PySem.W.nsIn K mainGlobals "_row" = some (some (.ref f3)))
  (l3 : K.lookup f3 = some ⟨oc3, od3, .func (PySem.W.fnOf "_row" "_row" (defArgs s_P_row) (defBody s_P_row) (defScope s_P_row) .none kV3 dc3 pm3 an3 cd3 ct3), sl3⟩)
  (c3 : PySem.W.codeIn K cd3 "_row" = true)
  (k3 : PySem.W.keepIn K (.ref f3) = true)
  (a4 : PySem.W.nsIn K mainGlobals "plan" = some (some (.ref f4)))
  (l4 : K.lookup f4 = some ⟨oc4, od4, .func (PySem.W.fnOf "plan" "plan" (defArgs s_plan) (defBody s_plan) (defScope s_plan) .none kV4 dc4 pm4 an4 cd4 ct4), sl4⟩)
  (c4 : PySem.W.codeIn K cd4 "plan" = true)
  (k4 : PySem.W.keepIn K (.ref f4) = true)
  (a5 : PySem.W.nsIn K mainGlobals "_is_enough" = some (some (.ref f5)))
  (l5 : K.lookup f5 = some ⟨oc5, od5, .func (PySem.W.fnOf "_is_enough" "_is_enough" (defArgs s_P_is_enough) (defBody s_P_is_enough) (defScope s_P_is_enough) .none kV5 dc5 pm5 an5 cd5 ct5), sl5⟩)
  (c5 : PySem.W.codeIn K cd5 "_is_enough" = true)
  (k5 : PySem.W.keepIn K (.ref f5) = true)
  (a6 : PySem.W.nsIn K mainGlobals "least_payment" = some (some (.ref f6)))
  (l6 : K.lookup f6 = some ⟨oc6, od6, .func (PySem.W.fnOf "least_payment" "least_payment" (defArgs s_least_payment) (defBody s_least_payment) (defScope s_least_payment) .none kV6 dc6 pm6 an6 cd6 ct6), sl6⟩)
  (c6 : PySem.W.codeIn K cd6 "least_payment" = true)
  (k6 : PySem.W.keepIn K (.ref f6) = true)
  (a7 : PySem.W.nsIn K mainGlobals "_are_rows" = some (some (.ref f7)))
  (l7 : K.lookup f7 = some ⟨oc7, od7, .func (PySem.W.fnOf "_are_rows" "_are_rows" (defArgs s_P_are_rows) (defBody s_P_are_rows) (defScope s_P_are_rows) .none kV7 dc7 pm7 an7 cd7 ct7), sl7⟩)
  (c7 : PySem.W.codeIn K cd7 "_are_rows" = true)
  (k7 : PySem.W.keepIn K (.ref f7) = true)
  (a8 : PySem.W.nsIn K mainGlobals "plan_fault" = some (some (.ref f8)))
  (l8 : K.lookup f8 = some ⟨oc8, od8, .func (PySem.W.fnOf "plan_fault" "plan_fault" (defArgs s_plan_fault) (defBody s_plan_fault) (defScope s_plan_fault) .none kV8 dc8 pm8 an8 cd8 ct8), sl8⟩)
  (c8 : PySem.W.codeIn K cd8 "plan_fault" = true)
  (k8 : PySem.W.keepIn K (.ref f8) = true)
  (a9 : PySem.W.nsIn K mainGlobals "_law_draws" = some (some (.ref f9)))
  (l9 : K.lookup f9 = some ⟨oc9, od9, .func (PySem.W.fnOf "_law_draws" "_law_draws" (defArgs s_L_draws) (defBody s_L_draws) (defScope s_L_draws) .none kV9 dc9 pm9 an9 cd9 ct9), sl9⟩)
  (c9 : PySem.W.codeIn K cd9 "_law_draws" = true)
  (k9 : PySem.W.keepIn K (.ref f9) = true)
  (a10 : PySem.W.nsIn K mainGlobals "_law_row" = some (some (.ref f10)))
  (l10 : K.lookup f10 = some ⟨oc10, od10, .func (PySem.W.fnOf "_law_row" "_law_row" (defArgs s_L_row) (defBody s_L_row) (defScope s_L_row) .none kV10 dc10 pm10 an10 cd10 ct10), sl10⟩)
  (c10 : PySem.W.codeIn K cd10 "_law_row" = true)
  (k10 : PySem.W.keepIn K (.ref f10) = true)
  (a11 : PySem.W.nsIn K mainGlobals "_law_plan" = some (some (.ref f11)))
  (l11 : K.lookup f11 = some ⟨oc11, od11, .func (PySem.W.fnOf "_law_plan" "_law_plan" (defArgs s_L_plan) (defBody s_L_plan) (defScope s_L_plan) .none kV11 dc11 pm11 an11 cd11 ct11), sl11⟩)
  (c11 : PySem.W.codeIn K cd11 "_law_plan" = true)
  (k11 : PySem.W.keepIn K (.ref f11) = true)
  (a12 : PySem.W.nsIn K mainGlobals "_law_due" = some (some (.ref f12)))
  (l12 : K.lookup f12 = some ⟨oc12, od12, .func (PySem.W.fnOf "_law_due" "_law_due" (defArgs s_L_due) (defBody s_L_due) (defScope s_L_due) .none kV12 dc12 pm12 an12 cd12 ct12), sl12⟩)
  (c12 : PySem.W.codeIn K cd12 "_law_due" = true)
  (k12 : PySem.W.keepIn K (.ref f12) = true)
  (a13 : PySem.W.nsIn K mainGlobals "_law_error" = some (some (.ref f13)))
  (l13 : K.lookup f13 = some ⟨oc13, od13, .func (PySem.W.fnOf "_law_error" "_law_error" (defArgs s_L_error) (defBody s_L_error) (defScope s_L_error) .none kV13 dc13 pm13 an13 cd13 ct13), sl13⟩)
  (c13 : PySem.W.codeIn K cd13 "_law_error" = true)
  (k13 : PySem.W.keepIn K (.ref f13) = true)
  (a14 : PySem.W.nsIn K mainGlobals "law" = some (some (.ref f14)))
  (l14 : K.lookup f14 = some ⟨oc14, od14, .func (PySem.W.fnOf "law" "law" (defArgs s_law) (defBody s_law) (defScope s_law) .none kV14 dc14 pm14 an14 cd14 ct14), sl14⟩)
  (c14 : PySem.W.codeIn K cd14 "law" = true)
  (k14 : PySem.W.keepIn K (.ref f14) = true)
  (n0 : PySem.W.nsIn K mainGlobals "isinstance" = some none)
  (n1 : PySem.W.nsIn K mainGlobals "bool" = some none)
  (n2 : PySem.W.nsIn K mainGlobals "int" = some none)
  (n3 : PySem.W.nsIn K mainGlobals "len" = some none)
  (n4 : PySem.W.nsIn K mainGlobals "tuple" = some none)
  (n5 : PySem.W.nsIn K mainGlobals "min" = some none)
  (n6 : PySem.W.nsIn K mainGlobals "range" = some none)
  (n7 : PySem.W.nsIn K mainGlobals "all" = some none)
  (n8 : PySem.W.nsIn K mainGlobals "enumerate" = some none)
  (n9 : PySem.W.nsIn K mainGlobals "abs" = some none)
  (n10 : PySem.W.nsIn K mainGlobals "sum" = some none)
  (n11 : PySem.W.nsIn K mainGlobals "list" = some none)
  (q0 : PySem.W.nsIn K mainGlobals "MOST_DEBT" = some (some (.int 1000000000 t0)))
  (q1 : PySem.W.nsIn K mainGlobals "MOST_OF_RATE" = some (some (.int 1000000 t1)))
  (q2 : PySem.W.nsIn K mainGlobals "MOST_PAYMENT" = some (some (.int 10000000000000000 t2)))
  (q3 : PySem.W.nsIn K mainGlobals "MOST_PLAN" = some (some (.int 1000 t3)))
  (q4 : PySem.W.nsIn K mainGlobals "MOST_PERIODS" = some (some (.int 200 t4)))
  (q5 : PySem.W.nsIn K mainGlobals "FORM" = some (some (.str "form" t5)))
  (ea0 : PySem.W.nsIn K mainGlobals "BadDebt" = some (some (.ref e0)))
  (eb0 : PySem.W.subIn K (.ref e0) (.type "BaseException") = some true)
  (et0 : PySem.W.typeIn K (.ref e0) = some (.type "type"))
  (ex0 : PySem.W.excIn K e0 [.type "ValueError", .type "Exception", .type "BaseException", .type "object"] "ValueError.__new__" = true)
  (ek0 : PySem.W.keepIn K (.ref e0) = true)
  (ei0 : PySem.W.isClsIn K e0 = true)
  (ea1 : PySem.W.nsIn K mainGlobals "BadRate" = some (some (.ref e1)))
  (eb1 : PySem.W.subIn K (.ref e1) (.type "BaseException") = some true)
  (et1 : PySem.W.typeIn K (.ref e1) = some (.type "type"))
  (ex1 : PySem.W.excIn K e1 [.type "ValueError", .type "Exception", .type "BaseException", .type "object"] "ValueError.__new__" = true)
  (ek1 : PySem.W.keepIn K (.ref e1) = true)
  (ei1 : PySem.W.isClsIn K e1 = true)
  (ea2 : PySem.W.nsIn K mainGlobals "BadAmount" = some (some (.ref e2)))
  (eb2 : PySem.W.subIn K (.ref e2) (.type "BaseException") = some true)
  (et2 : PySem.W.typeIn K (.ref e2) = some (.type "type"))
  (ex2 : PySem.W.excIn K e2 [.type "ValueError", .type "Exception", .type "BaseException", .type "object"] "ValueError.__new__" = true)
  (ek2 : PySem.W.keepIn K (.ref e2) = true)
  (ei2 : PySem.W.isClsIn K e2 = true)
  (ea3 : PySem.W.nsIn K mainGlobals "BadCount" = some (some (.ref e3)))
  (eb3 : PySem.W.subIn K (.ref e3) (.type "BaseException") = some true)
  (et3 : PySem.W.typeIn K (.ref e3) = some (.type "type"))
  (ex3 : PySem.W.excIn K e3 [.type "ValueError", .type "Exception", .type "BaseException", .type "object"] "ValueError.__new__" = true)
  (ek3 : PySem.W.keepIn K (.ref e3) = true)
  (ei3 : PySem.W.isClsIn K e3 = true)
  (es0_0 : PySem.W.subIn K (.ref e0) (.ref e0) = some true)
  (es1_0 : PySem.W.subIn K (.ref e1) (.ref e0) = some false)
  (es2_0 : PySem.W.subIn K (.ref e2) (.ref e0) = some false)
  (es3_0 : PySem.W.subIn K (.ref e3) (.ref e0) = some false)
  (es0_1 : PySem.W.subIn K (.ref e0) (.ref e1) = some false)
  (es1_1 : PySem.W.subIn K (.ref e1) (.ref e1) = some true)
  (es2_1 : PySem.W.subIn K (.ref e2) (.ref e1) = some false)
  (es3_1 : PySem.W.subIn K (.ref e3) (.ref e1) = some false)
  (es0_2 : PySem.W.subIn K (.ref e0) (.ref e2) = some false)
  (es1_2 : PySem.W.subIn K (.ref e1) (.ref e2) = some false)
  (es2_2 : PySem.W.subIn K (.ref e2) (.ref e2) = some true)
  (es3_2 : PySem.W.subIn K (.ref e3) (.ref e2) = some false)
  (es0_3 : PySem.W.subIn K (.ref e0) (.ref e3) = some false)
  (es1_3 : PySem.W.subIn K (.ref e1) (.ref e3) = some false)
  (es2_3 : PySem.W.subIn K (.ref e2) (.ref e3) = some false)
  (es3_3 : PySem.W.subIn K (.ref e3) (.ref e3) = some true) :
  ∃ fd : FuncData, (∀ (s : Shared) (v : Value), BindsTo s fd ⟨[v], []⟩ [("script", v)]) ∧ ∀ base : Heap, K.In base → base.Ns mainGlobals mg → FnOk l.prog w K mg base (L2.CX l.prog w) 5 fa fd ["script"] (spLaw K) := by
  have e := hfa.symm.trans (PySem.W.mg_of X G a14)
  cases e
  have T : Tx K mg ⟨f0, (PySem.W.fnOf "is_whole" "is_whole" (defArgs s_is_whole) (defBody s_is_whole) (defScope s_is_whole) .none kV0 dc0 pm0 an0 cd0 ct0), f1, (PySem.W.fnOf "_check" "_check" (defArgs s_P_check) (defBody s_P_check) (defScope s_P_check) .none kV1 dc1 pm1 an1 cd1 ct1), f2, (PySem.W.fnOf "_check_payment" "_check_payment" (defArgs s_P_check_payment) (defBody s_P_check_payment) (defScope s_P_check_payment) .none kV2 dc2 pm2 an2 cd2 ct2), f3, (PySem.W.fnOf "_row" "_row" (defArgs s_P_row) (defBody s_P_row) (defScope s_P_row) .none kV3 dc3 pm3 an3 cd3 ct3), f4, (PySem.W.fnOf "plan" "plan" (defArgs s_plan) (defBody s_plan) (defScope s_plan) .none kV4 dc4 pm4 an4 cd4 ct4), f5, (PySem.W.fnOf "_is_enough" "_is_enough" (defArgs s_P_is_enough) (defBody s_P_is_enough) (defScope s_P_is_enough) .none kV5 dc5 pm5 an5 cd5 ct5), f6, (PySem.W.fnOf "least_payment" "least_payment" (defArgs s_least_payment) (defBody s_least_payment) (defScope s_least_payment) .none kV6 dc6 pm6 an6 cd6 ct6), f7, (PySem.W.fnOf "_are_rows" "_are_rows" (defArgs s_P_are_rows) (defBody s_P_are_rows) (defScope s_P_are_rows) .none kV7 dc7 pm7 an7 cd7 ct7), f8, (PySem.W.fnOf "plan_fault" "plan_fault" (defArgs s_plan_fault) (defBody s_plan_fault) (defScope s_plan_fault) .none kV8 dc8 pm8 an8 cd8 ct8), f9, (PySem.W.fnOf "_law_draws" "_law_draws" (defArgs s_L_draws) (defBody s_L_draws) (defScope s_L_draws) .none kV9 dc9 pm9 an9 cd9 ct9), f10, (PySem.W.fnOf "_law_row" "_law_row" (defArgs s_L_row) (defBody s_L_row) (defScope s_L_row) .none kV10 dc10 pm10 an10 cd10 ct10), f11, (PySem.W.fnOf "_law_plan" "_law_plan" (defArgs s_L_plan) (defBody s_L_plan) (defScope s_L_plan) .none kV11 dc11 pm11 an11 cd11 ct11), f12, (PySem.W.fnOf "_law_due" "_law_due" (defArgs s_L_due) (defBody s_L_due) (defScope s_L_due) .none kV12 dc12 pm12 an12 cd12 ct12), f13, (PySem.W.fnOf "_law_error" "_law_error" (defArgs s_L_error) (defBody s_L_error) (defScope s_L_error) .none kV13 dc13 pm13 an13 cd13 ct13), fa, (PySem.W.fnOf "law" "law" (defArgs s_law) (defBody s_law) (defScope s_law) .none kV14 dc14 pm14 an14 cd14 ct14), e0, e1, e2, e3⟩ := ⟨fnt_mk X G (fun _ _ _ _ _ _ us hl => match us, hl with | [_, _, _], _ => rfl) a0 l0 c0 k0,
    fnt_mk X G (fun _ _ _ _ _ _ us hl => match us, hl with | [_, _], _ => rfl) a1 l1 c1 k1,
    fnt_mk X G (fun _ _ _ _ _ _ us hl => match us, hl with | [_], _ => rfl) a2 l2 c2 k2,
    fnt_mk X G (fun _ _ _ _ _ _ us hl => match us, hl with | [_, _, _], _ => rfl) a3 l3 c3 k3,
    fnt_mk X G (fun _ _ _ _ _ _ us hl => match us, hl with | [_, _, _], _ => rfl) a4 l4 c4 k4,
    fnt_mk X G (fun _ _ _ _ _ _ us hl => match us, hl with | [_, _, _, _], _ => rfl) a5 l5 c5 k5,
    fnt_mk X G (fun _ _ _ _ _ _ us hl => match us, hl with | [_, _, _], _ => rfl) a6 l6 c6 k6,
    fnt_mk X G (fun _ _ _ _ _ _ us hl => match us, hl with | [_], _ => rfl) a7 l7 c7 k7,
    fnt_mk X G (fun _ _ _ _ _ _ us hl => match us, hl with | [_, _, _, _], _ => rfl) a8 l8 c8 k8,
    fnt_mk X G (fun _ _ _ _ _ _ us hl => match us, hl with | [_, _], _ => rfl) a9 l9 c9 k9,
    fnt_mk X G (fun _ _ _ _ _ _ us hl => match us, hl with | [_, _, _], _ => rfl) a10 l10 c10 k10,
    fnt_mk X G (fun _ _ _ _ _ _ us hl => match us, hl with | [_, _, _], _ => rfl) a11 l11 c11 k11,
    fnt_mk X G (fun _ _ _ _ _ _ us hl => match us, hl with | [_, _, _, _], _ => rfl) a12 l12 c12 k12,
    fnt_mk X G (fun _ _ _ _ _ _ us hl => match us, hl with | [_, _, _, _], _ => rfl) a13 l13 c13 k13,
    fnt_mk X G (fun _ _ _ _ _ _ us hl => match us, hl with | [_], _ => rfl) a14 l14 c14 k14,
    PySem.W.mg_none_of X G n0,
    PySem.W.mg_none_of X G n1,
    PySem.W.mg_none_of X G n2,
    PySem.W.mg_none_of X G n3,
    PySem.W.mg_none_of X G n4,
    PySem.W.mg_none_of X G n5,
    PySem.W.mg_none_of X G n6,
    PySem.W.mg_none_of X G n7,
    PySem.W.mg_none_of X G n8,
    PySem.W.mg_none_of X G n9,
    PySem.W.mg_none_of X G n10,
    PySem.W.mg_none_of X G n11,
    ⟨_, PySem.W.mg_of X G q0⟩,
    ⟨_, PySem.W.mg_of X G q1⟩,
    ⟨_, PySem.W.mg_of X G q2⟩,
    ⟨_, PySem.W.mg_of X G q3⟩,
    ⟨_, PySem.W.mg_of X G q4⟩,
    ⟨_, PySem.W.mg_of X G q5⟩,
    ⟨PySem.W.mg_of X G ea0, ex0, ek0, eb0, et0⟩,
    ⟨PySem.W.mg_of X G ea1, ex1, ek1, eb1, et1⟩,
    ⟨PySem.W.mg_of X G ea2, ex2, ek2, eb2, et2⟩,
    ⟨PySem.W.mg_of X G ea3, ex3, ek3, eb3, et3⟩,
    PySem.W.mg_of X G ea0,
    ⟨by rw [excV_of (PySem.W.mg_of X G ea0)]; exact exm_any eb0 ei0 et0 es0_0, by rw [excV_of (PySem.W.mg_of X G ea1)]; exact exm_any eb0 ei0 et0 es1_0, by rw [excV_of (PySem.W.mg_of X G ea2)]; exact exm_any eb0 ei0 et0 es2_0, by rw [excV_of (PySem.W.mg_of X G ea3)]; exact exm_any eb0 ei0 et0 es3_0, trivial⟩,
    PySem.W.mg_of X G ea1,
    ⟨by rw [excV_of (PySem.W.mg_of X G ea0)]; exact exm_any eb1 ei1 et1 es0_1, by rw [excV_of (PySem.W.mg_of X G ea1)]; exact exm_any eb1 ei1 et1 es1_1, by rw [excV_of (PySem.W.mg_of X G ea2)]; exact exm_any eb1 ei1 et1 es2_1, by rw [excV_of (PySem.W.mg_of X G ea3)]; exact exm_any eb1 ei1 et1 es3_1, trivial⟩,
    PySem.W.mg_of X G ea2,
    ⟨by rw [excV_of (PySem.W.mg_of X G ea0)]; exact exm_any eb2 ei2 et2 es0_2, by rw [excV_of (PySem.W.mg_of X G ea1)]; exact exm_any eb2 ei2 et2 es1_2, by rw [excV_of (PySem.W.mg_of X G ea2)]; exact exm_any eb2 ei2 et2 es2_2, by rw [excV_of (PySem.W.mg_of X G ea3)]; exact exm_any eb2 ei2 et2 es3_2, trivial⟩,
    PySem.W.mg_of X G ea3,
    ⟨by rw [excV_of (PySem.W.mg_of X G ea0)]; exact exm_any eb3 ei3 et3 es0_3, by rw [excV_of (PySem.W.mg_of X G ea1)]; exact exm_any eb3 ei3 et3 es1_3, by rw [excV_of (PySem.W.mg_of X G ea2)]; exact exm_any eb3 ei3 et3 es2_3, by rw [excV_of (PySem.W.mg_of X G ea3)]; exact exm_any eb3 ei3 et3 es3_3, trivial⟩⟩
  exact ⟨_, fun s v => .of_eq rfl, fun base _ _ => law_ok (ok_all T) law_true⟩
end Pf
open PySem PySem.W PyProof.Rows
set_option maxHeartbeats 0 in
theorem PySem.Challenge.cw_ledgertongue_k53_whole_plans_holds : PySem.Challenge.rw_ledgertongue_k53_whole_plans.Holds := by
  w_on; o_law; k_head; (case hw => w_witness2)
  k_fill
  refine Lt.walk_law (l := PySem.Challenge.rw_ledgertongue_k53_whole_plans) (k := 5) ⟨rfl, by decide, by decide⟩ rfl rfl (fun w h Y => PySem.W.kIn_of Y) ?F
  case F =>
    intro w mg fa h KX G hmg
    refine' Pf.all_mk KX G hmg ?a0 ?l0 ?c0 ?k0 ?a1 ?l1 ?c1 ?k1 ?a2 ?l2 ?c2 ?k2 ?a3 ?l3 ?c3 ?k3 ?a4 ?l4 ?c4 ?k4 ?a5 ?l5 ?c5 ?k5 ?a6 ?l6 ?c6 ?k6 ?a7 ?l7 ?c7 ?k7 ?a8 ?l8 ?c8 ?k8 ?a9 ?l9 ?c9 ?k9 ?a10 ?l10 ?c10 ?k10 ?a11 ?l11 ?c11 ?k11 ?a12 ?l12 ?c12 ?k12 ?a13 ?l13 ?c13 ?k13 ?a14 ?l14 ?c14 ?k14 ?n0 ?n1 ?n2 ?n3 ?n4 ?n5 ?n6 ?n7 ?n8 ?n9 ?n10 ?n11 ?q0 ?q1 ?q2 ?q3 ?q4 ?q5 ?ea0 ?eb0 ?et0 ?ex0 ?ek0 ?ei0 ?ea1 ?eb1 ?et1 ?ex1 ?ek1 ?ei1 ?ea2 ?eb2 ?et2 ?ex2 ?ek2 ?ei2 ?ea3 ?eb3 ?et3 ?ex3 ?ek3 ?ei3 ?es0_0 ?es1_0 ?es2_0 ?es3_0 ?es0_1 ?es1_1 ?es2_1 ?es3_1 ?es0_2 ?es1_2 ?es2_2 ?es3_2 ?es0_3 ?es1_3 ?es2_3 ?es3_3
    (case a0 => k_is)
    (case l0 => k_is)
    (case c0 => k_is)
    (case k0 => k_is)
    (case a1 => k_is)
    (case l1 => k_is)
    (case c1 => k_is)
    (case k1 => k_is)
    (case a2 => k_is)
    (case l2 => k_is)
    (case c2 => k_is)
    (case k2 => k_is)
    (case a3 => k_is)
    (case l3 => k_is)
    (case c3 => k_is)
    (case k3 => k_is)
    (case a4 => k_is)
    (case l4 => k_is)
    (case c4 => k_is)
    (case k4 => k_is)
    (case a5 => k_is)
    (case l5 => k_is)
    (case c5 => k_is)
    (case k5 => k_is)
    (case a6 => k_is)
    (case l6 => k_is)
    (case c6 => k_is)
    (case k6 => k_is)
    (case a7 => k_is)
    (case l7 => k_is)
    (case c7 => k_is)
    (case k7 => k_is)
    (case a8 => k_is)
    (case l8 => k_is)
    (case c8 => k_is)
    (case k8 => k_is)
    (case a9 => k_is)
    (case l9 => k_is)
    (case c9 => k_is)
    (case k9 => k_is)
    (case a10 => k_is)
    (case l10 => k_is)
    (case c10 => k_is)
    (case k10 => k_is)
    (case a11 => k_is)
    (case l11 => k_is)
    (case c11 => k_is)
    (case k11 => k_is)
    (case a12 => k_is)
    (case l12 => k_is)
    (case c12 => k_is)
    (case k12 => k_is)
    (case a13 => k_is)
    (case l13 => k_is)
    (case c13 => k_is)
    (case k13 => k_is)
    (case a14 => k_is)
    (case l14 => k_is)
    (case c14 => k_is)
    (case k14 => k_is)
    (case n0 => k_is)
    (case n1 => k_is)
    (case n2 => k_is)
    (case n3 => k_is)
    (case n4 => k_is)
    (case n5 => k_is)
    (case n6 => k_is)
    (case n7 => k_is)
    (case n8 => k_is)
    (case n9 => k_is)
    (case n10 => k_is)
    (case n11 => k_is)
    (case q0 => k_is)
    (case q1 => k_is)
    (case q2 => k_is)
    (case q3 => k_is)
    (case q4 => k_is)
    (case q5 => k_is)
    (case ea0 => k_is)
    (case eb0 => k_is)
    (case et0 => k_is)
    (case ex0 => k_exc)
    (case ek0 => k_is)
    (case ei0 => k_is)
    (case ea1 => k_is)
    (case eb1 => k_is)
    (case et1 => k_is)
    (case ex1 => k_exc)
    (case ek1 => k_is)
    (case ei1 => k_is)
    (case ea2 => k_is)
    (case eb2 => k_is)
    (case et2 => k_is)
    (case ex2 => k_exc)
    (case ek2 => k_is)
    (case ei2 => k_is)
    (case ea3 => k_is)
    (case eb3 => k_is)
    (case et3 => k_is)
    (case ex3 => k_exc)
    (case ek3 => k_is)
    (case ei3 => k_is)
    (case es0_0 => first | rfl | k_is)
    (case es1_0 => first | rfl | k_is)
    (case es2_0 => first | rfl | k_is)
    (case es3_0 => first | rfl | k_is)
    (case es0_1 => first | rfl | k_is)
    (case es1_1 => first | rfl | k_is)
    (case es2_1 => first | rfl | k_is)
    (case es3_1 => first | rfl | k_is)
    (case es0_2 => first | rfl | k_is)
    (case es1_2 => first | rfl | k_is)
    (case es2_2 => first | rfl | k_is)
    (case es3_2 => first | rfl | k_is)
    (case es0_3 => first | rfl | k_is)
    (case es1_3 => first | rfl | k_is)
    (case es2_3 => first | rfl | k_is)
    (case es3_3 => first | rfl | k_is)
