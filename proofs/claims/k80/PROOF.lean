import PyProof.Rows.All
import Wide.All
import OpenK.AllK
import Wide.FinOn
import HandS.ForMost
import HandS.Flow
import HandS.TupAny
import HandS.TupMul
import HandS.Deep
import HandS.Zip
import HandS.IsInst
import HandS.Style
import KE.GoesMore
import KE.KIndexOf
import HandS.Small
import PySem.Challenge.RW_bowstands_k80_whole_main_nobody_is_passe
set_option Elab.async false
set_option linter.all false
set_option maxRecDepth 100000
set_option maxHeartbeats 4000000
/-! Tree values, an own heap, an own small language and its evaluator. -/
namespace TV
open PySem L2

/-- a value: tuples and lists that nobody changes are trees; a changing thing is a number of the own heap -/
inductive U where
  | non | bl (b : Bool) | int (i : Int) | str (s : Str) | tup (us : List U) | fls (us : List U) | ref (n : Nat) | rls (ns : List Int)

mutual
def U.eqb : U → U → Bool
  | .non, .non => true
  | .bl a, .bl b => decide (a = b)
  | .int a, .int b => decide (a = b)
  | .str a, .str b => decide (a = b)
  | .tup a, .tup b => U.eqbs a b
  | .fls a, .fls b => U.eqbs a b
  | .ref a, .ref b => decide (a = b)
  | .rls a, .rls b => decide (a = b)
  | _, _ => false
def U.eqbs : List U → List U → Bool
  | [], [] => true
  | a :: as, b :: bs => U.eqb a b && U.eqbs as bs
  | _, _ => false
end
mutual
theorem U.eqb_eq : ∀ (a b : U), U.eqb a b = true → a = b
  | .non, b, h => by cases b <;> simp [U.eqb] at h ⊢
  | .bl x, b, h => by cases b <;> simp [U.eqb] at h ⊢; exact h
  | .int x, b, h => by cases b <;> simp [U.eqb] at h ⊢; exact h
  | .str x, b, h => by cases b <;> simp [U.eqb] at h ⊢; exact h
  | .tup x, b, h => by
    cases b <;> simp [U.eqb] at h ⊢
    exact U.eqbs_eq _ _ h
  | .fls x, b, h => by
    cases b <;> simp [U.eqb] at h ⊢
    exact U.eqbs_eq _ _ h
  | .ref x, b, h => by cases b <;> simp [U.eqb] at h ⊢; exact h
  | .rls x, b, h => by cases b <;> simp [U.eqb] at h ⊢; exact h
theorem U.eqbs_eq : ∀ (a b : List U), U.eqbs a b = true → a = b
  | [], b, h => by cases b <;> simp [U.eqbs] at h ⊢
  | x :: xs, b, h => by
    cases b with
    | nil => simp [U.eqbs] at h
    | cons y ys =>
      simp only [U.eqbs, Bool.and_eq_true] at h
      rw [U.eqb_eq _ _ h.1, U.eqbs_eq _ _ h.2]
end
mutual
theorem U.eqb_refl : ∀ (a : U), U.eqb a a = true
  | .non => rfl
  | .bl x => by simp [U.eqb]
  | .int x => by simp [U.eqb]
  | .str x => by simp [U.eqb]
  | .tup x => by rw [U.eqb]; exact U.eqbs_refl x
  | .fls x => by rw [U.eqb]; exact U.eqbs_refl x
  | .ref x => by simp [U.eqb]
  | .rls x => by simp [U.eqb]
theorem U.eqbs_refl : ∀ (a : List U), U.eqbs a a = true
  | [] => rfl
  | x :: xs => by rw [U.eqbs, U.eqb_refl x, U.eqbs_refl xs]; rfl
end
instance : DecidableEq U := fun a b => if h : U.eqb a b = true then isTrue (U.eqb_eq a b h) else isFalse fun e => h (by rw [e]; exact U.eqb_refl b)

/-- a changing thing -/
inductive OO where
  | lst (us : List U)
  | rol (us : List U)
  | dct (kvs : List (Key × U))
  | ins (c : Nat) (fs : List (Str × U))
  deriving DecidableEq

abbrev OH := List OO
abbrev LIM : Nat := 16777216

/-! ### trees of data -/
mutual
/-- every reference replaced -/
def U.rs (r : Nat → Option U) : U → Option U
  | .tup us => (U.rsL r us).map .tup
  | .fls us => (U.rsL r us).map .fls
  | .ref n => r n
  | .non => some .non
  | .bl b => some (.bl b)
  | .int i => some (.int i)
  | .str s => some (.str s)
  | .rls s => some (.rls s)
def U.rsL (r : Nat → Option U) : List U → Option (List U)
  | [] => some []
  | u :: us => match U.rs r u, U.rsL r us with
    | some a, some b => some (a :: b)
    | _, _ => none
end
/-- references from n0 on replaced by the lists that stand there -/
def frz (h : OH) (n0 : Nat) : Nat → U → Option U
  | 0, u => u.rs fun n => if n < n0 then some (.ref n) else none
  | k + 1, u => u.rs fun n => if n < n0 then some (.ref n) else match h[n]? with
    | some (.lst us) => (U.rsL (fun m => frz h n0 k (.ref m)) us).map .fls
    | _ => none
mutual
/-- the tree as data -/
def U.pd : U → PyData
  | .non => .none
  | .bl b => .bool b
  | .int i => .int i
  | .str s => .str s
  | .tup us => .tuple (U.pds us)
  | .fls us => .list (U.pds us)
  | .ref _ => .none
  | .rls _ => .none
def U.pds : List U → List PyData
  | [] => []
  | u :: us => U.pd u :: U.pds us
end
mutual
/-- no references, at most k deep, texts in order -/
def U.fl : Nat → U → Bool
  | _, .non => true
  | _, .bl _ => true
  | _, .int _ => true
  | _, .str s => PyData.strOk s
  | 0, .tup _ => false
  | 0, .fls _ => false
  | k + 1, .tup us => U.fls' k us
  | k + 1, .fls us => U.fls' k us
  | _, .ref _ => false
  | _, .rls _ => false
def U.fls' : Nat → List U → Bool
  | _, [] => true
  | k, u :: us => U.fl k u && U.fls' k us
end
mutual
/-- all references below n -/
def U.bel (n : Nat) : U → Bool
  | .tup us => U.bels n us
  | .fls us => U.bels n us
  | .ref m => decide (m < n)
  | _ => true
def U.bels (n : Nat) : List U → Bool
  | [] => true
  | u :: us => U.bel n u && U.bels n us
end
def OO.bel (n : Nat) : OO → Bool
  | .lst us => U.bels n us
  | .rol us => U.bels n us
  | .dct kvs => U.bels n (kvs.map (·.2))
  | .ins _ fs => U.bels n (fs.map (·.2))
def OH.bel (n : Nat) (h : OH) : Bool := h.all (OO.bel n)

/-! ### results -/
inductive R (α : Type) where
  | ok (a : α) (h : OH)
  | exc (c : Nat) (us : List U) (h : OH)
  | bad
def R.bind {α β : Type} (m : R α) (f : α → OH → R β) : R β := match m with
  | .ok a h => f a h
  | .exc c us h => .exc c us h
  | .bad => .bad
abbrev Env' := List (Option U)
inductive RS where
  | nx (e : Env') (h : OH)
  | rt (u : U) (h : OH)
  | bk (e : Env') (h : OH)
  | ct (e : Env') (h : OH)
  | exc (c : Nat) (us : List U) (e : Env') (h : OH)
  | bad
def R.bindS {α : Type} (m : R α) (e : Env') (f : α → OH → RS) : RS := match m with
  | .ok a h => f a h
  | .exc c us h => .exc c us e h
  | .bad => .bad
def RS.then (m : RS) (f : Env' → OH → RS) : RS := match m with
  | .nx e h => f e h
  | r => r

/-! ### operations -/
inductive Op where | add | sub | mul | fdiv | mod | pow
  deriving DecidableEq
inductive Cp where | eq | ne | lt | le | gt | ge | isin | notin
  deriving DecidableEq
inductive Bi where | len | abs | int | min2 | max2 | tuple | list | all | any | isInt | isBool | isTup | isStr | sum | sorted | maxl | minl
  deriving DecidableEq
inductive Mt where | append | extend | pop | popAt | index
  deriving DecidableEq

/-- the items of a list (not the script's) -/
def lsO (h : OH) : U → Option (List U)
  | .fls us => some us
  | .ref n => match h[n]? with
    | some (.lst us) => some us
    | _ => none
  | _ => none
/-- the items of a list or a tuple -/
def sqO (h : OH) : U → Option (List U)
  | .tup us => some us
  | .fls us => some us
  | .ref n => match h[n]? with
    | some (.lst us) => some us
    | some (.rol us) => some us
    | _ => none
  | _ => none
def newL (m : Bool) (us : List U) (h : OH) : R U :=
  if us.length ≤ LIM then (if m then .ok (.ref h.length) (h ++ [.lst us]) else .ok (.fls us) h) else .bad
def small64 (i : Int) : Bool := decide (i.natAbs < 18446744073709551616)
def catE (m : Bool) (a b : Option (List U)) (h : OH) : R U := match a, b with
  | some us, some vs => if us.length + vs.length ≤ LIM then newL m (us ++ vs) h else .bad
  | _, _ => .bad
def repE (m : Bool) (a : Option (List U)) (k : Int) (h : OH) : R U := match a with
  | some us => if k.natAbs < 9223372036854775808 ∧ us.length * k.toNat ≤ LIM then newL m (List.replicate k.toNat us).flatten h else .bad
  | none => .bad
def addE (m : Bool) (a b : U) (h : OH) : R U := match a with
  | .int i => match b with
    | .int j => .ok (.int (i + j)) h
    | _ => .bad
  | .str s => match b with
    | .str t => if s.length + t.length ≤ LIM then .ok (.str (s ++ t)) h else .bad
    | _ => .bad
  | .tup us => match b with
    | .tup vs => if us.length + vs.length ≤ LIM then .ok (.tup (us ++ vs)) h else .bad
    | _ => .bad
  | .fls us => catE m (some us) (lsO h b) h
  | .ref n => catE m (lsO h (.ref n)) (lsO h b) h
  | _ => .bad
def mulE (m : Bool) (a b : U) (h : OH) : R U := match b with
  | .int k => match a with
    | .int i => if small64 i || small64 k then .ok (.int (i * k)) h else .bad
    | .tup us => if us ≠ [] ∧ 2 ≤ k ∧ k ≤ 1000 ∧ us.length ≤ 1000 then .ok (.tup (List.replicate k.toNat us).flatten) h else .bad
    | .fls us => repE m (some us) k h
    | .ref n => repE m (lsO h (.ref n)) k h
    | _ => .bad
  | _ => .bad
def intE (f : Int → Int → Option Int) (a b : U) (h : OH) : R U := match a with
  | .int i => match b with
    | .int j => match f i j with
      | some z => .ok (.int z) h
      | none => .bad
    | _ => .bad
  | _ => .bad
def fdivO (i j : Int) : Option Int := if j ≠ 0 ∧ j.natAbs < 1073741824 then some (i.fdiv j) else none
def modO (i j : Int) : Option Int := if j ≠ 0 then some (i.fmod j) else none
def powO (i j : Int) : Option Int := if 0 ≤ j ∧ j ≤ 1000000 ∧ i.natAbs < 18446744073709551616 then some (i ^ j.toNat) else none
def opE (m : Bool) (op : Op) (a b : U) (h : OH) : R U := match op with
  | .add => addE m a b h
  | .sub => intE (fun i j => some (i - j)) a b h
  | .mul => mulE m a b h
  | .fdiv => intE fdivO a b h
  | .mod => intE modO a b h
  | .pow => intE powO a b h
/-- truth -/
def truO (h : OH) : U → Option Bool
  | .non => some false
  | .bl b => some b
  | .int i => some (i != 0)
  | .str s => if s.length ≤ LIM then some ((s.length : Int) != 0) else none
  | .tup us => some (!us.isEmpty)
  | .fls us => some (!us.isEmpty)
  | .rls _ => none
  | .ref n => match h[n]? with
    | some (.lst us) => some (!us.isEmpty)
    | some (.rol us) => some (!us.isEmpty)
    | some (.dct kvs) => some (!kvs.isEmpty)
    | _ => none
def scalU : U → Bool
  | .non => true | .bl _ => true | .int _ => true | .str _ => true | _ => false
/-- x == y -/
def eqO (h : OH) (a b : U) : Option Bool := match a, b with
  | .int i, .int j => some (decide (i = j))
  | .str s, .str t => some (decide (s = t))
  | .bl s, .bl t => some (decide (s = t))
  | .non, .non => some true
  | a, b => match frz h 0 2 a, frz h 0 2 b with
    | some x, some y => if U.fl 60 x && U.fl 60 y then some (PyData.eqv x.pd y.pd) else none
    | _, _ => none
/-- the dict's value at a key -/
def kU : Key → U
  | .inl i => .int i
  | .inr s => .str s
def keyO : U → Option Key
  | .int i => some (.inl i)
  | .str s => some (.inr s)
  | _ => none
def valU (kvs : List (Key × U)) (k : Key) : Option U := (kvs.find? fun kv => decide (kv.1 = k)).map (·.2)
def putU (kvs : List (Key × U)) (k : Key) (v : U) : List (Key × U) :=
  if (kvs.any fun kv => decide (kv.1 = k)) = true then kvs.map (fun kv => if kv.1 = k then (kv.1, v) else kv) else kvs ++ [(k, v)]
/-- x in c -/
def inO (h : OH) (x c : U) : Option Bool :=
  match c with
  | .ref n => match h[n]? with
    | some (.dct kvs) => match keyO x with
      | some k => some (valU kvs k).isSome
      | none => none
    | some (.lst us) => if U.fl 59 x && U.fls' 59 us then some (us.any fun y => PyData.eqv y.pd x.pd) else none
    | _ => none
  | .fls us => if U.fl 59 x && U.fls' 59 us then some (us.any fun y => PyData.eqv y.pd x.pd) else none
  | .tup us => if U.fl 59 x && U.fls' 59 us then some (us.any fun y => PyData.eqv y.pd x.pd) else none
  | .str t => match x with
    | .str s => some (!(Builtin.Str.occurrences t s 0 t.length 1).isEmpty)
    | _ => none
  | _ => none
def cpO (h : OH) (op : Cp) (a b : U) : Option Bool := match op with
  | .eq => eqO h a b
  | .ne => (eqO h a b).map (!·)
  | .isin => inO h a b
  | .notin => (inO h a b).map (!·)
  | .lt => match a, b with
    | .int i, .int j => some (decide (i < j))
    | _, _ => none
  | .le => match a, b with
    | .int i, .int j => some (decide (i ≤ j))
    | _, _ => none
  | .gt => match a, b with
    | .int i, .int j => some (decide (j < i))
    | _, _ => none
  | .ge => match a, b with
    | .int i, .int j => some (decide (j ≤ i))
    | _, _ => none
def okB (o : Option Bool) (h : OH) : R U := match o with
  | some b => .ok (.bl b) h
  | none => .bad
def okU (o : Option U) (h : OH) : R U := match o with
  | some b => .ok b h
  | none => .bad
/-- a[i] -/
def atU (us : List U) (i : U) : Option U := match i with
  | .int i => atI us i
  | _ => none
def atSU (z : Str) (i : U) : Option U := match i with
  | .int i => if z.length ≤ LIM then (atI z.cps.toList i).map fun c => .str ⟨#[c]⟩ else none
  | _ => none
def atKU (kvs : List (Key × U)) (i : U) : Option U := match keyO i with
  | some k => valU kvs k
  | none => none
def ixO (h : OH) (a i : U) : Option U :=
  match a with
  | .str z => atSU z i
  | .ref n => match h[n]? with
    | some (.dct kvs) => atKU kvs i
    | some (.lst us) => atU us i
    | some (.rol us) => atU us i
    | _ => none
  | .fls us => atU us i
  | .tup us => atU us i
  | _ => none
def cut {α : Type} (xs : List α) (lo hi : Option Int) : List α := (xs.drop (HT.sIx xs.length 0 lo)).take (HT.sIx xs.length xs.length hi - HT.sIx xs.length 0 lo)
/-- a[lo:hi] -/
def slE (m : Bool) (a : U) (lo hi : Option Int) (h : OH) : R U := match a with
  | .tup us => .ok (.tup (cut us lo hi)) h
  | .fls us => newL m (cut us lo hi) h
  | .rls ns => newL m (cut (ns.map .int) lo hi) h
  | .ref n => match h[n]? with
    | some (.lst us) => newL m (cut us lo hi) h
    | some (.rol us) => newL m (cut us lo hi) h
    | _ => .bad
  | _ => .bad
def intsO : List U → Option (List Int)
  | [] => some []
  | .int i :: us => (intsO us).map (i :: ·)
  | _ :: _ => none
def blsO : List U → Option (List Bool)
  | [] => some []
  | .bl i :: us => (blsO us).map (i :: ·)
  | _ :: _ => none
/-- len -/
def lenO (h : OH) : U → Option Nat
  | .str s => if s.length ≤ LIM then some s.length else none
  | .tup us => some us.length
  | .fls us => some us.length
  | .rls _ => none
  | .ref n => match h[n]? with
    | some (.lst us) => some us.length
    | some (.rol us) => some us.length
    | _ => none
  | _ => none
def isTy (t : Bi) : U → OH → Option Bool := fun u h => match t with
  | .isInt => match u with
    | .int _ => some true | .bl _ => some true | .ref n => match h[n]? with
      | some (.lst _) => some false | some (.dct _) => some false | _ => none
    | .rls _ => none
    | _ => some false
  | .isBool => match u with
    | .bl _ => some true | .ref n => match h[n]? with
      | some (.lst _) => some false | some (.dct _) => some false | _ => none
    | .rls _ => none
    | _ => some false
  | .isTup => match u with
    | .tup _ => some true | .ref n => match h[n]? with
      | some (.lst _) => some false | some (.dct _) => some false | _ => none
    | .rls _ => none
    | _ => some false
  | .isStr => match u with
    | .str _ => some true | .ref n => match h[n]? with
      | some (.lst _) => some false | some (.dct _) => some false | _ => none
    | .rls _ => none
    | _ => some false
  | _ => none
def un1 (f : U → OH → R U) : List U → OH → R U
  | [u], h => f u h
  | _, _ => .bad
def un2 (f : U → U → OH → R U) : List U → OH → R U
  | [u, v], h => f u v h
  | _, _ => .bad
def lenE (u : U) (h : OH) : R U := match lenO h u with
  | some n => .ok (.int (n : Nat)) h
  | none => .bad
def absE (u : U) (h : OH) : R U := match u with
  | .int i => .ok (.int (if i < 0 then -i else i)) h
  | _ => .bad
def int1E (u : U) (h : OH) : R U := match u with
  | .int i => .ok (.int i) h
  | .bl k => .ok (.int (if k then 1 else 0)) h
  | _ => .bad
def tupleE (u : U) (h : OH) : R U := match u with
  | .tup us => .ok (.tup us) h
  | u => match lsO h u with
    | some us => .ok (.tup us) h
    | none => .bad
def listE (m : Bool) (u : U) (h : OH) : R U := match sqO h u with
  | some us => newL m us h
  | none => .bad
def blsE (f : List Bool → U) (u : U) (h : OH) : R U := match lsO h u with
  | some us => match blsO us with
    | some bs => .ok (f bs) h
    | none => .bad
  | none => .bad
def sumE (u : U) (h : OH) : R U := match lsO h u with
  | some us => match intsO us with
    | some ns => .ok (.int ns.sum) h
    | none => .bad
  | none => .bad
def biE (m : Bool) (b : Bi) (us : List U) (h : OH) : R U := match b with
  | .len => un1 lenE us h
  | .abs => un1 absE us h
  | .int => un1 int1E us h
  | .min2 => un2 (intE fun i j => some (if j < i then j else i)) us h
  | .max2 => un2 (intE fun i j => some (if j > i then j else i)) us h
  | .tuple => un1 tupleE us h
  | .list => un1 (listE m) us h
  | .all => un1 (blsE fun bs => .bl (bs.all id)) us h
  | .any => un1 (blsE fun bs => .bl (bs.any id)) us h
  | .sum => un1 sumE us h
  | .isInt => un1 (fun u h => okB (isTy .isInt u h) h) us h
  | .isBool => un1 (fun u h => okB (isTy .isBool u h) h) us h
  | .isTup => un1 (fun u h => okB (isTy .isTup u h) h) us h
  | .isStr => un1 (fun u h => okB (isTy .isStr u h) h) us h
  | _ => .bad
/-- the place of an int among ints -/
def lsU (f : List U → Nat → OH → R U) (o : U) (h : OH) : R U := match o with
  | .ref n => match h[n]? with
    | some (.lst xs) => f xs n h
    | _ => .bad
  | _ => .bad
def appendE (o u : U) (h : OH) : R U := lsU (fun xs n h => if xs.length < LIM then .ok .non (h.set n (.lst (xs ++ [u]))) else .bad) o h
def extendE (o u : U) (h : OH) : R U := lsU (fun xs n h => match lsO h u with
  | some ys => if xs.length + ys.length ≤ LIM then .ok .non (h.set n (.lst (xs ++ ys))) else .bad
  | none => .bad) o h
def popE (o : U) (h : OH) : R U := lsU (fun xs n h => match xs[xs.length - 1]? with
  | some y => .ok y (h.set n (.lst xs.dropLast))
  | none => .bad) o h
def popAtE (o u : U) (h : OH) : R U := lsU (fun xs n h => match u with
  | .int i => if i.natAbs < 9223372036854775808 then match seqIndex? i xs.length with
      | some k => match xs[k]? with
        | some y => .ok y (h.set n (.lst (xs.eraseIdx k)))
        | none => .bad
      | none => .bad
    else .bad
  | _ => .bad) o h
def indexE (o u : U) (h : OH) : R U := match o with
  | .tup xs => match intsO xs with
    | some ns => match u with
      | .int i => if i ∈ ns then .ok (.int (ns.idxOf i : Nat)) h else .bad
      | _ => .bad
    | none => .bad
  | _ => .bad
def mtE (mt : Mt) (o : U) (us : List U) (h : OH) : R U := match mt with
  | .append => un1 (fun u h => appendE o u h) us h
  | .extend => un1 (fun u h => extendE o u h) us h
  | .pop => match us with
    | [] => popE o h
    | _ => .bad
  | .popAt => un1 (fun u h => popAtE o u h) us h
  | .index => un1 (fun u h => indexE o u h) us h

/-- what a method is asked of -/
def isLs (h : OH) (o : U) : Bool := match o with
  | .ref n => match h[n]? with
    | some (.lst _) => true
    | _ => false
  | _ => false
def mtK (mt : Mt) (o : U) (h : OH) : Bool := match mt with
  | .index => match o with
    | .tup _ => true
    | _ => false
  | _ => isLs h o
/-! ### the language -/
inductive Tg where
  | nm (i : Nat)
  | tp (ts : List Tg)
mutual
inductive E where
  | v (i : Nat)
  | k (u : U)
  | tup (es : List E)
  | lst (m : Bool) (es : List E)
  | bin (m : Bool) (op : Op) (a b : E)
  | neg (a : E)
  | nt (a : E)
  | an (es : List E)
  | or (es : List E)
  | cmp (op : Cp) (a b : E)
  | isn (p : Bool) (a : E)
  | chain (op1 op2 : Cp) (a b c : E)
  | ife (c a b : E)
  | call (f : Nat) (es : List E)
  | bi (m : Bool) (b : Bi) (es : List E)
  | mth (mt : Mt) (o : E) (es : List E)
  | ix (a i : E)
  | sl (m : Bool) (a : E) (lo hi : List E)
  | lc (m : Bool) (elt : E) (tg : Tg) (src : Sr) (cs : List E) (own : List Nat)
  | dct (ks : List Key) (es : List E)
  | fld (o : E) (f : Str)
inductive Sr where
  | sq (e : E)
  | r1 (a : E)
  | r2 (a b : E)
  | en (e : E)
  | zp (a b : E)
end
/-- a target of an assignment -/
inductive Tt where
  | nm (i : Nat)
  | sub (o i : E)
  | fld (o : E) (f : Str)
  | tp (ts : List Tt)
inductive S where
  | asg (t : Tt) (e : E)
  | par (is : List Nat) (es : List E)
  | ife (c : E) (a b : List S)
  | for_ (t : Tg) (src : Sr) (body : List S)
  | whl (c : E) (body : List S)
  | ret (e : E)
  | retN
  | ex (e : E)
  | never
  | brk
  | cnt
  | pass
end TV

namespace TV
open PySem L2

/-! ### the evaluator -/
/-! a tuple, its items to names -/
mutual
def tgE : Tg → U → Env' → Option Env'
  | .nm i, u, e => if i < e.length then some (e.set i (some u)) else none
  | .tp ts, u, e => match u with
    | .tup us => tgEs ts us e
    | _ => none
def tgEs : List Tg → List U → Env' → Option Env'
  | [], [], e => some e
  | t :: ts, u :: us, e => match tgE t u e with
    | some e1 => tgEs ts us e1
    | none => none
  | _, _, _ => none
end
mutual
/-- the slots of a target -/
def Tg.sl : Tg → List Nat
  | .nm i => [i]
  | .tp ts => Tg.sls ts
def Tg.sls : List Tg → List Nat
  | [] => []
  | t :: ts => Tg.sl t ++ Tg.sls ts
end
def wipeU (e : Env') : List Nat → Env'
  | [] => e
  | v :: vs => (wipeU e vs).set v none
/-- lists that a loop walks stand as they stood -/
abbrev Gd := List (Nat × OO)
def gdOk (g : Gd) (h : OH) : Bool := g.all fun p => decide (h[p.1]? = some p.2)
def enU (us : List U) : List U := us.mapIdx fun i u => .tup [.int (i : Nat), u]
def zpU (us vs : List U) : List U := List.zipWith (fun u v => .tup [u, v]) us vs
def rgU (lo hi : Int) : List U := (List.range (hi - lo).toNat).map fun i => .int (lo + (i : Nat))
/-- what a value yields when it is walked, and what must stand meanwhile -/
def itO (h : OH) : U → Option (List U × Gd)
  | .tup us => some (us, [])
  | .fls us => some (us, [])
  | .ref n => match h[n]? with
    | some (.lst us) => some (us, [(n, .lst us)])
    | some (.rol us) => some (us, [(n, .rol us)])
    | _ => none
  | _ => none
def smallR (i : Int) : Bool := decide (i.natAbs < 4611686018427387904)
/-- the turns of a comprehension -/
def lcL (step : U → OH → R (Option U)) (g : Gd) : List U → List U → OH → R (List U)
  | [], acc, h => .ok acc h
  | u :: us, acc, h => (step u h).bind fun o h1 => if gdOk g h1 then match o with
    | some x => if acc.length < LIM then lcL step g us (acc ++ [x]) h1 else .bad
    | none => lcL step g us acc h1
    else .bad
def forL (tg : Tg) (body : Env' → OH → RS) (g : Gd) : List U → Env' → OH → RS
  | [], e, h => .nx e h
  | u :: us, e, h => match tgE tg u e with
    | none => .bad
    | some e1 => match body e1 h with
      | .nx e2 h2 => if gdOk g h2 then forL tg body g us e2 h2 else .bad
      | .ct e2 h2 => if gdOk g h2 then forL tg body g us e2 h2 else .bad
      | .bk e2 h2 => .nx e2 h2
      | .rt u h2 => .rt u h2
      | .exc c us e2 h2 => .exc c us e2 h2
      | .bad => .bad
def whlL (c : Env' → OH → R U) (body : Env' → OH → RS) : Nat → Env' → OH → RS
  | 0, _, _ => .bad
  | k + 1, e, h => (c e h).bindS e fun u h1 => match truO h1 u with
    | none => .bad
    | some false => .nx e h1
    | some true => match body e h1 with
      | .nx e2 h2 => whlL c body k e2 h2
      | .ct e2 h2 => whlL c body k e2 h2
      | .bk e2 h2 => .nx e2 h2
      | .rt u h2 => .rt u h2
      | .exc c us e2 h2 => .exc c us e2 h2
      | .bad => .bad
def putF' (f : Str) (v : U) : List (Str × U) → List (Str × U)
  | [] => [(f, v)]
  | (g, x) :: r => if g = f then (g, v) :: r else (g, x) :: putF' f v r
/-- o[i] = v -/
def stE (o i v : U) (h : OH) : Option OH := match o with
  | .ref n => match h[n]? with
    | some (.lst us) => match i with
      | .int k => match ixN us.length k with
        | some j => some (h.set n (.lst (us.set j v)))
        | none => none
      | _ => none
    | some (.dct kvs) => match keyO i with
      | some k => if kvs.length < LIM then some (h.set n (.dct (putU kvs k v))) else none
      | none => none
    | _ => none
  | _ => none

section
variable (cal : Nat → List U → OH → R U)
mutual
def evE : E → Env' → OH → R U
  | .v i, e, h => match e[i]? with
    | some (some u) => .ok u h
    | _ => .bad
  | .k u, _, h => .ok u h
  | .tup es, e, h => (evL es e h).bind fun us h1 => if us.length ≤ LIM then .ok (.tup us) h1 else .bad
  | .lst m es, e, h => (evL es e h).bind fun us h1 => newL m us h1
  | .bin m op a b, e, h => (evE a e h).bind fun x h1 => (evE b e h1).bind fun y h2 => opE m op x y h2
  | .neg a, e, h => (evE a e h).bind fun x h1 => match x with
    | .int i => .ok (.int (-i)) h1
    | _ => .bad
  | .nt a, e, h => (evE a e h).bind fun x h1 => okB ((truO h1 x).map (!·)) h1
  | .an es, e, h => evAn es e h
  | .or es, e, h => evOr es e h
  | .cmp op a b, e, h => (evE a e h).bind fun x h1 => (evE b e h1).bind fun y h2 => okB (cpO h2 op x y) h2
  | .isn p a, e, h => (evE a e h).bind fun x h1 => .ok (.bl (if p then decide (x = .non) else !decide (x = .non))) h1
  | .chain op1 op2 a b c, e, h => (evE a e h).bind fun x h1 => (evE b e h1).bind fun y h2 => match cpO h2 op1 x y with
    | none => .bad
    | some false => .ok (.bl false) h2
    | some true => (evE c e h2).bind fun z h3 => okB (cpO h3 op2 y z) h3
  | .ife c a b, e, h => (evE c e h).bind fun x h1 => match truO h1 x with
    | none => .bad
    | some true => evE a e h1
    | some false => evE b e h1
  | .call f es, e, h => (evL es e h).bind fun us h1 => cal f us h1
  | .bi m b es, e, h => (evL es e h).bind fun us h1 => biE m b us h1
  | .mth mt o es, e, h => (evE o e h).bind fun x h1 => if mtK mt x h1 then (evL es e h1).bind fun us h2 => mtE mt x us h2 else .bad
  | .ix a i, e, h => (evE a e h).bind fun x h1 => (evE i e h1).bind fun y h2 => okU (ixO h2 x y) h2
  | .sl m a lo hi, e, h => (evE a e h).bind fun x h1 => (evP lo e h1).bind fun l h2 => (evP hi e h2).bind fun u h3 => slE m x l u h3
  | .lc m elt tg src cs own, e, h => (evSr src e h).bind fun p h1 => if gdOk p.2 h1 then
      (lcL (fun u hh => match tgE tg u (wipeU e own) with
        | none => .bad
        | some e1 => (evCs cs e1 hh).bind fun b h2 => if b then (evE elt e1 h2).bind fun x h3 => .ok (some x) h3 else .ok none h2) p.2 p.1 [] h1).bind fun us h2 =>
        if m then .ok (.ref h2.length) (h2 ++ [.lst us]) else .ok (.fls us) h2
      else .bad
  | .dct ks es, e, h => (evL es e h).bind fun us h1 => if us.length = ks.length ∧ ks.length ≤ 15 then .ok (.ref h1.length) (h1 ++ [.dct ((ks.zip us).foldl (fun acc kv => putU acc kv.1 kv.2) [])]) else .bad
  | .fld o f, e, h => (evE o e h).bind fun x h1 => match x with
    | .ref n => match h1[n]? with
      | some (.ins _ fs) => okU (fs.lookup f) h1
      | _ => .bad
    | _ => .bad
def evL : List E → Env' → OH → R (List U)
  | [], _, h => .ok [] h
  | a :: es, e, h => (evE a e h).bind fun u h1 => (evL es e h1).bind fun us h2 => .ok (u :: us) h2
def evAn : List E → Env' → OH → R U
  | [], _, h => .bad
  | [a], e, h => evE a e h
  | a :: b :: es, e, h => (evE a e h).bind fun x h1 => match truO h1 x with
    | none => .bad
    | some true => evAn (b :: es) e h1
    | some false => .ok x h1
def evOr : List E → Env' → OH → R U
  | [], _, h => .bad
  | [a], e, h => evE a e h
  | a :: b :: es, e, h => (evE a e h).bind fun x h1 => match truO h1 x with
    | none => .bad
    | some false => evOr (b :: es) e h1
    | some true => .ok x h1
/-- the tests of a comprehension's clause: none or one -/
def evCs : List E → Env' → OH → R Bool
  | [], _, h => .ok true h
  | [c], e, h => (evE c e h).bind fun x h1 => match truO h1 x with
    | none => .bad
    | some b => .ok b h1
  | _ :: _ :: _, _, _ => .bad
/-- a slice's part: none or one -/
def evP : List E → Env' → OH → R (Option Int)
  | [], _, h => .ok none h
  | [c], e, h => (evE c e h).bind fun x h1 => match x with
    | .int i => .ok (some i) h1
    | _ => .bad
  | _ :: _ :: _, _, _ => .bad
def evSr : Sr → Env' → OH → R (List U × Gd)
  | .sq a, e, h => (evE a e h).bind fun x h1 => match itO h1 x with
    | some p => .ok p h1
    | none => .bad
  | .r1 a, e, h => (evE a e h).bind fun x h1 => match x with
    | .int j => if smallR j then .ok (rgU 0 j, []) h1 else .bad
    | _ => .bad
  | .r2 a b, e, h => (evE a e h).bind fun x h1 => (evE b e h1).bind fun y h2 => match x, y with
    | .int i, .int j => if smallR i && smallR j then .ok (rgU i j, []) h2 else .bad
    | _, _ => .bad
  | .en a, e, h => (evE a e h).bind fun x h1 => match itO h1 x with
    | some p => .ok (enU p.1, p.2) h1
    | none => .bad
  | .zp a b, e, h => (evE a e h).bind fun x h1 => (evE b e h1).bind fun y h2 => match itO h2 x, itO h2 y with
    | some p, some q => .ok (zpU p.1 q.1, p.2 ++ q.2) h2
    | _, _ => .bad
end

/-! an assignment: its target gets a value -/
mutual
def ttE : Tt → U → Env' → OH → R Env'
  | .nm i, u, e, h => if i < e.length then .ok (e.set i (some u)) h else .bad
  | .sub o i, u, e, h => (evE cal o e h).bind fun x h1 => (evE cal i e h1).bind fun y h2 => match stE x y u h2 with
    | some h3 => .ok e h3
    | none => .bad
  | .fld o f, u, e, h => (evE cal o e h).bind fun x h1 => match x with
    | .ref n => match h1[n]? with
      | some (.ins c fs) => if fs.length < 1000 then .ok e (h1.set n (.ins c (putF' f u fs))) else .bad
      | _ => .bad
    | _ => .bad
  | .tp ts, u, e, h => match u with
    | .tup us => ttEs ts us e h
    | _ => .bad
def ttEs : List Tt → List U → Env' → OH → R Env'
  | [], [], e, h => .ok e h
  | t :: ts, u :: us, e, h => (ttE t u e h).bind fun e1 h1 => ttEs ts us e1 h1
  | _, _, _, _ => .bad
end
variable (fu : Nat)
def setAll : List Nat → List U → Env' → Option Env'
  | [], [], e => some e
  | i :: is, u :: us, e => if i < e.length then setAll is us (e.set i (some u)) else none
  | _, _, _ => none
mutual
def evS : S → Env' → OH → RS
  | .asg t a, e, h => (evE cal a e h).bindS e fun u h1 => (ttE cal t u e h1).bindS e fun e2 h2 => .nx e2 h2
  | .par is es, e, h => (evL cal es e h).bindS e fun us h1 => match setAll is us e with
    | some e1 => .nx e1 h1
    | none => .bad
  | .ife c a b, e, h => (evE cal c e h).bindS e fun x h1 => match truO h1 x with
    | none => .bad
    | some true => evSs a e h1
    | some false => evSs b e h1
  | .for_ t src body, e, h => (evSr cal src e h).bindS e fun p h1 => if gdOk p.2 h1 then forL t (fun e h => evSs body e h) p.2 p.1 e h1 else .bad
  | .whl c body, e, h => whlL (fun e h => evE cal c e h) (fun e h => evSs body e h) fu e h
  | .ret a, e, h => (evE cal a e h).bindS e fun u h1 => .rt u h1
  | .retN, _, h => .rt .non h
  | .ex a, e, h => (evE cal a e h).bindS e fun _ h1 => .nx e h1
  | .never, _, _ => .bad
  | .brk, e, h => .bk e h
  | .cnt, e, h => .ct e h
  | .pass, e, h => .nx e h
def evSs : List S → Env' → OH → RS
  | [], e, h => .nx e h
  | s :: ss, e, h => (evS s e h).then fun e1 h1 => evSs ss e1 h1
end
end

/-- a def of the text -/
structure Fn where
  ps : Nat
  ns : Nat
  trim : Bool
  body : List S
/-- what a call hands back: what was made in it and is held by nobody is forgotten -/
def finE (trim : Bool) (n0 : Nat) (u : U) (h : OH) : R U :=
  if trim then match frz h n0 2 u with
    | some u' => if OH.bel n0 (h.take n0) then .ok u' (h.take n0) else .ok u h
    | none => .ok u h
  else .ok u h
def runF (cal : Nat → List U → OH → R U) (fu : Nat) (F : Fn) (us : List U) (h : OH) : R U :=
  if us.length = F.ps then match evSs cal fu F.body (us.map some ++ List.replicate (F.ns - F.ps) none) h with
    | .nx _ h1 => finE F.trim h.length .non h1
    | .rt u h1 => finE F.trim h.length u h1
    | .exc c xs _ h1 => .exc c xs h1
    | _ => .bad
  else .bad
def evC (P : Nat → Option Fn) (fu : Nat) : Nat → Nat → List U → OH → R U
  | 0, _, _, _ => .bad
  | d + 1, f, us, h => match P f with
    | some F => runF (evC P fu d) fu F us h
    | none => .bad
end TV

namespace TV
open PySem L2

/-! ### the relation with the layer's values and heap -/
structure Gam where
  K : PySem.W.Frag
  cls : Nat → Option Addr

def SqK (K : PySem.W.Frag) (a : Addr) (xs : List V) : Prop :=
  ∃ (o : Obj) (its : Array Value) (n : Nat), K.lookup a = some o ∧ o.dict = none ∧ o.cls = .type "tuple" ∧ o.data = .seq its n ∧ its.size ≤ sizeLine ∧ Vals xs its.toList
theorem SqK.sq {K : PySem.W.Frag} {a : Addr} {xs : List V} {H : Hp} (h : SqK K a xs) : SqT K H a xs := let ⟨o, its, n, h1, _, h3⟩ := h; .inr ⟨o, its, n, h1, h3⟩
/-- a tuple whose object is known: it has no dict of its own -/
def TupF (H : Hp) (p : Addr) (vs : List V) : Prop := ∃ o : Obj, H p = some (.frz o (.tup vs)) ∧ o.cls = .type "tuple" ∧ o.dict = none
theorem TupF.sq {K : PySem.W.Frag} {H : Hp} {a : Addr} {xs : List V} (h : TupF H a xs) : SqT K H a xs := let ⟨o, h1, _⟩ := h; .inl (.inr ⟨o, h1⟩)

section
variable (G : Gam) (as rs : List Addr) (H : Hp)
mutual
inductive RU : U → V → Prop
  | non : RU .non .non
  | bl (b : Bool) : RU (.bl b) (.bl b)
  | int (i : Int) : RU (.int i) (.int i)
  | str (s : Str) : RU (.str s) (.str s)
  | tupH {p : Addr} {vs : List V} {us : List U} : p ∉ as → TupF H p vs → RL us vs → RU (.tup us) (.ref p)
  | tupK {p : Addr} {vs : List V} {us : List U} : SqK G.K p vs → RL us vs → RU (.tup us) (.ref p)
  | fls {p : Addr} {vs : List V} {us : List U} : p ∉ as → p ∉ rs → H p = some (.lst vs) → RL us vs → RU (.fls us) (.ref p)
  | ref {n : Nat} {a : Addr} : as[n]? = some a → RU (.ref n) (.ref a)
  | rlsH {p : Addr} {o : Obj} {ns : List Int} : p ∉ as → H p = some (.frz o (.lst (ns.map V.int))) → RU (.rls ns) (.ref p)
  | rlsK {p : Addr} {ns : List Int} : (∀ H', SqL G.K H' p (ns.map V.int)) → RU (.rls ns) (.ref p)
inductive RL : List U → List V → Prop
  | nil : RL [] []
  | cons {u : U} {v : V} {us : List U} {vs : List V} : RU u v → RL us vs → RL (u :: us) (v :: vs)
end
/-- a row of pairs -/
def RP {κ : Type} : List (κ × U) → List (κ × V) → Prop := Paired fun p q => p.1 = q.1 ∧ RU G as rs H p.2 q.2
def RO (a : Addr) : OO → Prop
  | .lst us => ∃ vs, H a = some (.lst vs) ∧ RL G as rs H us vs
  | .rol us => ∃ vs, SqL G.K H a vs ∧ RL G as rs H us vs
  | .dct kvs => ∃ kv, H a = some (.dK kv) ∧ RP G as rs H kvs kv
  | .ins c fs => ∃ C dx fv, G.cls c = some C ∧ H a = some (.ins C dx fv) ∧ RP G as rs H fs fv
structure RH (h : OH) : Prop where
  len : as.length = h.length
  nd : as.Nodup
  ob : ∀ (i : Nat) (o : OO), h[i]? = some o → ∃ a, as[i]? = some a ∧ RO G as rs H a o
  here : ∀ a ∈ as, ∃ o, H a = some o ∧ ∀ xs, o ≠ .tup xs ∧ ∀ ob, o ≠ .frz ob (.tup xs)
  rsv : ∀ p ∈ rs, p ∉ as ∧ ∃ xs, H p = some (.lst xs)
structure RSt (e : Env') (σ : L2.St) : Prop where
  len : e.length = σ.length
  at_ : ∀ (i : Nat) (u : U), e[i]? = some (some u) → ∃ v, σ[i]? = some (some v) ∧ RU G as rs H u v
end
structure Ext (as : List Addr) (H : Hp) (as' : List Addr) (H' : Hp) : Prop where
  pre : ∀ (i : Nat) (a : Addr), as[i]? = some a → as'[i]? = some a
  keep : ∀ p o, p ∉ as → H p = some o → H' p = some o ∧ p ∉ as'

section
variable {G : Gam} {as as' as'' rs : List Addr} {H H' H'' : Hp} {h : OH}
theorem Ext.refl : Ext as H as H := ⟨fun _ _ e => e, fun _ _ n e => ⟨e, n⟩⟩
theorem Ext.trans (a : Ext as H as' H') (b : Ext as' H' as'' H'') : Ext as H as'' H'' :=
  ⟨fun i x e => b.pre i x (a.pre i x e), fun p o n e => let ⟨e1, n1⟩ := a.keep p o n e; b.keep p o n1 e1⟩
theorem Ext.mem (x : Ext as H as' H') {a : Addr} (h : a ∈ as) : a ∈ as' := by
  obtain ⟨i, hi, e⟩ := List.mem_iff_getElem.mp h
  exact List.mem_of_getElem? (x.pre i a (by rw [List.getElem?_eq_getElem hi, e]))
mutual
theorem RU.ext (x : Ext as H as' H') : ∀ {u : U} {v : V}, RU G as rs H u v → RU G as' rs H' u v
  | _, _, .non => .non
  | _, _, .bl b => .bl b
  | _, _, .int i => .int i
  | _, _, .str s => .str s
  | _, _, .tupH n ⟨o, r, c⟩ l => .tupH (x.keep _ _ n r).2 ⟨o, (x.keep _ _ n r).1, c⟩ (RL.ext x l)
  | _, _, .tupK r l => .tupK r (RL.ext x l)
  | _, _, .fls n m r l => .fls (x.keep _ _ n r).2 m (x.keep _ _ n r).1 (RL.ext x l)
  | _, _, .ref e => .ref (x.pre _ _ e)
  | _, _, .rlsH n e => .rlsH (x.keep _ _ n e).2 (x.keep _ _ n e).1
  | _, _, .rlsK e => .rlsK e
theorem RL.ext (x : Ext as H as' H') : ∀ {u : List U} {v : List V}, RL G as rs H u v → RL G as' rs H' u v
  | _, _, .nil => .nil
  | _, _, .cons r l => .cons (RU.ext x r) (RL.ext x l)
end
theorem RP.ext {κ : Type} (x : Ext as H as' H') {k : List (κ × U)} {l : List (κ × V)} (r : RP G as rs H k l) : RP G as' rs H' k l := Paired.mapP r fun _ _ z => ⟨z.1, z.2.ext x⟩
theorem RO.ext (x : Ext as H as' H') {a : Addr} (ha : H' a = H a) {o : OO} (r : RO G as rs H a o) : RO G as' rs H' a o := by
  cases o with
  | lst us => obtain ⟨vs, e, l⟩ := r; exact ⟨vs, ha.trans e, l.ext x⟩
  | rol us =>
    obtain ⟨vs, e, l⟩ := r
    refine ⟨vs, ?_, l.ext x⟩
    rcases e with (e | ⟨ob, e⟩) | e
    · exact .inl (.inl (ha.trans e))
    · exact .inl (.inr ⟨ob, ha.trans e⟩)
    · exact .inr e
  | dct kvs => obtain ⟨kv, e, l⟩ := r; exact ⟨kv, ha.trans e, RP.ext x l⟩
  | ins c fs => obtain ⟨C, dx, fv, ec, e, l⟩ := r; exact ⟨C, dx, fv, ec, ha.trans e, RP.ext x l⟩
theorem RSt.ext (x : Ext as H as' H') {e : Env'} {σ : L2.St} (r : RSt G as rs H e σ) : RSt G as' rs H' e σ := ⟨r.len, fun i u q => let ⟨v, e1, r1⟩ := r.at_ i u q; ⟨v, e1, r1.ext x⟩⟩
theorem RH.ne (r : RH G as rs H h) {p a : Addr} (hp : H p = none) (ha : a ∈ as) : a ≠ p := by
  obtain ⟨o, e, _⟩ := r.here a ha
  exact ne_of_none e hp
theorem RH.nin (r : RH G as rs H h) {p : Addr} (hp : H p = none) : p ∉ as := fun z => r.ne hp z rfl
/-- a thing that the own heap does not know is laid at a new place -/
theorem Ext.new (r : RH G as rs H h) {p : Addr} {o : HO} (hp : H p = none) : Ext as H as (upd H p o) :=
  ⟨fun _ _ e => e, fun q o' n e => ⟨by rw [upd_ne (ne_of_none e hp)]; exact e, n⟩⟩
theorem RH.new (r : RH G as rs H h) {p : Addr} {o : HO} (hp : H p = none) : RH G as rs (upd H p o) h := by
  have x : Ext as H as (upd H p o) := Ext.new r hp
  refine ⟨r.len, r.nd, fun i o' e => ?_, fun a ha => ?_, fun q hq => ?_⟩
  · obtain ⟨a, e1, q⟩ := r.ob i o' e
    exact ⟨a, e1, q.ext x (upd_ne (r.ne hp (List.mem_of_getElem? e1)))⟩
  · obtain ⟨o', e, z⟩ := r.here a ha
    exact ⟨o', by rw [upd_ne (ne_of_none e hp)]; exact e, z⟩
  · obtain ⟨n, xs, e⟩ := r.rsv q hq
    exact ⟨n, xs, by rw [upd_ne (ne_of_none e hp)]; exact e⟩
def HO.plain : HO → Prop
  | .tup _ => False
  | .frz _ _ => False
  | _ => True
theorem plain_ne {o : HO} (h : HO.plain o) : ∀ xs, o ≠ .tup xs ∧ ∀ ob, o ≠ .frz ob (.tup xs) := fun xs =>
  ⟨fun e => by subst e; exact h, fun ob e => by subst e; exact h⟩
/-- a new thing, known to the own heap -/
theorem Ext.alloc (r : RH G as rs H h) {p : Addr} {o : HO} (hp : H p = none) : Ext as H (as ++ [p]) (upd H p o) := by
  refine ⟨fun i a e => ?_, fun q o' n e => ⟨by rw [upd_ne (ne_of_none e hp)]; exact e, ?_⟩⟩
  · have := (List.getElem?_eq_some_iff.mp e).1
    rw [List.getElem?_append_left this]; exact e
  · intro z
    rcases List.mem_append.mp z with z | z
    · exact n z
    · have : q = p := by simpa using z
      rw [this] at e; rw [hp] at e; cases e
theorem RH.alloc (r : RH G as rs H h) {p : Addr} {o : HO} {o' : OO} (hp : H p = none) (ho : HO.plain o) (new : RO G (as ++ [p]) rs (upd H p o) p o') : RH G (as ++ [p]) rs (upd H p o) (h ++ [o']) := by
  have x : Ext as H (as ++ [p]) (upd H p o) := Ext.alloc r hp
  refine ⟨by simp [r.len], ?_, fun i q e => ?_, fun a ha => ?_, fun q hq => ?_⟩
  · rw [List.nodup_append]
    refine ⟨r.nd, by simp, fun a ha b hb => ?_⟩
    have : b = p := by simpa using hb
    rw [this]; exact r.ne hp ha
  · by_cases hi : i < h.length
    · rw [List.getElem?_append_left hi] at e
      obtain ⟨a, e1, z⟩ := r.ob i q e
      exact ⟨a, x.pre i a e1, z.ext x (upd_ne (r.ne hp (List.mem_of_getElem? e1)))⟩
    · rw [List.getElem?_append_right (by omega)] at e
      have hz : i - h.length = 0 := by
        have := (List.getElem?_eq_some_iff.mp e).1
        simp at this; omega
      rw [hz] at e
      have e' : o' = q := by simpa using e
      subst e'
      have hi' : i = as.length := by rw [r.len]; omega
      exact ⟨p, by rw [hi']; simp, new⟩
  · rcases List.mem_append.mp ha with ha | ha
    · obtain ⟨o1, e, z⟩ := r.here a ha
      exact ⟨o1, by rw [upd_ne (ne_of_none e hp)]; exact e, z⟩
    · have : a = p := by simpa using ha
      rw [this]; exact ⟨o, upd_same, plain_ne ho⟩
  · obtain ⟨n, xs, e⟩ := r.rsv q hq
    refine ⟨fun z => ?_, xs, by rw [upd_ne (ne_of_none e hp)]; exact e⟩
    rcases List.mem_append.mp z with z | z
    · exact n z
    · have : q = p := by simpa using z
      rw [this] at e; rw [hp] at e; cases e
/-- a known thing is changed -/
theorem Ext.upd {a : Addr} {o : HO} (ha : a ∈ as) : Ext as H as (upd H a o) := ⟨fun _ _ e => e, fun q o' n e => ⟨by rw [upd_ne (fun z => n (by rw [z]; exact ha))]; exact e, n⟩⟩
theorem RH.upd (r : RH G as rs H h) {i : Nat} {a : Addr} {o : HO} {o' : OO} (ea : as[i]? = some a) (ho : HO.plain o) (new : RO G as rs (upd H a o) a o') : RH G as rs (upd H a o) (h.set i o') := by
  have ha : a ∈ as := List.mem_of_getElem? ea
  have x : Ext as H as (L2.upd H a o) := Ext.upd ha
  have hi : i < h.length := by rw [← r.len]; exact (List.getElem?_eq_some_iff.mp ea).1
  refine ⟨by simp [r.len], r.nd, fun j q e => ?_, fun b hb => ?_, fun q hq => ?_⟩
  · by_cases hj : j = i
    · subst hj
      rw [List.getElem?_set_self hi] at e
      have e' : o' = q := by simpa using e
      subst e'
      exact ⟨a, ea, new⟩
    · rw [List.getElem?_set_ne (Ne.symm hj)] at e
      obtain ⟨b, e1, z⟩ := r.ob j q e
      refine ⟨b, e1, z.ext x (upd_ne fun w => hj ?_)⟩
      subst w
      have h1 := (List.getElem?_eq_some_iff.mp e1)
      have h2 := (List.getElem?_eq_some_iff.mp ea)
      obtain ⟨l1, q1⟩ := h1
      obtain ⟨l2, q2⟩ := h2
      exact (List.getElem_inj r.nd).mp (q1.trans q2.symm)
  · by_cases hb' : b = a
    · subst hb'; exact ⟨o, upd_same, plain_ne ho⟩
    · obtain ⟨o1, e, z⟩ := r.here b hb
      exact ⟨o1, by rw [upd_ne hb']; exact e, z⟩
  · obtain ⟨n, xs, e⟩ := r.rsv q hq
    exact ⟨n, xs, by rw [upd_ne (fun z => n (by rw [z]; exact ha))]; exact e⟩
theorem RL.length {us : List U} {vs : List V} : RL G as rs H us vs → us.length = vs.length
  | .nil => rfl
  | .cons _ l => by rw [List.length_cons, List.length_cons, RL.length l]
theorem RL.get {us : List U} {vs : List V} {i : Nat} {u : U} : RL G as rs H us vs → us[i]? = some u → ∃ v, vs[i]? = some v ∧ RU G as rs H u v
  | .nil, e => by simp at e
  | .cons r l, e => by
    cases i with
    | zero => simp at e; subst e; exact ⟨_, rfl, r⟩
    | succ i =>
      obtain ⟨v, e1, r1⟩ := RL.get (i := i) l (by simpa using e)
      exact ⟨v, by simpa using e1, r1⟩
theorem RL.get' {us : List U} {vs : List V} {i : Nat} {v : V} : RL G as rs H us vs → vs[i]? = some v → ∃ u, us[i]? = some u ∧ RU G as rs H u v
  | .nil, e => by simp at e
  | .cons r l, e => by
    cases i with
    | zero => simp at e; subst e; exact ⟨_, rfl, r⟩
    | succ i =>
      obtain ⟨v, e1, r1⟩ := RL.get' (i := i) l (by simpa using e)
      exact ⟨v, by simpa using e1, r1⟩
theorem RL.append {us us' : List U} {vs vs' : List V} : RL G as rs H us vs → RL G as rs H us' vs' → RL G as rs H (us ++ us') (vs ++ vs')
  | .nil, l => l
  | .cons r l, l' => .cons r (RL.append l l')
theorem RL.set {us : List U} {vs : List V} {u : U} {v : V} (r : RU G as rs H u v) : ∀ (i : Nat), RL G as rs H us vs → RL G as rs H (us.set i u) (vs.set i v)
  | _, .nil => by simpa using RL.nil
  | 0, .cons _ l => .cons r l
  | i + 1, .cons q l => .cons q (RL.set r i l)
theorem RL.take {us : List U} {vs : List V} : ∀ (n : Nat), RL G as rs H us vs → RL G as rs H (us.take n) (vs.take n)
  | 0, _ => by simpa using RL.nil
  | _ + 1, .nil => by simpa using RL.nil
  | n + 1, .cons r l => by simpa using RL.cons r (RL.take n l)
theorem RL.drop {us : List U} {vs : List V} : ∀ (n : Nat), RL G as rs H us vs → RL G as rs H (us.drop n) (vs.drop n)
  | 0, l => by simpa using l
  | _ + 1, .nil => by simpa using RL.nil
  | n + 1, .cons _ l => by simpa using RL.drop n l
theorem RL.eraseIdx {us : List U} {vs : List V} : ∀ (n : Nat), RL G as rs H us vs → RL G as rs H (us.eraseIdx n) (vs.eraseIdx n)
  | _, .nil => by simpa using RL.nil
  | 0, .cons _ l => by simpa using l
  | n + 1, .cons r l => by simpa using RL.cons r (RL.eraseIdx n l)
theorem RL.dropLast {us : List U} {vs : List V} (l : RL G as rs H us vs) : RL G as rs H us.dropLast vs.dropLast := by
  rw [List.dropLast_eq_take, List.dropLast_eq_take, l.length]
  exact RL.take _ l
theorem RL.rep {us : List U} {vs : List V} (l : RL G as rs H us vs) : ∀ n : Nat, RL G as rs H (List.replicate n us).flatten (List.replicate n vs).flatten
  | 0 => by simpa using RL.nil
  | n + 1 => by
    rw [List.replicate_succ, List.replicate_succ, List.flatten_cons, List.flatten_cons]
    exact l.append (RL.rep l n)
theorem RL.cut {us : List U} {vs : List V} (l : RL G as rs H us vs) (lo hi : Option Int) : RL G as rs H (TV.cut us lo hi) (cutV vs lo hi) := by
  unfold TV.cut cutV
  rw [l.length]
  exact RL.take _ (RL.drop _ l)
theorem RL.isEmpty {us : List U} {vs : List V} (l : RL G as rs H us vs) : us.isEmpty = vs.isEmpty := by cases l <;> rfl
end
end TV

namespace TV
open PySem L2

/-! ### what a result asks -/
def out {α : Type} (G : Gam) (as rs : List Addr) (H : Hp) (r : R α) (k : List Addr → Hp → α → OH → Prop) : Prop := match r with
  | .ok a h' => ∀ as' H', Ext as H as' H' → RH G as' rs H' h' → k as' H' a h'
  | .exc _ _ _ => False
  | .bad => False
section
variable {G : Gam} {as rs : List Addr} {H : Hp} {h : OH} {α β : Type}
theorem out_now {a : α} {k} (o : out G as rs H (.ok a h) k) (r : RH G as rs H h) : k as H a h := o as H .refl r
theorem out_mono {r : R α} {k k' : List Addr → Hp → α → OH → Prop} (o : out G as rs H r k) (f : ∀ as' H' a h', Ext as H as' H' → RH G as' rs H' h' → k as' H' a h' → k' as' H' a h') : out G as rs H r k' := by
  cases r with
  | ok a h' => exact fun as' H' x q => f _ _ _ _ x q (o as' H' x q)
  | exc c us h' => exact o
  | bad => exact o
theorem out_ext {as' : List Addr} {H' : Hp} {r : R α} {k : List Addr → Hp → α → OH → Prop} (x : Ext as H as' H') (o : out G as rs H r k) : out G as' rs H' r k := by
  cases r with
  | ok a h' => exact fun as2 H2 y q => o as2 H2 (x.trans y) q
  | exc c us h' => exact o
  | bad => exact o
theorem out_bind {m : R α} {f : α → OH → R β} {k} (o : out G as rs H (m.bind f) k) : out G as rs H m fun as1 H1 a h1 => out G as1 rs H1 (f a h1) k := by
  cases m with
  | ok a h' => exact fun as1 H1 x q => out_ext x (show out G as rs H (f a h') k from o)
  | exc c us h' => exact o
  | bad => exact o
end
def kE (G : Gam) (rs : List Addr) (Q : VK) : List Addr → Hp → U → OH → Prop := fun as H u _ => ∀ v, RU G as rs H u v → Q v H

section
variable {G : Gam} {as rs : List Addr} {H : Hp} {h : OH} {Q : VK}
theorem lim_line : LIM = sizeLine := by rw [sizeLine_eq]
theorem lsO_ok (r : RH G as rs H h) {u : U} {v : V} {us : List U} (ru : RU G as rs H u v) (e : lsO h u = some us) : ∃ p vs, v = .ref p ∧ H p = some (.lst vs) ∧ RL G as rs H us vs := by
  cases ru with
  | fls n m hp l =>
    simp only [lsO, Option.some.injEq] at e
    subst e; exact ⟨_, _, rfl, hp, l⟩
  | @ref n a ea =>
    simp only [lsO] at e
    split at e
    · rename_i xs hx
      simp only [Option.some.injEq] at e
      subst e
      obtain ⟨b, eb, vs, hb, l⟩ := r.ob _ _ hx
      rw [ea] at eb; cases eb
      exact ⟨_, vs, rfl, hb, l⟩
    · cases e
  | _ => simp [lsO] at e
theorem sqO_ok (r : RH G as rs H h) {u : U} {v : V} {us : List U} (ru : RU G as rs H u v) (e : sqO h u = some us) : ∃ p vs, v = .ref p ∧ (SqL G.K H p vs ∨ SqT G.K H p vs) ∧ RL G as rs H us vs := by
  cases ru with
  | fls n m hp l =>
    simp only [sqO, Option.some.injEq] at e
    subst e; exact ⟨_, _, rfl, .inl (SqL.of hp), l⟩
  | tupH n hp l =>
    simp only [sqO, Option.some.injEq] at e
    subst e; exact ⟨_, _, rfl, .inr hp.sq, l⟩
  | tupK hp l =>
    simp only [sqO, Option.some.injEq] at e
    subst e; exact ⟨_, _, rfl, .inr hp.sq, l⟩
  | @ref n a ea =>
    simp only [sqO] at e
    split at e
    · rename_i xs hx
      simp only [Option.some.injEq] at e
      subst e
      obtain ⟨b, eb, vs, hb, l⟩ := r.ob _ _ hx
      rw [ea] at eb; cases eb
      exact ⟨_, vs, rfl, .inl (SqL.of hb), l⟩
    · rename_i xs hx
      simp only [Option.some.injEq] at e
      subst e
      obtain ⟨b, eb, vs, hb, l⟩ := r.ob _ _ hx
      rw [ea] at eb; cases eb
      exact ⟨_, vs, rfl, .inl hb, l⟩
    · cases e
  | _ => simp [sqO] at e
theorem tup_ok {us : List U} {v : V} (ru : RU G as rs H (.tup us) v) : ∃ p vs, v = .ref p ∧ SqT G.K H p vs ∧ RL G as rs H us vs := by
  cases ru with
  | tupH n hp l => exact ⟨_, _, rfl, hp.sq, l⟩
  | tupK hp l => exact ⟨_, _, rfl, hp.sq, l⟩
/-- what a new tuple asks -/
def NTup (H : Hp) (vs : List V) (Q : VK) : Prop := ∀ p o, H p = none → o.cls = .type "tuple" → o.dict = none → Q (.ref p) (upd H p (.frz o (.tup vs)))
theorem new_tup (r : RH G as rs H h) {us : List U} {vs : List V} (l : RL G as rs H us vs) (o : out G as rs H (.ok (.tup us) h) (kE G rs Q)) : NTup H vs Q := fun p ob hp hc hd =>
  o as _ (Ext.new r hp) (r.new hp) _ (.tupH (r.nin hp) ⟨ob, upd_same, hc, hd⟩ (l.ext (Ext.new r hp)))
theorem new_lst (r : RH G as rs H h) {m : Bool} {us : List U} {vs : List V} (l : RL G as rs H us vs) (o : out G as rs H (newL m us h) (kE G rs Q)) : vs.length ≤ sizeLine ∧ ∀ p, H p = none → Q (.ref p) (upd H p (.lst vs)) := by
  unfold newL at o
  split at o
  · rename_i hl
    refine ⟨by rw [← l.length, ← lim_line]; exact hl, fun p hp => ?_⟩
    cases m with
    | true => exact o _ _ (Ext.alloc r hp) (r.alloc (o := .lst vs) (o' := .lst us) hp True.intro ⟨vs, upd_same, l.ext (Ext.alloc r hp)⟩) _ (.ref (by rw [← r.len]; simp))
    | false => exact o as _ (Ext.new r hp) (r.new hp) _ (.fls (r.nin hp) (fun z => by obtain ⟨_, _, e⟩ := r.rsv p z; rw [hp] at e; cases e) upd_same (l.ext (Ext.new r hp)))
  · exact o.elim
end

/-! ### new tuples, their objects known -/
section
open PySem.Spec PyProof.Rows
variable {X : Cx}
def tupO (its : List Value) (n : Nat) : Obj := { cls := .type "tuple", data := .seq its.toArray n }
theorem lay_tup {pins : List (Addr × Obj)} {σ : L2.St} {H : Hp} {s : Shared} {vs : List V} {its : List Value} {n : Nat} {t : Nat} (I : Inv X pins σ H s) (l : Vals vs its) (hz : vs.length ≤ sizeLine) :
    Inv X pins σ (upd H s.heap.objs.size (.frz (tupO its n) (.tup vs))) { s with heap := s.heap.push (tupO its n), toks := t } :=
  I.laid (fun b o e => Heap.get?_push_of_some _ e) (Nat.le_refl _) ⟨Heap.get?_push_size _ rfl, hz, its, l, _, Heap.get?_push_size _ rfl, rfl, n, rfl⟩
theorem nt_end {pins : List (Addr × Obj)} {σ : L2.St} {H : Hp} {s : Shared} {vs : List V} {its : List Value} {n : Nat} {t : Nat} {Q : VK} (I : Inv X pins σ H s) (l : Vals vs its) (hz : vs.length ≤ sizeLine) (q : NTup H vs Q) :
    EP X pins σ Q (.ref s.heap.objs.size) { s with heap := s.heap.push (tupO its n), toks := t } := ⟨.ref _, _, lay_tup I l hz, rfl, q _ _ (I.hok.fresh (Nat.le_refl _)) rfl rfl⟩
theorem pe_tupF {es : List Expr} {x1 : Nat} {t : TA} {pos : Pos} (h : PA X es t) : PE X (.Tuple es x1 pos) (fun σ H Q => t σ H fun xs H1 => xs.length ≤ sizeLine ∧ NTup H1 xs Q) :=
  ⟨fun pins s σ H Q I hq => wpAny_Tuple_spliced (thn (h.run pos pins s σ H _ I hq) fun us s1 ⟨xs, H1, I1, r, z, q⟩ => ⟨by rw [← r.length]; exact z, nt_end I1 r z q⟩)⟩
def rCatF (K : PySem.W.Frag) : R2 := fun x y H Q => ∃ a b xs ys, x = .ref a ∧ y = .ref b ∧ SqT K H a xs ∧ SqT K H b ys ∧ xs.length + ys.length ≤ sizeLine ∧
  (xs = [] → Q (.ref b) H) ∧ (xs ≠ [] → ys = [] → Q (.ref a) H) ∧ (xs ≠ [] → ys ≠ [] → NTup H (xs ++ ys) Q)
theorem op_catF : OpR X (binaryOp .Add) (rCatF X.K) := by
  rintro pins s σ H x y v u Q I rx ry ⟨a, b, xs, ys, rfl, rfl, ta, tb, hz, q0, q1, q2⟩
  cases rx
  cases ry
  obtain ⟨i1, l1, p1, _⟩ := I.tuple ta
  obtain ⟨i2, l2, p2, _⟩ := I.tuple tb
  by_cases hx : xs = []
  · subst hx
    cases l1
    exact cat_tup0 p1 p2 ⟨.ref _, H, I, rfl, q0 rfl⟩
  · have h1 : i1 ≠ [] := fun e => hx ((l1.nil_iff).mp e)
    refine HT.cat_tup p1 p2 h1 (fun e => ⟨.ref _, H, I, rfl, q1 hx ((l2.nil_iff).mp e)⟩) (fun e => ?_) ?_
    · exact nt_end (t := s.toks) I (l1.append l2) (by rw [List.length_append]; exact hz) (q2 hx fun z => e ((l2.nil_iff).mpr z))
    · rw [← l1.length, ← l2.length]; exact hz
def rRepF (K : PySem.W.Frag) : R2 := fun x y H Q => ∃ l k xs, x = .ref l ∧ y = .int k ∧ SqT K H l xs ∧ xs ≠ [] ∧ 2 ≤ k ∧ k ≤ 1000 ∧ xs.length ≤ 1000 ∧ NTup H (List.replicate k.toNat xs).flatten Q
theorem op_repF : OpR X (binaryOp .Mult) (rRepF X.K) := by
  rintro pins s σ H x y v u Q I rx ry ⟨p, k, xs, rfl, rfl, hT, hne, k1, k2, hz, q⟩
  cases rx
  obtain ⟨tk, rfl⟩ := ry
  obtain ⟨its, r, ⟨⟨cls, dd, data, sl⟩, ho, hc, n, hd⟩, hs⟩ := I.tuple hT
  simp only at hc hd
  subst hc hd
  have len : its.length = xs.length := r.length.symm
  have big := sizeLine_eq
  have ne : its.toArray.isEmpty = false := by
    cases its with
    | nil => cases r; exact absurd rfl hne
    | cons _ _ => rfl
  have sz : its.toArray.size = xs.length := by rw [List.size_toArray, len]
  have prod : ((xs.length : Nat) : Int) * k ≤ 1000000 := by
    have := Int.mul_le_mul_of_nonneg_right (a := ((xs.length : Nat) : Int)) (b := 1000) (c := k) (by omega) (by omega)
    omega
  have nat : k.toNat * xs.length ≤ 1000000 := by
    have := Nat.mul_le_mul (show k.toNat ≤ 1000 by omega) hz
    omega
  have fl : (List.replicate k.toNat its).flatten.length ≤ sizeLine := by
    rw [PyProof.Rows.lm_len_rep_flat, len]; omega
  have fv : (List.replicate k.toNat xs).flatten.length ≤ sizeLine := by
    rw [PyProof.Rows.lm_len_rep_flat]; omega
  have a0 : (decide (k < -(2 ^ 63)) || decide (k ≥ 2 ^ 63)) = false := by
    rw [Bool.or_eq_false_iff]
    exact ⟨decide_eq_false (by omega), decide_eq_false (by omega)⟩
  have a1 : (its.toArray.isEmpty || k == 1) = false := by
    rw [ne, Bool.false_or, beq_eq_false_iff_ne]
    omega
  have a2 : (decide (k ≤ 0) || its.toArray.isEmpty) = false := by
    rw [ne, Bool.or_false]
    exact decide_eq_false (by omega)
  have a3 : ¬ ((its.toArray.size : Nat) : Int) * k > (2 ^ 63 - 1) / 8 := by rw [sz]; omega
  have a4 : Builtin.Tuple.tupleTooMany (((its.toArray.size : Nat) : Int) * k) = false := by
    unfold Builtin.Tuple.tupleTooMany
    rw [sz, big]
    exact decide_eq_false (by omega)
  have a5 : (List.foldl (fun x1 x2 => x1 ++ x2) #[] (List.replicate k.toNat its.toArray)).size ≤ sizeLine := by rw [size_rep, List.size_toArray]; exact fl
  refine wpAny_binaryOp_repeat_ref (T := "tuple") (U := "int") (by decide) ⟨_, ho, rfl⟩ (fun s' => typeIs_int s' k tk) noFill_tuple_mul F.fills_int_mul F.slot_int_rmul repeat_tuple F.slot_int_index.lookup ?_
  refine call_meets F.slot_int_rmul (typeIs_int s k tk) F.entry_int_rmul (F.args_int_rmul_2 _ _) (int_rmul_tuple k tk p its.toArray n dd sl) ⟨ho, rfl, ⟨_, ho, rfl⟩, ?_⟩
  refine call_meets F.slot_tuple_mul ⟨_, ho, rfl⟩ F.entry_tuple_mul (F.args_tuple_mul_2 _ _) (tuple_mulW p its.toArray n dd sl k tk a0 a1 a2 a3 a4 a5) ⟨ho, ?_⟩
  rw [size_rep]
  exact nt_end (t := s.toks) I (r.rep k.toNat) fv q
/-- t[lo:hi] -/
def rSlF (K : PySem.W.Frag) : V → Option Int → Option Int → Hp → VK → Prop := fun x lo hi H Q => ∃ a xs, x = .ref a ∧ SqT K H a xs ∧
  (HT.sIx xs.length 0 lo = 0 ∧ HT.sIx xs.length xs.length hi = xs.length → Q (.ref a) H) ∧ (¬ (HT.sIx xs.length 0 lo = 0 ∧ HT.sIx xs.length xs.length hi = xs.length) → NTup H (cutV xs lo hi) Q)
theorem sl_tupF : SlR X (rSlF X.K) := by
  rintro pins s σ H x v vl vu lo hi sl Q I rx hs pl pu ⟨a, xs, rfl, hx, q1, q2⟩
  cases rx
  obtain ⟨its, r, ht, hz⟩ := I.tuple hx
  have len : its.toArray.size = xs.length := by rw [List.size_toArray]; exact r.length.symm
  refine ⟨"tuple", _, PyProof.Rows.slot_tuple_getitem.lookup, ht.typeIs, ?_⟩
  by_cases hw : HT.sIx xs.length 0 lo = 0 ∧ HT.sIx xs.length xs.length hi = xs.length
  · exact getItem_tuple_whole ht hs pl pu (by rw [len]; exact hw) ⟨.ref a, H, I, rfl, q1 hw⟩
  · refine HT.getItem_tuple_cut ht hs pl pu (by rw [len]; exact hw) ?_ (by rw [len]; exact hz)
    rw [len]
    refine nt_end (t := s.toks) I (vs := cutV xs lo hi) (its := (its.drop (HT.sIx xs.length 0 lo)).take (HT.sIx xs.length xs.length hi - HT.sIx xs.length 0 lo)) (n := 0) ?_ (Nat.le_trans (cutV_length xs lo hi) hz) (q2 hw)
    exact (r.drop _).take _
/-- tuple(x) -/
theorem call_tupF : CallR X (.type "tuple") (fun xs H Q => ∃ p ys, xs = [.ref p] ∧ ((SqL X.K H p ys ∧ NTup H ys Q) ∨ (SqT X.K H p ys ∧ Q (.ref p) H))) := by
  rintro pins s σ H xs us Q I r ⟨p, ys, rfl, h⟩
  obtain ⟨u, rfl, rx⟩ := vals1 r
  cases rx
  rcases h with ⟨hq, q⟩ | ⟨hq, q⟩
  · obtain ⟨its, r', pl, hz⟩ := I.list hq
    have len := r'.length
    refine call_tuple_list pl.isList (fun h' kp => ?_) (by rw [List.size_toArray]; omega)
    exact nt_end (t := s.toks) (I.kept (t' := s.toks) kp) r' hz q
  · obtain ⟨its, r', pl, hz⟩ := I.tuple hq
    exact call_tuple_same pl ⟨.ref p, H, I, rfl, q⟩
end

/-! ### operators -/
def pyOp : Op → Operator
  | .add => .Add | .sub => .Sub | .mul => .Mult | .fdiv => .FloorDiv | .mod => .Mod | .pow => .Pow
def r2O (G : Gam) (f : U → U → OH → R U) : R2 := fun x y H Q => ∃ as rs h a b, RH G as rs H h ∧ RU G as rs H a x ∧ RU G as rs H b y ∧ out G as rs H (f a b h) (kE G rs Q)
section
variable {X : Cx} {G : Gam} (hK : G.K = X.K)
theorem catE_ok (hK : G.K = X.K) {pins s σ H x y v u Q as rs h m oa ob} (I : Inv X pins σ H s) (rx : RelV x v) (ry : RelV y u) (r : RH G as rs H h)
    (ha : ∀ us, oa = some us → ∃ p vs, x = .ref p ∧ H p = some (.lst vs) ∧ RL G as rs H us vs) (hb : ∀ us, ob = some us → ∃ p vs, y = .ref p ∧ H p = some (.lst vs) ∧ RL G as rs H us vs)
    (o : out G as rs H (catE m oa ob h) (kE G rs Q)) : wpAny (model X.prog X.w) X.A (binaryOp .Add v u) (EP X pins σ Q) X.xe s := by
  unfold catE at o
  split at o
  · rename_i us vs
    obtain ⟨p, xs, rfl, hp, l1⟩ := ha us rfl
    obtain ⟨q, ys, rfl, hq, l2⟩ := hb vs rfl
    split at o
    · rename_i hl
      refine op_cat pins s σ H _ _ v u Q I rx ry ⟨p, q, xs, ys, rfl, rfl, hp, hq, ?_, (new_lst r (l1.append l2) o).2⟩
      rw [← l1.length, ← l2.length, ← lim_line]; exact hl
    · exact o.elim
  · exact o.elim
theorem repE_ok (hK : G.K = X.K) {pins s σ H x v u Q as rs h m oa} {k : Int} (I : Inv X pins σ H s) (rx : RelV x v) (ry : RelV (.int k) u) (r : RH G as rs H h)
    (ha : ∀ us, oa = some us → ∃ p vs, x = .ref p ∧ H p = some (.lst vs) ∧ RL G as rs H us vs)
    (o : out G as rs H (repE m oa k h) (kE G rs Q)) : wpAny (model X.prog X.w) X.A (binaryOp .Mult v u) (EP X pins σ Q) X.xe s := by
  unfold repE at o
  split at o
  · rename_i us
    obtain ⟨p, xs, rfl, hp, l1⟩ := ha us rfl
    split at o
    · rename_i hl
      obtain ⟨h1, h3⟩ := hl
      refine op_rep pins s σ H _ _ v u Q I rx ry ⟨p, k, xs, rfl, rfl, hp, by omega, by omega, ?_, (new_lst r (l1.rep _) o).2⟩
      rw [← l1.length, ← lim_line]; exact h3
    · exact o.elim
  · exact o.elim
theorem small64_ok {i : Int} (h : small64 i = true) : -(2 ^ 64) < i ∧ i < 2 ^ 64 := by
  simp only [small64, decide_eq_true_eq] at h
  omega
theorem addE_ok (hK : G.K = X.K) (m : Bool) : OpR X (binaryOp .Add) (r2O G (addE m)) := by
  rintro pins s σ H x y v u Q I rx ry ⟨as, rs, h, a, b, r, ra, rb, o⟩
  cases a with
  | int i =>
    cases b with
    | int j => cases ra; cases rb; exact op_add pins s σ H _ _ v u Q I rx ry ⟨i, j, rfl, rfl, out_now o r _ (.int _)⟩
    | _ => exact o.elim
  | str i =>
    cases b with
    | str j =>
      cases ra; cases rb
      simp only [addE] at o
      split at o
      · rename_i hl
        exact op_add_str pins s σ H _ _ v u Q I rx ry ⟨i, j, rfl, rfl, by rw [← lim_line]; exact hl, out_now o r _ (.str _)⟩
      · exact o.elim
    | _ => exact o.elim
  | tup us =>
    cases b with
    | tup vs =>
      obtain ⟨p, xs, rfl, hp, l1⟩ := tup_ok ra
      obtain ⟨q, ys, rfl, hq, l2⟩ := tup_ok rb
      simp only [addE] at o
      split at o
      · rename_i hl
        rw [hK] at hp hq
        refine op_catF pins s σ H _ _ v u Q I rx ry ⟨p, q, xs, ys, rfl, rfl, hp, hq, by rw [← l1.length, ← l2.length, ← lim_line]; exact hl, fun e => ?_, fun _ e => ?_, fun _ _ => new_tup r (l1.append l2) o⟩
        · subst e
          cases l1
          exact out_now o r _ rb
        · subst e
          cases l2
          rw [List.append_nil] at o
          exact out_now o r _ ra
      · exact o.elim
    | _ => exact o.elim
  | fls us => exact catE_ok hK I rx ry r (fun us' e => by cases e; exact lsO_ok r ra rfl) (fun us' e => lsO_ok r rb e) o
  | ref n => exact catE_ok hK I rx ry r (fun us' e => lsO_ok r ra e) (fun us' e => lsO_ok r rb e) o
  | _ => exact o.elim
theorem mulE_ok (hK : G.K = X.K) (m : Bool) : OpR X (binaryOp .Mult) (r2O G (mulE m)) := by
  rintro pins s σ H x y v u Q I rx ry ⟨as, rs, h, a, b, r, ra, rb, o⟩
  cases b with
  | int k =>
    cases rb
    cases a with
    | int i =>
      cases ra
      simp only [mulE] at o
      split at o
      · rename_i hl
        rw [Bool.or_eq_true] at hl
        exact op_mul pins s σ H _ _ v u Q I rx ry ⟨i, k, rfl, rfl, hl.imp small64_ok small64_ok, out_now o r _ (.int _)⟩
      · exact o.elim
    | tup us =>
      obtain ⟨p, xs, rfl, hp, l1⟩ := tup_ok ra
      simp only [mulE] at o
      split at o
      · rename_i hl
        obtain ⟨h1, h2, h3, h4⟩ := hl
        rw [hK] at hp
        refine op_repF pins s σ H _ _ v u Q I rx ry ⟨p, k, xs, rfl, rfl, hp, fun e => ?_, h2, h3, by rw [← l1.length]; exact h4, new_tup r (l1.rep _) o⟩
        subst e; cases l1; exact h1 rfl
      · exact o.elim
    | fls us => exact repE_ok (oa := some us) hK I rx ry r (fun us' e => by cases e; exact lsO_ok r ra rfl) o
    | ref n => exact repE_ok hK I rx ry r (fun us' e => lsO_ok r ra e) o
    | _ => exact o.elim
  | _ => exact o.elim
theorem intE_ok {op : Operator} {f : Int → Int → Option Int} (rule : ∀ i j z, f i j = some z → ∀ pins s σ H v u Q, Inv X pins σ H s → RelV (.int i) v → RelV (.int j) u → Q (.int z) H → wpAny (model X.prog X.w) X.A (binaryOp op v u) (EP X pins σ Q) X.xe s) :
    OpR X (binaryOp op) (r2O G (intE f)) := by
  rintro pins s σ H x y v u Q I rx ry ⟨as, rs, h, a, b, r, ra, rb, o⟩
  cases a with
  | int i =>
    cases b with
    | int j =>
      cases ra; cases rb
      simp only [intE] at o
      split at o
      · rename_i z hz
        exact rule i j z hz pins s σ H v u Q I rx ry (out_now o r _ (.int _))
      · exact o.elim
    | _ => exact o.elim
  | _ => exact o.elim
theorem opE_ok (hK : G.K = X.K) (m : Bool) (op : Op) : OpR X (binaryOp (pyOp op)) (r2O G (opE m op)) := by
  cases op with
  | add => exact addE_ok hK m
  | mul => exact mulE_ok hK m
  | sub => exact intE_ok fun i j z e pins s σ H v u Q I rx ry q => op_sub pins s σ H _ _ v u Q I rx ry ⟨i, j, rfl, rfl, by show Q (V.int (i - j)) H; rw [show i - j = z from Option.some.inj e]; exact q⟩
  | fdiv => exact intE_ok fun i j z e pins s σ H v u Q I rx ry q => op_fdivN pins s σ H _ _ v u Q I rx ry (by
      unfold fdivO at e
      split at e
      · rename_i hj; cases e; exact ⟨i, j, rfl, rfl, hj, q⟩
      · cases e)
  | mod => exact intE_ok fun i j z e pins s σ H v u Q I rx ry q => op_modN pins s σ H _ _ v u Q I rx ry (by
      unfold modO at e
      split at e
      · rename_i hj; cases e; exact ⟨i, j, rfl, rfl, hj, q⟩
      · cases e)
  | pow => exact intE_ok fun i j z e pins s σ H v u Q I rx ry q => op_pow pins s σ H _ _ v u Q I rx ry (by
      unfold powO at e
      split at e
      · rename_i hj; cases e; exact ⟨i, j, rfl, rfl, ⟨hj.1, hj.2.1, by have := hj.2.2; omega⟩, q⟩
      · cases e)
end
end TV

namespace TV
open PySem L2

section
variable {G : Gam} {as rs : List Addr} {H : Hp} {h : OH}
/-! ### references replaced by what stands there -/
theorem take_nin {n0 : Nat} (r : RH G as rs H h) {n : Nat} {a : Addr} (e : as[n]? = some a) (hn : n0 ≤ n) : a ∉ as.take n0 := fun z => by
  obtain ⟨i, hi, q⟩ := List.mem_iff_getElem.mp z
  have hi' : i < n0 ∧ i < as.length := by rw [List.length_take] at hi; omega
  rw [List.getElem_take] at q
  obtain ⟨l2, q2⟩ := List.getElem?_eq_some_iff.mp e
  have := (List.getElem_inj r.nd).mp (q.trans q2.symm)
  omega
theorem mem_take {n0 : Nat} {p : Addr} (n : p ∉ as) : p ∉ as.take n0 := fun z => n (List.mem_of_mem_take z)
mutual
theorem rs_ok {n0 : Nat} (g : Nat → Option U) (hg : ∀ n u' v, g n = some u' → RU G as rs H (.ref n) v → RU G (as.take n0) rs H u' v) : ∀ (u u' : U) (v : V), RU G as rs H u v → U.rs g u = some u' → RU G (as.take n0) rs H u' v
  | .non, u', v, ru, e => by
    simp only [U.rs, Option.some.injEq] at e; subst e
    cases ru; exact .non
  | .bl b, u', v, ru, e => by
    simp only [U.rs, Option.some.injEq] at e; subst e
    cases ru; exact .bl _
  | .int b, u', v, ru, e => by
    simp only [U.rs, Option.some.injEq] at e; subst e
    cases ru; exact .int _
  | .str b, u', v, ru, e => by
    simp only [U.rs, Option.some.injEq] at e; subst e
    cases ru; exact .str _
  | .tup us, u', v, ru, e => by
    simp only [U.rs, Option.map_eq_some_iff] at e
    obtain ⟨us', e1, rfl⟩ := e
    cases ru with
    | tupH n hp l => exact .tupH (mem_take n) hp (rsL_ok g hg us us' _ l e1)
    | tupK hp l => exact .tupK hp (rsL_ok g hg us us' _ l e1)
  | .fls us, u', v, ru, e => by
    simp only [U.rs, Option.map_eq_some_iff] at e
    obtain ⟨us', e1, rfl⟩ := e
    cases ru with
    | fls n m hp l => exact .fls (mem_take n) m hp (rsL_ok g hg us us' _ l e1)
  | .ref n, u', v, ru, e => by
    simp only [U.rs] at e
    exact hg n u' v e ru
  | .rls ns, u', v, ru, e => by
    simp only [U.rs, Option.some.injEq] at e; subst e
    cases ru with
    | rlsH n e => exact .rlsH (mem_take n) e
    | rlsK e => exact .rlsK e
theorem rsL_ok {n0 : Nat} (g : Nat → Option U) (hg : ∀ n u' v, g n = some u' → RU G as rs H (.ref n) v → RU G (as.take n0) rs H u' v) : ∀ (us us' : List U) (vs : List V), RL G as rs H us vs → U.rsL g us = some us' → RL G (as.take n0) rs H us' vs
  | [], us', vs, l, e => by
    simp only [U.rsL, Option.some.injEq] at e; subst e
    cases l; exact .nil
  | u :: us, us', vs, l, e => by
    simp only [U.rsL] at e
    split at e
    · rename_i a b e1 e2
      simp only [Option.some.injEq] at e; subst e
      cases l with
      | cons r l => exact .cons (rs_ok g hg u a _ r e1) (rsL_ok g hg us b _ l e2)
    · cases e
end
theorem frz_ok (r : RH G as rs H h) (n0 : Nat) : ∀ (k : Nat) (u u' : U) (v : V), RU G as rs H u v → frz h n0 k u = some u' → RU G (as.take n0) rs H u' v := by
  have low : ∀ n v, n < n0 → RU G as rs H (.ref n) v → RU G (as.take n0) rs H (.ref n) v := fun n v hn ru => by
    cases ru with
    | ref e => exact .ref (by rw [List.getElem?_take_of_lt hn]; exact e)
  intro k
  induction k with
  | zero =>
    intro u u' v ru e
    refine rs_ok _ (fun n u' v e ru => ?_) u u' v ru e
    split at e
    · rename_i hn
      cases e; exact low n v hn ru
    · cases e
  | succ k ih =>
    intro u u' v ru e
    refine rs_ok _ (fun n u' v e ru => ?_) u u' v ru e
    split at e
    · rename_i hn
      cases e; exact low n v hn ru
    · rename_i hn
      split at e
      · rename_i us hx
        simp only [Option.map_eq_some_iff] at e
        obtain ⟨us', e1, rfl⟩ := e
        cases ru with
        | ref ea =>
          obtain ⟨b, eb, vs, hb, l⟩ := r.ob _ _ hx
          rw [ea] at eb; cases eb
          have nr : ∀ p ∈ rs, p ∉ as := fun p hp => (r.rsv p hp).1
          exact .fls (take_nin r ea (by omega)) (fun z => nr _ z (List.mem_of_getElem? ea)) hb (rsL_ok _ (fun m u' v e ru => ih (.ref m) u' v ru e) us us' vs l e1)
      · cases e
/-! ### as data -/
mutual
theorem dp_of {K : PySem.W.Frag} (hK : G.K = K) : ∀ (u : U) (v : V) (k : Nat), RU G as rs H u v → U.fl k u = true → Dp K H v u.pd
  | .non, v, k, ru, f => by cases ru; exact .non
  | .bl b, v, k, ru, f => by cases ru; exact .bl b
  | .int b, v, k, ru, f => by cases ru; exact .int b
  | .str b, v, k, ru, f => by cases ru; exact .str b
  | .tup us, v, k, ru, f => by
    cases k with
    | zero => simp [U.fl] at f
    | succ k =>
      simp only [U.fl] at f
      obtain ⟨p, vs, rfl, hp, l⟩ := tup_ok ru
      rw [U.pd]
      exact .tup (by rw [← hK]; exact hp) (dps_of hK us vs k l f)
  | .fls us, v, k, ru, f => by
    cases k with
    | zero => simp [U.fl] at f
    | succ k =>
      simp only [U.fl] at f
      cases ru with
      | fls n m hp l =>
        rw [U.pd]
        exact .lst (SqL.of hp) (dps_of hK us _ k l f)
  | .ref n, v, k, ru, f => by simp [U.fl] at f
  | .rls n, v, k, ru, f => by simp [U.fl] at f
theorem dps_of {K : PySem.W.Frag} (hK : G.K = K) : ∀ (us : List U) (vs : List V) (k : Nat), RL G as rs H us vs → U.fls' k us = true → DpAll K H vs (U.pds us)
  | [], vs, k, l, f => by cases l; exact .nil
  | u :: us, vs, k, l, f => by
    simp only [U.fls', Bool.and_eq_true] at f
    cases l with
    | cons r l => exact .cons (dp_of hK u _ k r f.1) (dps_of hK us _ k l f.2)
end
end
mutual
theorem lay_of : ∀ (u : U) (k : Nat), U.fl k u = true → u.pd.canLay0 = true ∧ u.pd.depth ≤ k
  | .non, k, f => by simp [U.pd, PyData.canLay0, PyData.depth]
  | .bl b, k, f => by simp [U.pd, PyData.canLay0, PyData.depth]
  | .int b, k, f => by simp [U.pd, PyData.canLay0, PyData.depth]
  | .str b, k, f => by
    have : PyData.strOk b = true := by cases k <;> simpa [U.fl] using f
    simp [U.pd, PyData.canLay0, PyData.depth, this]
  | .tup us, k, f => by
    cases k with
    | zero => simp [U.fl] at f
    | succ k =>
      simp only [U.fl] at f
      obtain ⟨h1, h2⟩ := lays_of us k f
      simp only [U.pd, PyData.canLay0, PyData.depth]
      exact ⟨h1, by omega⟩
  | .fls us, k, f => by
    cases k with
    | zero => simp [U.fl] at f
    | succ k =>
      simp only [U.fl] at f
      obtain ⟨h1, h2⟩ := lays_of us k f
      simp only [U.pd, PyData.canLay0, PyData.depth]
      exact ⟨h1, by omega⟩
  | .ref n, k, f => by simp [U.fl] at f
  | .rls n, k, f => by simp [U.fl] at f
theorem lays_of : ∀ (us : List U) (k : Nat), U.fls' k us = true → PyData.canLayAll0 (U.pds us) = true ∧ PyData.depthAll (U.pds us) ≤ k
  | [], k, f => by simp [U.pds, PyData.canLayAll0, PyData.depthAll]
  | u :: us, k, f => by
    simp only [U.fls', Bool.and_eq_true] at f
    obtain ⟨h1, h2⟩ := lay_of u k f.1
    obtain ⟨h3, h4⟩ := lays_of us k f.2
    simp only [U.pds, PyData.canLayAll0, PyData.depthAll, h1, h3, Bool.and_self, true_and]
    omega
end
theorem shaped_of {u : U} {k : Nat} (f : U.fl k u = true) (hk : k ≤ 64) : SeqAt.shaped u.pd = true := by
  obtain ⟨h1, h2⟩ := lay_of u k f
  unfold SeqAt.shaped
  rw [h1, Bool.true_and, decide_eq_true_eq]
  omega
theorem pds_any (us : List U) (g : PyData → Bool) : (U.pds us).any g = us.any fun u => g u.pd := by
  induction us with
  | nil => rfl
  | cons u us ih => rw [U.pds, List.any_cons, List.any_cons, ih]

/-! ### comparisons -/
def pyCp : Cp → CmpOp
  | .eq => .Eq | .ne => .NotEq | .lt => .Lt | .le => .LtE | .gt => .Gt | .ge => .GtE | .isin => .In | .notin => .NotIn
def r2B (G : Gam) (f : OH → U → U → Option Bool) : R2 := fun x y H Q => ∃ as rs h a b c, RH G as rs H h ∧ RU G as rs H a x ∧ RU G as rs H b y ∧ f h a b = some c ∧ Q (.bl c) H
section
variable {X : Cx} {G : Gam}
theorem RU.nil {as rs : List Addr} {H : Hp} {u : U} {v : V} {k : Nat} {h : OH} {u' : U} (r : RH G as rs H h) (ru : RU G as rs H u v) (e : frz h 0 k u = some u') : RU G [] rs H u' v := by
  have := frz_ok r 0 k u u' v ru e
  rwa [List.take_zero] at this
theorem eqd_ok (hK : G.K = X.K) (hu : X.A.units + 64 < cLine) (neg : Bool) {pins s σ H x y v u Q as rs h a b c} (I : Inv X pins σ H s) (rx : RelV x v) (ry : RelV y u) (r : RH G as rs H h) (ra : RU G as rs H a x) (rb : RU G as rs H b y)
    (e : (match frz h 0 2 a, frz h 0 2 b with
    | some x, some y => if U.fl 60 x && U.fl 60 y then some (PyData.eqv x.pd y.pd) else none
    | _, _ => none) = some c) (q : Q (.bl (if neg then !c else c)) H) : wpAny (model X.prog X.w) X.A (compareOp (if neg then .NotEq else .Eq) v u) (EP X pins σ Q) X.xe s := by
  split at e
  · rename_i a' b' ea eb
    split at e
    · rename_i hf
      rw [Bool.and_eq_true] at hf
      have d1 := dp_of hK a' x 60 (RU.nil r ra ea) hf.1
      have d2 := dp_of hK b' y 60 (RU.nil r rb eb) hf.2
      cases e
      cases neg with
      | true => exact op_neD hu pins s σ H x y v u Q I rx ry ⟨_, _, d1, d2, shaped_of hf.1 (by decide), shaped_of hf.2 (by decide), q⟩
      | false => exact op_eqD hu pins s σ H x y v u Q I rx ry ⟨_, _, d1, d2, shaped_of hf.1 (by decide), shaped_of hf.2 (by decide), q⟩
    · cases e
  · cases e
theorem eqO_ok (hK : G.K = X.K) (hu : X.A.units + 64 < cLine) (neg : Bool) : OpR X (compareOp (if neg then .NotEq else .Eq)) (r2B G fun h a b => (eqO h a b).map fun c => if neg then !c else c) := by
  rintro pins s σ H x y v u Q I rx ry ⟨as, rs, h, a, b, c, r, ra, rb, e, q⟩
  simp only [Option.map_eq_some_iff] at e
  obtain ⟨c', e, rfl⟩ := e
  unfold eqO at e
  have sc : ∀ c' : Bool, c' = decide (x = y) → scal x y = true → Q (.bl (if neg then !c' else c')) H → wpAny (model X.prog X.w) X.A (compareOp (if neg then .NotEq else .Eq) v u) (EP X pins σ Q) X.xe s := fun c' e hs q => by
    subst e
    cases neg with
    | true => exact op_ne pins s σ H x y v u Q I rx ry ⟨hs, q⟩
    | false => exact op_eq pins s σ H x y v u Q I rx ry ⟨hs, q⟩
  split at e
  · cases e; cases ra; cases rb; exact sc _ (by simp) rfl q
  · cases e; cases ra; cases rb; exact sc _ (by simp) rfl q
  · cases e; cases ra; cases rb; exact sc _ (by simp) rfl q
  · cases e; cases ra; cases rb; exact sc _ (by simp) rfl q
  · exact eqd_ok hK hu neg I rx ry r ra rb e q
theorem ind_ok (hK : G.K = X.K) (hu : X.A.units + 65 < cLine) (neg : Bool) {pins s σ H x y v u Q as rs h a us c} (I : Inv X pins σ H s) (rx : RelV x v) (ry : RelV y u) (r : RH G as rs H h) (ra : RU G as rs H a x)
    (rb : ∃ p vs, y = .ref p ∧ (SqL G.K H p vs ∨ SqT G.K H p vs) ∧ RL G as rs H us vs)
    (e : (if U.fl 59 a && U.fls' 59 us then some (us.any fun y => PyData.eqv y.pd a.pd) else none) = some c) (q : Q (.bl (if neg then !c else c)) H) :
    wpAny (model X.prog X.w) X.A (compareOp (if neg then .NotIn else .In) v u) (EP X pins σ Q) X.xe s := by
  split at e
  · rename_i hf
    rw [Bool.and_eq_true] at hf
    obtain ⟨p, vs, rfl, hp, l⟩ := rb
    have d1 : Dp X.K H x a.pd := dp_of hK a x 59 ra hf.1
    have d2 : DpAll X.K H vs (U.pds us) := dps_of hK us vs 59 l hf.2
    obtain ⟨ax, r1⟩ := Dp.reads I _ _ _ d1 rx
    have hl := lays_of us 59 hf.2
    have hx := lay_of a 59 hf.1
    have room : X.A.units + 1 + min (PyData.depthAll (U.pds us)) a.pd.depth < cLine := PyProof.Rows.room_in_shaped (shaped_of hf.1 (by decide)) hu
    cases e
    rw [← pds_any us fun d => PyData.eqv d a.pd] at q
    rcases hp with hp | hp
    · obtain ⟨bx, r2⟩ := Dp.reads I _ _ _ (Dp.lst (by rw [← hK]; exact hp) d2) ry
      cases neg with
      | true => exact SeqAt.notIn_list_reads r2 r1 hl.1 hx.1 room ⟨.bl _, H, I, rfl, q⟩
      | false => exact SeqAt.in_list_reads r2 r1 hl.1 hx.1 room ⟨.bl _, H, I, rfl, q⟩
    · obtain ⟨bx, r2⟩ := Dp.reads I _ _ _ (Dp.tup (by rw [← hK]; exact hp) d2) ry
      cases neg with
      | true => exact SeqAt.notIn_tuple_reads r2 r1 hl.1 hx.1 room ⟨.bl _, H, I, rfl, q⟩
      | false => exact SeqAt.in_tuple_reads r2 r1 hl.1 hx.1 room ⟨.bl _, H, I, rfl, q⟩
  · cases e
theorem key_ok {as rs : List Addr} {H : Hp} {u : U} {v : V} {k : Key} (ru : RU G as rs H u v) (e : keyO u = some k) : v = kV k := by
  cases ru <;> simp [keyO] at e <;> subst e <;> rfl
theorem valU_ok {as rs : List Addr} {H : Hp} {kvs : List (Key × U)} {kv : List (Key × V)} (l : RP G as rs H kvs kv) (k : Key) : (valU kvs k = none ∧ valV kv k = none) ∨ ∃ u v, valU kvs k = some u ∧ valV kv k = some v ∧ RU G as rs H u v := by
  induction l with
  | nil => exact .inl ⟨rfl, rfl⟩
  | @cons p q ps qs r l ih =>
    by_cases hk : p.1 = k
    · refine .inr ⟨p.2, q.2, ?_, ?_, r.2⟩
      · simp [valU, List.find?_cons, hk]
      · exact valV_pos (r.1.symm.trans hk)
    · rw [valV_neg (fun z => hk (r.1.trans z))]
      have : valU (p :: ps) k = valU ps k := by simp [valU, List.find?_cons, hk]
      rw [this]
      exact ih
theorem inO_ok (hK : G.K = X.K) (hu : X.A.units + 65 < cLine) (neg : Bool) : OpR X (compareOp (if neg then .NotIn else .In)) (r2B G fun h a b => (inO h a b).map fun c => if neg then !c else c) := by
  rintro pins s σ H x y v u Q I rx ry ⟨as, rs, h, a, b, c, r, ra, rb, e, q⟩
  simp only [Option.map_eq_some_iff] at e
  obtain ⟨c', e, rfl⟩ := e
  unfold inO at e
  split at e
  · rename_i n
    split at e
    · rename_i kvs hx
      cases rb with
      | ref ea =>
        obtain ⟨b, eb, kv, hb, l⟩ := r.ob _ _ hx
        rw [ea] at eb; cases eb
        split at e
        · rename_i k hk
          have ek := key_ok ra hk
          cases ry
          have hs : (valU kvs k).isSome = (valV kv k).isSome := by
            rcases valU_ok l k with ⟨e1, e2⟩ | ⟨_, _, e1, e2, _⟩ <;> rw [e1, e2] <;> rfl
          cases e
          rw [hs] at q
          subst ek
          cases neg with
          | true => exact d_notIn (by omega) I (DGet.k hb) rx fun s' I' => ⟨.bl _, H, I', rfl, q⟩
          | false => exact d_in (by omega) I (DGet.k hb) rx fun s' I' => ⟨.bl _, H, I', rfl, q⟩
        · cases e
    · rename_i us hx
      exact ind_ok hK hu neg I rx ry r ra (sqO_ok r rb (by simp only [sqO, hx])) e q
    · cases e
  · exact ind_ok hK hu neg I rx ry r ra (sqO_ok r rb rfl) e q
  · exact ind_ok hK hu neg I rx ry r ra (sqO_ok r rb rfl) e q
  · split at e
    · cases ra; cases rb; cases e
      cases neg with
      | true => exact op_notin_str pins s σ H _ _ v u Q I rx ry ⟨_, _, rfl, rfl, q⟩
      | false => exact op_in_str pins s σ H _ _ v u Q I rx ry ⟨_, _, rfl, rfl, q⟩
    · cases e
  · cases e
theorem cpO_ok (hK : G.K = X.K) (hu : X.A.units + 65 < cLine) (op : Cp) : OpR X (compareOp (pyCp op)) (r2B G fun h a b => cpO h op a b) := by
  have onI : ∀ {op : CmpOp} {g : Int → Int → Bool} {f : OH → U → U → Option Bool}, (∀ h a b c, f h a b = some c → ∃ i j, a = .int i ∧ b = .int j ∧ c = g i j) →
      OpR X (compareOp op) (rI0 fun i j => .bl (g i j)) → OpR X (compareOp op) (r2B G f) := fun hf ho => by
    rintro pins s σ H x y v u Q I rx ry ⟨as, rs, h, a, b, c, r, ra, rb, e, q⟩
    obtain ⟨i, j, rfl, rfl, rfl⟩ := hf h a b c e
    cases ra; cases rb
    exact ho pins s σ H _ _ v u Q I rx ry ⟨i, j, rfl, rfl, q⟩
  cases op with
  | eq =>
    rintro pins s σ H x y v u Q I rx ry ⟨as, rs, h, a, b, c, r, ra, rb, e, q⟩
    exact eqO_ok hK (by omega) false pins s σ H x y v u Q I rx ry ⟨as, rs, h, a, b, c, r, ra, rb, by simpa [cpO] using e, q⟩
  | ne =>
    rintro pins s σ H x y v u Q I rx ry ⟨as, rs, h, a, b, c, r, ra, rb, e, q⟩
    exact eqO_ok hK (by omega) true pins s σ H x y v u Q I rx ry ⟨as, rs, h, a, b, c, r, ra, rb, by simpa [cpO] using e, q⟩
  | isin =>
    rintro pins s σ H x y v u Q I rx ry ⟨as, rs, h, a, b, c, r, ra, rb, e, q⟩
    exact inO_ok hK hu false pins s σ H x y v u Q I rx ry ⟨as, rs, h, a, b, c, r, ra, rb, by simpa [cpO] using e, q⟩
  | notin =>
    rintro pins s σ H x y v u Q I rx ry ⟨as, rs, h, a, b, c, r, ra, rb, e, q⟩
    exact inO_ok hK hu true pins s σ H x y v u Q I rx ry ⟨as, rs, h, a, b, c, r, ra, rb, by simpa [cpO] using e, q⟩
  | lt => exact onI (fun h a b c e => by
      simp only [cpO] at e
      split at e
      · cases e; exact ⟨_, _, rfl, rfl, rfl⟩
      · cases e) op_lt
  | le => exact onI (fun h a b c e => by
      simp only [cpO] at e
      split at e
      · cases e; exact ⟨_, _, rfl, rfl, rfl⟩
      · cases e) op_le
  | gt => exact onI (fun h a b c e => by
      simp only [cpO] at e
      split at e
      · cases e; exact ⟨_, _, rfl, rfl, rfl⟩
      · cases e) op_gt
  | ge => exact onI (fun h a b c e => by
      simp only [cpO] at e
      split at e
      · cases e; exact ⟨_, _, rfl, rfl, rfl⟩
      · cases e) op_ge
/-! ### truth -/
theorem truO_ok (hK : G.K = X.K) {as rs : List Addr} {H : Hp} {h : OH} {u : U} {x : V} {k : Bool} (r : RH G as rs H h) (ru : RU G as rs H u x) (e : truO h u = some k) : TruV X.K x H k := by
  cases ru with
  | non => cases e; exact rfl
  | bl b => cases e; exact rfl
  | int i => cases e; exact rfl
  | str s =>
    simp only [truO] at e
    split at e
    · rename_i hl
      cases e
      exact ⟨by rw [← lim_line]; exact hl, rfl⟩
    · cases e
  | tupH n hp l => cases e; exact .inr (.inl ⟨_, hp.sq, by rw [l.isEmpty]⟩)
  | tupK hp l => cases e; exact .inr (.inl ⟨_, by rw [← hK]; exact hp.sq, by rw [l.isEmpty]⟩)
  | fls n m hp l => cases e; exact .inl ⟨_, SqL.of hp, by rw [l.isEmpty]⟩
  | ref ea =>
    simp only [truO] at e
    split at e
    · rename_i us hx
      obtain ⟨b, eb, vs, hb, l⟩ := r.ob _ _ hx
      rw [ea] at eb; cases eb
      cases e; exact .inl ⟨_, SqL.of hb, by rw [l.isEmpty]⟩
    · rename_i us hx
      obtain ⟨b, eb, vs, hb, l⟩ := r.ob _ _ hx
      rw [ea] at eb; cases eb
      cases e; exact .inl ⟨_, by rw [← hK]; exact hb, by rw [l.isEmpty]⟩
    · rename_i us hx
      obtain ⟨b, eb, vs, hb, l⟩ := r.ob _ _ hx
      rw [ea] at eb; cases eb
      cases e; exact .inr (.inr ⟨_, hb, by cases l <;> rfl⟩)
    · cases e
  | rlsH n q => cases e
  | rlsK q => cases e
end
end TV

namespace TV
open PySem L2 PySem.Spec PyProof.Rows

section
variable {X : Cx} {G : Gam}
/-! ### a[i] -/
def r2U (G : Gam) (f : OH → U → U → Option U) : R2 := fun x y H Q => ∃ as rs h a b c, RH G as rs H h ∧ RU G as rs H a x ∧ RU G as rs H b y ∧ f h a b = some c ∧ kE G rs Q as H c h
theorem ix_dictV (hu : X.A.units + 1 < cLine) : IxR X (fun x y H Q => ∃ a v, x = .ref a ∧ DGet H a y (some v) ∧ Q v H) := by
  intro value slice pins s σ H x y v u Q I rx ry h hs
  obtain ⟨a, z, rfl, g, q⟩ := h
  cases rx
  unfold subscriptTail
  refine wpAny_bind ?_
  rw [getitemInPython_of_ne (dict_typeIs I g).not_modules]
  refine wpAny_bind (wpAny_specialOf (dict_typeIs I g) PySem.F.slot_dict_getitem.lookup ?_)
  have fin : wpAny (model X.prog X.w) X.A (subscripted slice false (.ref a) u) (fun r s₃ => wpAny (model X.prog X.w) X.A (letTemporaryGo value (.ref a) r >>= fun _ => pure r) (EP X pins σ Q) X.xe s₃) X.xe s := by
    rw [hs]
    exact wpAny_operating (thn (d_getItem hu I g ry fun w' s3 I3 rw' => (⟨z, H, I3, rw', q⟩ : EP X pins σ Q w' s3)) fun r s₃ h₃ => wpAny_bind (wpAny_letTemporaryGo (wpAny_pure h₃)))
  first
    | exact wpAny_pure (wpAny_bind fin)
    | exact wpAny_bind (wpAny_pure (wpAny_bind fin))
    | exact wpAny_bind fin
theorem atI_rel {as rs : List Addr} {H : Hp} {us : List U} {vs : List V} {i : Int} {u : U} (l : RL G as rs H us vs) (e : atI us i = some u) : ∃ v, atI vs i = some v ∧ RU G as rs H u v := by
  unfold atI at e ⊢
  rw [← l.length]
  cases q : ixN us.length i with
  | none => rw [q] at e; cases e
  | some j =>
    rw [q] at e
    obtain ⟨v, e1, r⟩ := l.get (i := j) e
    exact ⟨v, e1, r⟩
theorem ixO_ok (hK : G.K = X.K) (hu : X.A.units + 65 < cLine) : IxR X (r2U G ixO) := by
  rintro value slice pins s σ H x y v u Q I rx ry ⟨as, rs, h, a, b, c, r, ra, rb, e, q⟩ hs
  have seqi : ∀ us, (∃ p vs, x = .ref p ∧ (SqL G.K H p vs ∨ SqT G.K H p vs) ∧ RL G as rs H us vs) → atU us b = some c → wpAny (model X.prog X.w) X.A (subscriptTail value slice v u) (EP X pins σ Q) X.xe s := by
    rintro us ⟨p, vs, rfl, hp, l⟩ e
    cases b with
    | int i =>
      cases rb
      obtain ⟨z, e1, rz⟩ := atI_rel l (show atI us i = some c from e)
      rcases hp with hp | hp
      · exact ix_list value slice pins s σ H _ _ v u Q I rx ry ⟨p, vs, _, z, rfl, rfl, by rw [← hK]; exact hp, e1, q z rz⟩ hs
      · exact ix_tup value slice pins s σ H _ _ v u Q I rx ry ⟨p, vs, _, z, rfl, rfl, by rw [← hK]; exact hp, e1, q z rz⟩ hs
    | _ => cases e
  cases a with
  | str z =>
    have e' : atSU z b = some c := e
    clear e
    have e := e'
    clear e'
    cases b with
    | int i =>
      unfold atSU at e
      dsimp only at e
      split at e
      · rename_i hl
        simp only [Option.map_eq_some_iff] at e
        obtain ⟨ch, e, rfl⟩ := e
        cases ra; cases rb
        exact ix_str value slice pins s σ H _ _ v u Q I rx ry ⟨z, _, ch, rfl, rfl, by rw [← lim_line]; exact hl, e, q _ (.str _)⟩ hs
      · cases e
    | _ => cases e
  | ref n =>
    simp only [ixO] at e
    split at e
    · rename_i kvs hx
      cases ra with
      | ref ea =>
        obtain ⟨p, eb, kv, hb, l⟩ := r.ob _ _ hx
        rw [ea] at eb; cases eb
        unfold atKU at e
        split at e
        · rename_i k hk
          rcases valU_ok l k with ⟨e1, e2⟩ | ⟨u', v', e1, e2, r'⟩
          · rw [e1] at e; cases e
          · rw [e1] at e; cases e
            have ek := key_ok rb hk
            subst ek
            exact ix_dictV (by omega) value slice pins s σ H _ _ v u Q I rx ry ⟨_, v', rfl, by rw [← e2]; exact DGet.k hb, q v' r'⟩ hs
        · cases e
    · rename_i us hx
      exact seqi us (sqO_ok r ra (by simp only [sqO, hx])) e
    · rename_i us hx
      exact seqi us (sqO_ok r ra (by simp only [sqO, hx])) e
    · cases e
  | fls us => exact seqi us (sqO_ok r ra rfl) e
  | tup us => exact seqi us (sqO_ok r ra rfl) e
  | _ => simp [ixO] at e

/-! ### a[lo:hi] -/
def rSlU (G : Gam) (m : Bool) : V → Option Int → Option Int → Hp → VK → Prop := fun x lo hi H Q => ∃ as rs h a, RH G as rs H h ∧ RU G as rs H a x ∧ out G as rs H (slE m a lo hi h) (kE G rs Q)
theorem rl_ints {as rs : List Addr} {H : Hp} : ∀ ns : List Int, RL G as rs H (ns.map U.int) (ns.map V.int)
  | [] => .nil
  | n :: ns => .cons (.int n) (rl_ints ns)
theorem slE_ok (hK : G.K = X.K) (m : Bool) : SlR X (rSlU G m) := by
  rintro pins s σ H x v vl vu lo hi sl Q I rx hsl pl pu ⟨as, rs, h, a, r, ra, o⟩
  have lst : ∀ us, (∃ p vs, x = .ref p ∧ SqL G.K H p vs ∧ RL G as rs H us vs) → out G as rs H (newL m (cut us lo hi) h) (kE G rs Q) →
      ∃ T id, typeLookup (.type T) "__getitem__" = pure (some (.builtin id)) ∧ s.TypeIs v T ∧ wpAny (model X.prog X.w) X.A (getItem v (.ref sl)) (EP X pins σ Q) X.xe s := by
    rintro us ⟨p, vs, rfl, hp, l⟩ o
    exact sl_list pins s σ H _ v vl vu lo hi sl Q I rx hsl pl pu ⟨p, vs, rfl, by rw [← hK]; exact hp, (new_lst r (l.cut lo hi) o).2⟩
  cases a with
  | tup us =>
    obtain ⟨p, vs, rfl, hp, l⟩ := tup_ok ra
    simp only [slE] at o
    refine sl_tupF pins s σ H _ v vl vu lo hi sl Q I rx hsl pl pu ⟨p, vs, rfl, by rw [← hK]; exact hp, fun hw => ?_, fun _ => new_tup r (l.cut lo hi) o⟩
    have e : cut us lo hi = us := by
      unfold cut
      rw [l.length, hw.1, hw.2, ← l.length]
      simp
    rw [e] at o
    exact out_now o r _ ra
  | fls us => exact lst us (by
      cases ra with
      | fls n m hp l => exact ⟨_, _, rfl, SqL.of hp, l⟩) o
  | rls ns => exact lst (ns.map .int) (by
      cases ra with
      | rlsH n e => exact ⟨_, _, rfl, .inl (.inr ⟨_, e⟩), rl_ints ns⟩
      | rlsK e => exact ⟨_, _, rfl, e H, rl_ints ns⟩) o
  | ref n =>
    simp only [slE] at o
    split at o
    · rename_i us hx
      exact lst us (by
        cases ra with
        | ref ea =>
          obtain ⟨b, eb, vs, hb, l⟩ := r.ob _ _ hx
          rw [ea] at eb; cases eb
          exact ⟨_, vs, rfl, SqL.of hb, l⟩) o
    · rename_i us hx
      exact lst us (by
        cases ra with
        | ref ea =>
          obtain ⟨b, eb, vs, hb, l⟩ := r.ob _ _ hx
          rw [ea] at eb; cases eb
          exact ⟨_, vs, rfl, hb, l⟩) o
    · exact o.elim
  | _ => exact o.elim

/-! ### built-in functions -/
def rC (G : Gam) (f : List U → OH → R U) : List V → Hp → VK → Prop := fun xs H Q => ∃ as rs h us, RH G as rs H h ∧ RL G as rs H us xs ∧ out G as rs H (f us h) (kE G rs Q)
def r1C (G : Gam) (f : U → OH → R U) : V → Hp → VK → Prop := fun x H Q => ∃ as rs h u, RH G as rs H h ∧ RU G as rs H u x ∧ out G as rs H (f u h) (kE G rs Q)
theorem call_un1 {b : Value} {f : U → OH → R U} (c : ∀ pins s σ H x v Q, Inv X pins σ H s → RelV x v → r1C G f x H Q → wpAny (model X.prog X.w) X.A (call b [v]) (EP X pins σ Q) X.xe s) : CallR X b (rC G (un1 f)) := by
  rintro pins s σ H xs us Q I rv ⟨as, rs, h, ws, r, l, o⟩
  cases l with
  | nil => exact o.elim
  | cons r1 l =>
    cases l with
    | nil =>
      obtain ⟨w, rfl, rw'⟩ := vals1 rv
      exact c pins s σ H _ w Q I rw' ⟨as, rs, h, _, r, r1, o⟩
    | cons _ _ => exact o.elim
theorem call_un2 {b : Value} {f : U → U → OH → R U} (c : ∀ pins s σ H x y v w Q, Inv X pins σ H s → RelV x v → RelV y w → r2O G f x y H Q → wpAny (model X.prog X.w) X.A (call b [v, w]) (EP X pins σ Q) X.xe s) : CallR X b (rC G (un2 f)) := by
  rintro pins s σ H xs us Q I rv ⟨as, rs, h, ws, r, l, o⟩
  cases l with
  | nil => exact o.elim
  | cons r1 l =>
    cases l with
    | nil => exact o.elim
    | cons r2 l =>
      cases l with
      | nil =>
        obtain ⟨u1, u2, rfl, ru1, ru2⟩ := vals2 rv
        exact c pins s σ H _ _ u1 u2 Q I ru1 ru2 ⟨as, rs, h, _, _, r, r1, r2, o⟩
      | cons _ _ => exact o.elim
theorem v1 {x : V} {v : Value} (r : RelV x v) : Vals [x] [v] := .cons r .nil
theorem v2 {x y : V} {v w : Value} (r : RelV x v) (q : RelV y w) : Vals [x, y] [v, w] := .cons r (.cons q .nil)
theorem intsO_ok {as rs : List Addr} {H : Hp} : ∀ {us : List U} {vs : List V} {ns : List Int}, RL G as rs H us vs → intsO us = some ns → vs = ns.map V.int ∧ us = ns.map U.int
  | [], vs, ns, l, e => by
    cases l; simp only [intsO, Option.some.injEq] at e; subst e; exact ⟨rfl, rfl⟩
  | u :: us, vs, ns, l, e => by
    cases l with
    | cons r l =>
      cases u with
      | int i =>
        simp only [intsO, Option.map_eq_some_iff] at e
        obtain ⟨ms, e, rfl⟩ := e
        obtain ⟨e1, e2⟩ := intsO_ok l e
        cases r
        exact ⟨by rw [e1]; rfl, by rw [e2]; rfl⟩
      | _ => simp [intsO] at e
theorem blsO_ok {as rs : List Addr} {H : Hp} : ∀ {us : List U} {vs : List V} {ns : List Bool}, RL G as rs H us vs → blsO us = some ns → vs = ns.map V.bl
  | [], vs, ns, l, e => by
    cases l; simp only [blsO, Option.some.injEq] at e; subst e; rfl
  | u :: us, vs, ns, l, e => by
    cases l with
    | cons r l =>
      cases u with
      | bl i =>
        simp only [blsO, Option.map_eq_some_iff] at e
        obtain ⟨ms, e, rfl⟩ := e
        have e1 := blsO_ok l e
        cases r
        rw [e1]; rfl
      | _ => simp [blsO] at e
theorem len_ok (hK : G.K = X.K) : CallR X (.builtin "len") (rC G (un1 lenE)) := call_un1 fun pins s σ H x v Q I rx ⟨as, rs, h, u, r, ru, o⟩ => by
  unfold lenE at o
  split at o
  · rename_i n hn
    refine call_len pins s σ H [x] [v] Q I (v1 rx) ⟨x, n, rfl, ?_, out_now o r _ (.int _)⟩
    cases ru with
    | str z =>
      simp only [lenO] at hn
      split at hn
      · rename_i hl
        cases hn; exact ⟨by rw [← lim_line]; exact hl, rfl⟩
      · cases hn
    | tupH _ hp l => cases hn; exact .inr ⟨_, hp.sq, l.length⟩
    | tupK hp l => cases hn; exact .inr ⟨_, by rw [← hK]; exact hp.sq, l.length⟩
    | fls _ _ hp l => cases hn; exact .inl ⟨_, SqL.of hp, l.length⟩
    | ref ea =>
      simp only [lenO] at hn
      split at hn
      · rename_i us hx
        obtain ⟨b, eb, vs, hb, l⟩ := r.ob _ _ hx
        rw [ea] at eb; cases eb; cases hn
        exact .inl ⟨_, SqL.of hb, l.length⟩
      · rename_i us hx
        obtain ⟨b, eb, vs, hb, l⟩ := r.ob _ _ hx
        rw [ea] at eb; cases eb; cases hn
        exact .inl ⟨_, by rw [← hK]; exact hb, l.length⟩
      · cases hn
    | _ => simp [lenO] at hn
  · exact o.elim
theorem abs_ok : CallR X (.builtin "abs") (rC G (un1 absE)) := call_un1 fun pins s σ H x v Q I rx ⟨as, rs, h, u, r, ru, o⟩ => by
  cases u with
  | int i => cases ru; exact call_abs pins s σ H _ [v] Q I (v1 rx) ⟨i, rfl, out_now o r _ (.int _)⟩
  | _ => exact o.elim
theorem int1_ok : CallR X (.type "int") (rC G (un1 int1E)) := call_un1 fun pins s σ H x v Q I rx ⟨as, rs, h, u, r, ru, o⟩ => by
  cases u with
  | int i => cases ru; exact call_int1 pins s σ H _ [v] Q I (v1 rx) (.inl ⟨i, rfl, out_now o r _ (.int _)⟩)
  | bl i => cases ru; exact call_int1 pins s σ H _ [v] Q I (v1 rx) (.inr ⟨i, rfl, out_now o r _ (.int _)⟩)
  | _ => exact o.elim
theorem min2_ok (hc : X.calm = true) : CallR X (.builtin "min") (rC G (un2 (intE fun i j => some (if j < i then j else i)))) := call_un2 fun pins s σ H x y v w Q I rx ry ⟨as, rs, h, a, b, r, ra, rb, o⟩ => by
  cases a with
  | int i =>
    cases b with
    | int j => cases ra; cases rb; exact call_min2 hc pins s σ H _ [v, w] Q I (v2 rx ry) ⟨i, j, rfl, out_now o r _ (.int _)⟩
    | _ => exact o.elim
  | _ => exact o.elim
theorem max2_ok (hc : X.calm = true) : CallR X (.builtin "max") (rC G (un2 (intE fun i j => some (if j > i then j else i)))) := call_un2 fun pins s σ H x y v w Q I rx ry ⟨as, rs, h, a, b, r, ra, rb, o⟩ => by
  cases a with
  | int i =>
    cases b with
    | int j => cases ra; cases rb; exact call_max2 hc pins s σ H _ [v, w] Q I (v2 rx ry) ⟨i, j, rfl, out_now o r _ (.int _)⟩
    | _ => exact o.elim
  | _ => exact o.elim
theorem tuple_ok (hK : G.K = X.K) : CallR X (.type "tuple") (rC G (un1 tupleE)) := call_un1 fun pins s σ H x v Q I rx ⟨as, rs, h, u, r, ru, o⟩ => by
  have go : ∀ us, lsO h u = some us → out G as rs H (.ok (.tup us) h) (kE G rs Q) → wpAny (model X.prog X.w) X.A (call (.type "tuple") [v]) (EP X pins σ Q) X.xe s := fun us e o => by
    obtain ⟨p, vs, rfl, hp, l⟩ := lsO_ok r ru e
    exact call_tupF pins s σ H _ [v] Q I (v1 rx) ⟨p, vs, rfl, .inl ⟨SqL.of hp, new_tup r l o⟩⟩
  unfold tupleE at o
  split at o
  · obtain ⟨p, vs, rfl, hp, l⟩ := tup_ok ru
    exact call_tupF pins s σ H _ [v] Q I (v1 rx) ⟨p, vs, rfl, .inr ⟨by rw [← hK]; exact hp, out_now o r _ ru⟩⟩
  · split at o
    · rename_i us hx
      exact go us hx o
    · exact o.elim
theorem list_ok (hK : G.K = X.K) (m : Bool) : CallR X (.type "list") (rC G (un1 (listE m))) := call_un1 fun pins s σ H x v Q I rx ⟨as, rs, h, u, r, ru, o⟩ => by
  unfold listE at o
  split at o
  · rename_i us hx
    obtain ⟨p, vs, rfl, hp, l⟩ := sqO_ok r ru hx
    exact call_list_of pins s σ H _ [v] Q I (v1 rx) ⟨p, vs, rfl, by rw [← hK]; exact hp, (new_lst r l o).2⟩
  · exact o.elim
theorem all_ok (hK : G.K = X.K) (hc : X.calm = true) : CallR X (.builtin "all") (rC G (un1 (blsE fun bs => .bl (bs.all id)))) := call_un1 fun pins s σ H x v Q I rx ⟨as, rs, h, u, r, ru, o⟩ => by
  unfold blsE at o
  split at o
  · rename_i us hx
    obtain ⟨p, vs, rfl, hp, l⟩ := lsO_ok r ru hx
    split at o
    · rename_i bs hb
      have e := blsO_ok l hb
      subst e
      exact cr_all hc pins s σ H _ [v] Q I (v1 rx) ⟨p, bs, rfl, SqL.of hp, out_now o r _ (.bl _)⟩
    · exact o.elim
  · exact o.elim
theorem any_ok (hK : G.K = X.K) (hc : X.calm = true) : CallR X (.builtin "any") (rC G (un1 (blsE fun bs => .bl (bs.any id)))) := call_un1 fun pins s σ H x v Q I rx ⟨as, rs, h, u, r, ru, o⟩ => by
  unfold blsE at o
  split at o
  · rename_i us hx
    obtain ⟨p, vs, rfl, hp, l⟩ := lsO_ok r ru hx
    split at o
    · rename_i bs hb
      have e := blsO_ok l hb
      subst e
      exact cr_any hc pins s σ H _ [v] Q I (v1 rx) ⟨p, bs, rfl, SqL.of hp, out_now o r _ (.bl _)⟩
    · exact o.elim
  · exact o.elim
theorem sum_ok (hK : G.K = X.K) (hc : X.calm = true) : CallR X (.builtin "sum") (rC G (un1 sumE)) := call_un1 fun pins s σ H x v Q I rx ⟨as, rs, h, u, r, ru, o⟩ => by
  unfold sumE at o
  split at o
  · rename_i us hx
    obtain ⟨p, vs, rfl, hp, l⟩ := lsO_ok r ru hx
    split at o
    · rename_i ns hb
      have e := (intsO_ok l hb).1
      subst e
      exact cr_sum hc pins s σ H _ [v] Q I (v1 rx) ⟨p, ns, rfl, SqL.of hp, out_now o r _ (.int _)⟩
    · exact o.elim
  · exact o.elim
/-! ### isinstance(x, T) -/
def tyN : Bi → String
  | .isInt => "int" | .isBool => "bool" | .isTup => "tuple" | _ => "str"
theorem isTy_ok (hK : G.K = X.K) (t : Bi) {pins s σ H x v u Q} (I : Inv X pins σ H s) (rx : RelV x v) (ry : RelV (.ty (tyN t)) u) (q : r1C G (fun u h => okB (isTy t u h) h) x H Q) :
    wpAny (model X.prog X.w) X.A (call (.builtin "isinstance") [v, u]) (EP X pins σ Q) X.xe s := by
  obtain ⟨as, rs, h, a, r, ra, o⟩ := q
  dsimp only at o
  cases e : isTy t a h with
  | none => rw [e] at o; exact o.elim
  | some b =>
    rw [e] at o
    have q : Q (.bl b) H := out_now o r _ (.bl _)
    have go : ∀ T, TyX X.K H x (.type T) → kitB T (tyN t) = some b → wpAny (model X.prog X.w) X.A (call (.builtin "isinstance") [v, u]) (EP X pins σ Q) X.xe s := fun T tx kt =>
      call_isi pins s σ H _ [v, u] Q I (v2 rx ry) ⟨x, _, .type T, .type (tyN t), b, rfl, .ty _, tx, kit_ty kt, q⟩
    have lstc : ∀ n, a = .ref n → (∀ us, h[n]? = some (.lst us) → kitB "list" (tyN t) = some b) → (∀ us, h[n]? = some (.dct us) → kitB "dict" (tyN t) = some b) → (∃ us, h[n]? = some (.lst us)) ∨ (∃ us, h[n]? = some (.dct us)) → wpAny (model X.prog X.w) X.A (call (.builtin "isinstance") [v, u]) (EP X pins σ Q) X.xe s := by
      rintro n rfl k1 k2 (⟨us, hx⟩ | ⟨us, hx⟩)
      · cases ra with
        | ref ea =>
          obtain ⟨b', eb, vs, hb, l⟩ := r.ob _ _ hx
          rw [ea] at eb; cases eb
          exact go "list" (.base (.lst hb)) (k1 us hx)
      · cases ra with
        | ref ea =>
          obtain ⟨b', eb, vs, hb, l⟩ := r.ob _ _ hx
          rw [ea] at eb; cases eb
          exact go "dict" (.base (.dK hb)) (k2 us hx)
    have refc : ∀ (n : Nat), (match (h[n]? : Option OO) with | some (OO.lst _) => some false | some (OO.dct _) => some false | _ => none) = some b → b = false ∧ ((∃ us, h[n]? = some (.lst us)) ∨ (∃ us, h[n]? = some (.dct us))) := fun n e => by
      split at e
      · rename_i us hx
        cases e; exact ⟨rfl, .inl ⟨us, hx⟩⟩
      · rename_i us hx
        cases e; exact ⟨rfl, .inr ⟨us, hx⟩⟩
      · cases e
    cases t with
    | isInt =>
      cases ra with
      | non => cases e; exact go "NoneType" (.base .non) (by decide +kernel)
      | bl _ => cases e; exact go "bool" (.base (.bl _)) (by decide +kernel)
      | int _ => cases e; exact go "int" (.base (.int _)) (by decide +kernel)
      | str _ => cases e; exact go "str" (.base (.str _)) (by decide +kernel)
      | tupH n hp l =>
        cases e
        obtain ⟨o, hp, _⟩ := hp
        exact go "tuple" (.fTuple hp) (by decide +kernel)
      | tupK hp l => cases e; obtain ⟨o, _, _, h1, _, h2, _⟩ := hp; exact go "tuple" (.kTuple (by rw [← hK]; exact h1) h2) (by decide +kernel)
      | fls n m hp l => cases e; exact go "list" (.base (.lst hp)) (by decide +kernel)
      | ref ea =>
        obtain ⟨rfl, w⟩ := refc _ e
        exact lstc _ rfl (fun _ _ => by decide +kernel) (fun _ _ => by decide +kernel) w
      | rlsH n q => cases e
      | rlsK q => cases e
    | isBool =>
      cases ra with
      | non => cases e; exact go "NoneType" (.base .non) (by decide +kernel)
      | bl _ => cases e; exact go "bool" (.base (.bl _)) (by decide +kernel)
      | int _ => cases e; exact go "int" (.base (.int _)) (by decide +kernel)
      | str _ => cases e; exact go "str" (.base (.str _)) (by decide +kernel)
      | tupH n hp l =>
        cases e
        obtain ⟨o, hp, _⟩ := hp
        exact go "tuple" (.fTuple hp) (by decide +kernel)
      | tupK hp l => cases e; obtain ⟨o, _, _, h1, _, h2, _⟩ := hp; exact go "tuple" (.kTuple (by rw [← hK]; exact h1) h2) (by decide +kernel)
      | fls n m hp l => cases e; exact go "list" (.base (.lst hp)) (by decide +kernel)
      | ref ea =>
        obtain ⟨rfl, w⟩ := refc _ e
        exact lstc _ rfl (fun _ _ => by decide +kernel) (fun _ _ => by decide +kernel) w
      | rlsH n q => cases e
      | rlsK q => cases e
    | isTup =>
      cases ra with
      | non => cases e; exact go "NoneType" (.base .non) (by decide +kernel)
      | bl _ => cases e; exact go "bool" (.base (.bl _)) (by decide +kernel)
      | int _ => cases e; exact go "int" (.base (.int _)) (by decide +kernel)
      | str _ => cases e; exact go "str" (.base (.str _)) (by decide +kernel)
      | tupH n hp l =>
        cases e
        obtain ⟨o, hp, _⟩ := hp
        exact go "tuple" (.fTuple hp) (by decide +kernel)
      | tupK hp l => cases e; obtain ⟨o, _, _, h1, _, h2, _⟩ := hp; exact go "tuple" (.kTuple (by rw [← hK]; exact h1) h2) (by decide +kernel)
      | fls n m hp l => cases e; exact go "list" (.base (.lst hp)) (by decide +kernel)
      | ref ea =>
        obtain ⟨rfl, w⟩ := refc _ e
        exact lstc _ rfl (fun _ _ => by decide +kernel) (fun _ _ => by decide +kernel) w
      | rlsH n q => cases e
      | rlsK q => cases e
    | isStr =>
      cases ra with
      | non => cases e; exact go "NoneType" (.base .non) (by decide +kernel)
      | bl _ => cases e; exact go "bool" (.base (.bl _)) (by decide +kernel)
      | int _ => cases e; exact go "int" (.base (.int _)) (by decide +kernel)
      | str _ => cases e; exact go "str" (.base (.str _)) (by decide +kernel)
      | tupH n hp l =>
        cases e
        obtain ⟨o, hp, _⟩ := hp
        exact go "tuple" (.fTuple hp) (by decide +kernel)
      | tupK hp l => cases e; obtain ⟨o, _, _, h1, _, h2, _⟩ := hp; exact go "tuple" (.kTuple (by rw [← hK]; exact h1) h2) (by decide +kernel)
      | fls n m hp l => cases e; exact go "list" (.base (.lst hp)) (by decide +kernel)
      | ref ea =>
        obtain ⟨rfl, w⟩ := refc _ e
        exact lstc _ rfl (fun _ _ => by decide +kernel) (fun _ _ => by decide +kernel) w
      | rlsH n q => cases e
      | rlsK q => cases e
    | _ => cases e
end
end TV

namespace TV
open PySem L2 PySem.Spec PyProof.Rows
open AutoSeq1 (wpAny_loadPart')

/-! ### enumerate over whatever begins -/
theorem new_enum {v : Value} {o : Obj} {B0 : Heap → Prop} (B : Begins v o B0) :
    Meets (Builtin.«enumerate.__new__» ⟨[.type "enumerate", v], []⟩) (fun _ R s => B0 s.heap ∧
      R (.ok (.ret (.ref (s.heap.push o).objs.size)))
        { s with heap := (s.heap.push o).push { cls := .type "enumerate", data := .fields #[.none, .bool false, .ref s.heap.objs.size, rawInt 0, .none, .none] } }) :=
  .of_wp fun prog w A R s h => by
    obtain ⟨hp, g, d, tk, os⟩ := s
    obtain ⟨hb, h⟩ := h
    have hsub := sub_enumerate
    have q1 : ∀ {A' : Around} {E : Value → Shared → Prop} {Q : Value → Shared → Prop}, Q (.ref hp.objs.size) ⟨(hp.push o), g, d, tk, os⟩ → wpAny (model prog w) A' (pyIter v) Q E ⟨hp, g, d, tk, os⟩ :=
      fun q => B.iter prog w _ _ ⟨hp, g, d, tk, os⟩ _ hb q
    wp_walk
    refine wpAny_stack_any fun st => wpAny_pure ?_
    split
    · rename_i c _ _ _ _ _
      cases (c == Value.type "enumerate")
      · wp_walk using q1
        exact ⟨_, rfl, h⟩
      · wp_walk using q1
        exact ⟨_, rfl, h⟩
    · wp_walk using q1
      exact ⟨_, rfl, h⟩
theorem call_enumB {prog : Program} {w : World} {A : Around} {E : Value → Shared → Prop} {s : Shared} {v : Value} {o : Obj} {B0 : Heap → Prop} {Q : Value → Shared → Prop} (B : Begins v o B0) (hb : B0 s.heap)
    (h : ∀ h', IsEnum h' (s.heap.objs.size + 1) s.heap.objs.size 0 .none → h'.get? s.heap.objs.size = some o → (∀ b ob, s.heap.get? b = some ob → h'.get? b = some ob) → Q (.ref (s.heap.objs.size + 1)) { s with heap := h' }) :
    wpAny (model prog w) A (call (.type "enumerate") [v]) Q E s := by
  refine callType_new F.called_enumerate (by decide) (F.typeCall_enumerate_1 _) (F.newCall_enumerate_1 _) (fun obj => F.args_object_init_2 obj _) F.entry_enumerate_new (new_enum B) ⟨hb, ?_⟩
  have hz : (s.heap.push o).objs.size = s.heap.objs.size + 1 := Heap.size_push ..
  show _ ∧ _
  rw [hz]
  have he := Heap.get?_push_size (s.heap.push o) (o := { cls := .type "enumerate", data := .fields #[.none, .bool false, .ref s.heap.objs.size, rawInt 0, .none, .none] }) rfl
  rw [hz] at he
  exact ⟨⟨_, he, rfl⟩, h _ he (Heap.get?_push_of_some _ (Heap.get?_push_size _ B.free)) fun b ob x => Heap.get?_push_of_some _ (Heap.get?_push_of_some _ x)⟩

def IteL (K : PySem.W.Frag) (a : Addr) : It :=
  ⟨fun i H => ∃ (xs : List V) (x : V), SqL K H a xs ∧ xs[i]? = some x,
   fun i H v H' => ∃ T x o, v = .ref T ∧ H T = none ∧ o.cls = .type "tuple" ∧ o.dict = none ∧ H' = upd H T (.frz o (.tup [.int (i : Nat), x])) ∧ ∀ xs, SqL K H a xs → xs[i]? = some x,
   fun i H => ∃ xs : List V, SqL K H a xs ∧ xs.length ≤ i⟩
theorem turn_enL {P : Program} {w : World} {K : PySem.W.Frag} {elts : List Expr} {kk : Nat} {tpos : Pos} (a e it : Addr) :
    Turn P w K (.Tuple elts kk tpos) (IteL K a) [e, it] e (fun i h => (∃ old, IsEnum h e it ((i : Nat) : Int) old) ∧ h.IsListIter it a i ∧ e ≠ it) where
  mem := by simp
  obj := fun i h st b hb => by
    obtain ⟨⟨old, he⟩, ⟨o, ho, hc, hd⟩, _⟩ := st
    rcases (show b = e ∨ b = it by simpa using hb) with z | z
    · rw [z]; exact ⟨_, he, fun v q => nomatch q⟩
    · rw [z]; exact ⟨o, ho, fun v q => by rw [hd] at q; cases q⟩
  keep := fun i h h' st k => let ⟨⟨old, he⟩, hi, hne⟩ := st; ⟨⟨old, k e (by simp) _ he⟩, hi.at fun o q => k it (by simp) o q, hne⟩
  item := by
    intro X hP hw hK hc i pins s σ H E I hf st hg
    subst hP hw hK
    obtain ⟨⟨old, he⟩, hit, hne⟩ := st
    obtain ⟨xs, x, hq, hx⟩ := hg
    obtain ⟨its, rv, p, hz⟩ := I.list hq
    obtain ⟨u, hu, ru⟩ := rv.get hx
    have hel : e < s.heap.objs.size := Heap.lt_size he
    have hil : it < s.heap.objs.size := by obtain ⟨_, q, _⟩ := hit; exact Heap.lt_size q
    have nat : a ≠ it := fun z => by
      obtain ⟨_, q1, q2, _⟩ := hit
      obtain ⟨_, q3, q4, _⟩ := p.isList
      rw [z, q1] at q3
      cases q3
      rw [q2] at q4
      exact absurd q4 (by decide)
    have hlt : i < its.toArray.size := by rw [List.size_toArray]; exact (List.getElem?_eq_some_iff.mp hu).1
    have nae : e ∉ [it, a] := fun z => by
      rcases (show e = it ∨ e = a by simpa using z) with z | z
      · exact hne z
      · obtain ⟨_, q3, q4, _⟩ := p.isList
        rw [← z, he] at q3
        cases q3
        exact absurd (show Value.type "enumerate" = Value.type "list" from q4) (by decide)
    refine wpAny_pyNext_enum_itemD (Draws.list (A := X.A.in1) (show X.A.in1.handled = Option.none from I.ok.hd hc) it a nat its.toArray) he ⟨hit, p.isList⟩ hlt hne nae fun x' h' tk hP ho hst' hT hsz hk => ?_
    have ex : x' = u := by
      have q : its[i]? = some x' := by simpa using hP
      rw [hu] at q
      exact (Option.some.inj q).symm
    subst ex
    refine ⟨_, rfl, wpAny_letOwnedTupleGo_enum (s := { s with heap := h', toks := tk + 1 }) ho fun h'' he' sb => ?_⟩
    have hT2 : h''.get? s.heap.objs.size = some (tupO [.int i tk, x'] 0) := (sb.2 _ (Nat.ne_of_gt hel)).trans hT
    have new : ObjOk X.prog X.w (upd H s.heap.objs.size (.frz (tupO [.int i tk, x'] 0) (.tup [.int (i : Nat), x]))) h'' s.heap.objs.size (.frz (tupO [.int i tk, x'] 0) (.tup [.int (i : Nat), x])) :=
      ⟨hT2, by show 2 ≤ sizeLine; decide, [.int i tk, x'], .cons ⟨_, rfl⟩ (.cons ru .nil), ⟨_, hT2, rfl, _, rfl⟩⟩
    have I1 : Inv X pins σ (upd H s.heap.objs.size (.frz (tupO [.int i tk, x'] 0) (.tup [.int (i : Nat), x]))) { s with heap := h'', toks := tk + 1 } :=
      I.turnedNew (ch := [e, it]) (fun b ob hb q => (sb.2 b (fun z => hb (by simp [z]))).trans (hk b ob (fun z => hb (by simp [z])) (fun z => hb (by simp [z])) q)) hf (Nat.le_refl _) new
    refine ⟨.ref s.heap.objs.size, _, I1, rfl, ⟨_, x, _, rfl, I.hok.fresh (Nat.le_refl _), rfl, rfl, rfl, fun ys hy => by rw [I.list_inj hy hq]; exact hx⟩, ⟨⟨x', ?_⟩, hst'.1.at fun o q => (sb.2 it (Ne.symm hne)).trans q, hne⟩, fun b hb => ?_⟩
    · rw [show ((i + 1 : Nat) : Int) = (i : Int) + 1 by omega]; exact he'
    · have hb' : b < s.heap.objs.size := by
        rcases (show b = e ∨ b = it by simpa using hb) with z | z
        · rw [z]; exact hel
        · rw [z]; exact hil
      rw [upd_ne (Nat.ne_of_lt hb')]
      exact (hf b hb).1
  done := by
    intro X hP hw hK hc i pins s σ H E I hf st hg
    subst hP hw hK
    obtain ⟨⟨old, he⟩, hit, hne⟩ := st
    obtain ⟨xs, hq, hx⟩ := hg
    obtain ⟨its, rv, p, hz⟩ := I.list hq
    obtain ⟨f0, f1, f2, f3, f4, f5⟩ := hf it (by simp)
    have hl := rv.length
    have none : its.toArray[i]? = none := by simp; omega
    have hT : s.TypeIs (.ref e) "enumerate" := ⟨_, he, rfl⟩
    unfold pyNext
    refine wpAny_bind (wpAny_attempt (wpAny_callSpecial?_slot (name := Str.ofString "__next__") hT F.slot_enumerate_next (wpAny_call_entry F.slot_enumerate_next hT F.entry_enumerate_next ?_ (F.args_enumerate_next_1 _))))
    show wpAny _ _ (field (.ref e) 2 >>= _) _ _ _
    refine wpAny_bind (wpAny_field he rfl (x := .ref it) rfl ?_)
    refine wpAny_bind (wpAny_nextOf_list_end (show X.A.in1.handled = Option.none from I.ok.hd hc) hit p.isList none fun h' y he' hy => ?_)
    obtain ⟨o, ho, hc'⟩ := hy
    refine wpAny_bind (wpAny_isInstance (T := "StopIteration") (b := true) ⟨o, ho, hc'⟩ isSubtype_stop ?_)
    exact wpAny_pure ⟨rfl, I.turned (t' := s.toks) (fun b o hb q => he' b o hb q) f0 f1 f3 f4 f5⟩
  self := fun A i s Q E st h => let ⟨⟨_, he⟩, _⟩ := st; wpAny_pyIter_enum he h

def IteT (K : PySem.W.Frag) (a : Addr) : It :=
  ⟨fun i H => ∃ (xs : List V) (x : V), SqT K H a xs ∧ xs[i]? = some x,
   fun i H v H' => ∃ T x o, v = .ref T ∧ H T = none ∧ o.cls = .type "tuple" ∧ o.dict = none ∧ H' = upd H T (.frz o (.tup [.int (i : Nat), x])) ∧ ∀ xs, SqT K H a xs → xs[i]? = some x,
   fun i H => ∃ xs : List V, SqT K H a xs ∧ xs.length ≤ i⟩
theorem turn_enT {P : Program} {w : World} {K : PySem.W.Frag} {elts : List Expr} {kk : Nat} {tpos : Pos} (a e it : Addr) :
    Turn P w K (.Tuple elts kk tpos) (IteT K a) [e, it] e (fun i h => (∃ old, IsEnum h e it ((i : Nat) : Int) old) ∧ h.IsTupleIter it a i ∧ e ≠ it) where
  mem := by simp
  obj := fun i h st b hb => by
    obtain ⟨⟨old, he⟩, ⟨o, ho, hc, hd⟩, _⟩ := st
    rcases (show b = e ∨ b = it by simpa using hb) with z | z
    · rw [z]; exact ⟨_, he, fun v q => nomatch q⟩
    · rw [z]; exact ⟨o, ho, fun v q => by rw [hd] at q; cases q⟩
  keep := fun i h h' st k => let ⟨⟨old, he⟩, hi, hne⟩ := st; ⟨⟨old, k e (by simp) _ he⟩, hi.at fun o q => k it (by simp) o q, hne⟩
  item := by
    intro X hP hw hK hc i pins s σ H E I hf st hg
    subst hP hw hK
    obtain ⟨⟨old, he⟩, hit, hne⟩ := st
    obtain ⟨xs, x, hq, hx⟩ := hg
    obtain ⟨its, rv, p, hz⟩ := I.tuple hq
    obtain ⟨u, hu, ru⟩ := rv.get hx
    have hel : e < s.heap.objs.size := Heap.lt_size he
    have hil : it < s.heap.objs.size := by obtain ⟨_, q, _⟩ := hit; exact Heap.lt_size q
    have nat : a ≠ it := fun z => by
      obtain ⟨_, q1, q2, _⟩ := hit
      obtain ⟨_, q3, q4, _⟩ := p
      rw [z, q1] at q3
      cases q3
      rw [q2] at q4
      exact absurd q4 (by decide)
    have hlt : i < its.toArray.size := by rw [List.size_toArray]; exact (List.getElem?_eq_some_iff.mp hu).1
    have nae : e ∉ [it, a] := fun z => by
      rcases (show e = it ∨ e = a by simpa using z) with z | z
      · exact hne z
      · obtain ⟨_, q3, q4, _⟩ := p
        rw [← z, he] at q3
        cases q3
        exact absurd (show Value.type "enumerate" = Value.type "tuple" from q4) (by decide)
    refine wpAny_pyNext_enum_itemD (Draws.tuple (A := X.A.in1) (show X.A.in1.handled = Option.none from I.ok.hd hc) it a nat its.toArray) he ⟨hit, p⟩ hlt hne nae fun x' h' tk hP ho hst' hT hsz hk => ?_
    have ex : x' = u := by
      have q : its[i]? = some x' := by simpa using hP
      rw [hu] at q
      exact (Option.some.inj q).symm
    subst ex
    refine ⟨_, rfl, wpAny_letOwnedTupleGo_enum (s := { s with heap := h', toks := tk + 1 }) ho fun h'' he' sb => ?_⟩
    have hT2 : h''.get? s.heap.objs.size = some (tupO [.int i tk, x'] 0) := (sb.2 _ (Nat.ne_of_gt hel)).trans hT
    have new : ObjOk X.prog X.w (upd H s.heap.objs.size (.frz (tupO [.int i tk, x'] 0) (.tup [.int (i : Nat), x]))) h'' s.heap.objs.size (.frz (tupO [.int i tk, x'] 0) (.tup [.int (i : Nat), x])) :=
      ⟨hT2, by show 2 ≤ sizeLine; decide, [.int i tk, x'], .cons ⟨_, rfl⟩ (.cons ru .nil), ⟨_, hT2, rfl, _, rfl⟩⟩
    have I1 : Inv X pins σ (upd H s.heap.objs.size (.frz (tupO [.int i tk, x'] 0) (.tup [.int (i : Nat), x]))) { s with heap := h'', toks := tk + 1 } :=
      I.turnedNew (ch := [e, it]) (fun b ob hb q => (sb.2 b (fun z => hb (by simp [z]))).trans (hk b ob (fun z => hb (by simp [z])) (fun z => hb (by simp [z])) q)) hf (Nat.le_refl _) new
    refine ⟨.ref s.heap.objs.size, _, I1, rfl, ⟨_, x, _, rfl, I.hok.fresh (Nat.le_refl _), rfl, rfl, rfl, fun ys hy => by rw [I.tuple_inj hy hq]; exact hx⟩, ⟨⟨x', ?_⟩, hst'.1.at fun o q => (sb.2 it (Ne.symm hne)).trans q, hne⟩, fun b hb => ?_⟩
    · rw [show ((i + 1 : Nat) : Int) = (i : Int) + 1 by omega]; exact he'
    · have hb' : b < s.heap.objs.size := by
        rcases (show b = e ∨ b = it by simpa using hb) with z | z
        · rw [z]; exact hel
        · rw [z]; exact hil
      rw [upd_ne (Nat.ne_of_lt hb')]
      exact (hf b hb).1
  done := by
    intro X hP hw hK hc i pins s σ H E I hf st hg
    subst hP hw hK
    obtain ⟨⟨old, he⟩, hit, hne⟩ := st
    obtain ⟨xs, hq, hx⟩ := hg
    obtain ⟨its, rv, p, hz⟩ := I.tuple hq
    obtain ⟨f0, f1, f2, f3, f4, f5⟩ := hf it (by simp)
    have hl := rv.length
    have none : its.toArray[i]? = none := by simp; omega
    have hT : s.TypeIs (.ref e) "enumerate" := ⟨_, he, rfl⟩
    unfold pyNext
    refine wpAny_bind (wpAny_attempt (wpAny_callSpecial?_slot (name := Str.ofString "__next__") hT F.slot_enumerate_next (wpAny_call_entry F.slot_enumerate_next hT F.entry_enumerate_next ?_ (F.args_enumerate_next_1 _))))
    show wpAny _ _ (field (.ref e) 2 >>= _) _ _ _
    refine wpAny_bind (wpAny_field he rfl (x := .ref it) rfl ?_)
    refine wpAny_bind (wpAny_nextOf_tuple_end (show X.A.in1.handled = Option.none from I.ok.hd hc) hit p none fun h' y he' hy => ?_)
    obtain ⟨o, ho, hc'⟩ := hy
    refine wpAny_bind (wpAny_isInstance (T := "StopIteration") (b := true) ⟨o, ho, hc'⟩ isSubtype_stop ?_)
    exact wpAny_pure ⟨rfl, I.turned (t' := s.toks) (fun b o hb q => he' b o hb q) f0 f1 f3 f4 f5⟩
  self := fun A i s Q E st h => let ⟨⟨_, he⟩, _⟩ := st; wpAny_pyIter_enum he h
end TV

namespace TV
open PySem L2 PySem.Spec PyProof.Rows

/-! ### readings -/
section
variable (G : Gam)
def kL (rs : List Addr) (Q : List V → Hp → Prop) : List Addr → Hp → List U → OH → Prop := fun as H us _ => ∀ vs, RL G as rs H us vs → Q vs H
def tE (m : Env' → OH → R U) : TE := fun σ H Q => ∃ as rs e h, RH G as rs H h ∧ RSt G as rs H e σ ∧ out G as rs H (m e h) (kE G rs Q)
def tA (m : Env' → OH → R (List U)) : TA := fun σ H Q => ∃ as rs e h, RH G as rs H h ∧ RSt G as rs H e σ ∧ out G as rs H (m e h) (kL G rs Q)
def tT (m : Env' → OH → R U) : TT := fun σ H Q => ∃ as rs e h, RH G as rs H h ∧ RSt G as rs H e σ ∧ out G as rs H (m e h) fun _ H' u h' => ∃ b, truO h' u = some b ∧ Q b H'
def tO (m : Env' → OH → R (Option Int)) : TO := fun σ H Q => ∃ as rs e h, RH G as rs H h ∧ RSt G as rs H e σ ∧ out G as rs H (m e h) fun _ H' o _ => Q o H'
end
theorem pe_weak {X : Cx} {e : Expr} {t t' : TE} (h : PE X e t') (w : ∀ σ H Q, t σ H Q → t' σ H Q) : PE X e t := ⟨fun pins s σ H Q I q => h.run pins s σ H Q I (w _ _ _ q)⟩
theorem pt_weak {X : Cx} {e : Expr} {t t' : TT} (h : PT X e t') (w : ∀ σ H Q, t σ H Q → t' σ H Q) : PT X e t := ⟨fun pins s σ H Q I q => h.run pins s σ H Q I (w _ _ _ q)⟩
theorem pw_weak {X : Cx} {e : Expr} {t t' : TT} (h : PW X e t') (w : ∀ σ H Q, t σ H Q → t' σ H Q) : PW X e t := ⟨fun wh pins s σ H Q I q => h.run wh pins s σ H Q I (w _ _ _ q)⟩
theorem pa_weak {X : Cx} {e : List Expr} {t t' : TA} (h : PA X e t') (w : ∀ σ H Q, t σ H Q → t' σ H Q) : PA X e t := ⟨fun pos pins s σ H Q I q => h.run pos pins s σ H Q I (w _ _ _ q)⟩
theorem po_weak {X : Cx} {e : Option Expr} {t t' : TO} (h : PO X e t') (w : ∀ σ H Q, t σ H Q → t' σ H Q) : PO X e t := ⟨fun pins s σ H Q I q => h.run pins s σ H Q I (w _ _ _ q)⟩
theorem ps_weak {X : Cx} {e : Stmt} {t t' : TS} (h : PS X e t') (w : ∀ D σ H, t D σ H → t' D σ H) : PS X e t := ⟨fun pins s σ H D I q => h.run pins s σ H D I (w _ _ _ q)⟩
theorem pss_weak {X : Cx} {e : List Stmt} {t t' : TS} (h : PSs X e t') (w : ∀ D σ H, t D σ H → t' D σ H) : PSs X e t := ⟨fun pins s σ H D I q => h.run pins s σ H D I (w _ _ _ q)⟩

section
variable {X : Cx} {G : Gam} {a b c : Expr} {es : List Expr} {pos : Pos} {ma mb mc : Env' → OH → R U} {ml : Env' → OH → R (List U)}
/-! ### names, constants -/
theorem e_var {i : Nat} {x : Str} (hN : X.N[i]? = some x) (hv : Vis X.env.scope x) (hd : (x == ("__debug__" : Str)) = false) (hcd : (x == ("__classdict__" : Str)) = false) :
    PE X (.Name x pos) (tE G fun e h => match e[i]? with
      | some (some u) => .ok u h
      | _ => .bad) := by
  refine pe_weak (pe_var hN hv hd hcd) ?_
  rintro σ H Q ⟨as, rs, e, h, r, q, o⟩
  dsimp only at o
  split at o
  · rename_i u hu
    obtain ⟨v, e1, rv⟩ := q.at_ i u hu
    exact ⟨v, e1, out_now o r v rv⟩
  · exact o.elim
theorem e_const {v : V} {u : U} (h : PE X a (tC v)) (ru : ∀ as rs H, RU G as rs H u v) : PE X a (tE G fun _ h => .ok u h) := by
  refine pe_weak h ?_
  rintro σ H Q ⟨as, rs, e, h, r, q, o⟩
  exact out_now o r v (ru as rs H)
/-! ### two in a row -/
theorem bin_w {f : U → U → OH → R U} {σ : L2.St} {H : Hp} {Q : VK} (t : tE G (fun e h => (ma e h).bind fun x h1 => (mb e h1).bind fun y h2 => f x y h2) σ H Q) : tOp (r2O G f) (tE G ma) (tE G mb) σ H Q := by
  obtain ⟨as, rs, e, h, r, q, o⟩ := t
  exact ⟨as, rs, e, h, r, q, out_mono (out_bind o) fun as1 H1 x h1 x1 r1 o1 v rv => ⟨as1, rs, e, h1, r1, q.ext x1, out_mono (out_bind o1) fun as2 H2 y h2 x2 r2 o2 w rw' => ⟨as2, rs, h2, x, y, r2, rv.ext x2, rw', o2⟩⟩⟩
theorem e_bin (hK : G.K = X.K) {m : Bool} {op : Op} (ha : PE X a (tE G ma)) (hb : PE X b (tE G mb)) : PE X (.BinOp a (pyOp op) b pos) (tE G fun e h => (ma e h).bind fun x h1 => (mb e h1).bind fun y h2 => opE m op x y h2) :=
  pe_weak (pe_op (opE_ok hK m op) ha hb) fun _ _ _ => bin_w
theorem e_neg (ha : PE X a (tE G ma)) : PE X (.UnaryOp .USub a pos) (tE G fun e h => (ma e h).bind fun x h1 => match x with
    | .int i => .ok (.int (-i)) h1
    | _ => .bad) := by
  refine pe_weak (pe_un un_neg ha) ?_
  rintro σ H Q ⟨as, rs, e, h, r, q, o⟩
  refine ⟨as, rs, e, h, r, q, out_mono (out_bind o) fun as1 H1 x h1 x1 r1 o1 v rv => ?_⟩
  cases x with
  | int i => cases rv; exact ⟨i, rfl, out_now o1 r1 _ (.int _)⟩
  | _ => exact o1.elim
theorem okB_ok {as rs : List Addr} {H : Hp} {h : OH} {o : Option Bool} {Q : VK} (r : RH G as rs H h) (t : out G as rs H (okB o h) (kE G rs Q)) : ∃ b, o = some b ∧ Q (.bl b) H := by
  cases o with
  | none => exact t.elim
  | some b => exact ⟨b, rfl, out_now t r _ (.bl b)⟩
theorem okB_t {as rs : List Addr} {H : Hp} {h : OH} {o : Option Bool} {Q : Bool → Hp → Prop} (r : RH G as rs H h) (t : out G as rs H (okB o h) fun _ H' u h' => ∃ b, truO h' u = some b ∧ Q b H') : ∃ b, o = some b ∧ Q b H := by
  cases o with
  | none => exact t.elim
  | some b =>
    obtain ⟨b', e, q⟩ := out_now t r
    have e' : b = b' := Option.some.inj e
    subst e'; exact ⟨b, rfl, q⟩
theorem e_cmp (hK : G.K = X.K) (hu : X.A.units + 65 < cLine) {op : Cp} (ha : PE X a (tE G ma)) (hb : PE X b (tE G mb)) (hm : behindInMarks (pyCp op) b = false) :
    PE X (.Compare a [pyCp op] [b] pos) (tE G fun e h => (ma e h).bind fun x h1 => (mb e h1).bind fun y h2 => okB (cpO h2 op x y) h2) := by
  refine pe_weak (pe_cmpR (cpO_ok hK hu op) ha hb hm) ?_
  rintro σ H Q ⟨as, rs, e, h, r, q, o⟩
  refine ⟨as, rs, e, h, r, q, out_mono (out_bind o) fun as1 H1 x h1 x1 r1 o1 v rv => ⟨as1, rs, e, h1, r1, q.ext x1, out_mono (out_bind o1) fun as2 H2 y h2 x2 r2 o2 w rw' => ?_⟩⟩
  obtain ⟨b, e1, q1⟩ := okB_ok r2 o2
  exact ⟨as2, rs, h2, x, y, b, r2, rv.ext x2, rw', e1, q1⟩
theorem t_cmp (hK : G.K = X.K) (hu : X.A.units + 65 < cLine) {op : Cp} (ha : PE X a (tE G ma)) (hb : PE X b (tE G mb)) (hm : behindInMarks (pyCp op) b = false) :
    PT X (.Compare a [pyCp op] [b] pos) (tT G fun e h => (ma e h).bind fun x h1 => (mb e h1).bind fun y h2 => okB (cpO h2 op x y) h2) := by
  refine pt_weak (pt_cmpR (cpO_ok hK hu op) ha hb hm) ?_
  rintro σ H Q ⟨as, rs, e, h, r, q, o⟩
  refine ⟨as, rs, e, h, r, q, out_mono (out_bind o) fun as1 H1 x h1 x1 r1 o1 v rv => ⟨as1, rs, e, h1, r1, q.ext x1, out_mono (out_bind o1) fun as2 H2 y h2 x2 r2 o2 w rw' => ?_⟩⟩
  obtain ⟨b, e1, q1⟩ := okB_t r2 o2
  exact ⟨as2, rs, h2, x, y, b, r2, rv.ext x2, rw', e1, b, rfl, q1⟩
/-! ### is None -/
theorem dec_non {as rs : List Addr} {H : Hp} {u : U} {v : V} (r : RU G as rs H u v) : decide (v = .non) = decide (u = .non) := by
  cases r <;> simp
theorem e_isn {p : Bool} {j : Nat} {pos' : Pos} (ha : PE X a (tE G ma)) : PE X (.Compare a [if p then .Is else .IsNot] [.Constant .none j pos'] pos) (tE G fun e h => (ma e h).bind fun x h1 => .ok (.bl (if p then decide (x = .non) else !decide (x = .non))) h1) := by
  cases p with
  | true =>
    refine pe_weak (pe_cmp (pc_isN ha)) ?_
    rintro σ H Q ⟨as, rs, e, h, r, q, o⟩
    exact ⟨as, rs, e, h, r, q, out_mono (out_bind o) fun as1 H1 x h1 x1 r1 o1 v rv => by show Q (V.bl (decide (v = V.non))) H1; rw [dec_non rv]; exact out_now o1 r1 _ (.bl _)⟩
  | false =>
    refine pe_weak (pe_cmp (pc_notN ha)) ?_
    rintro σ H Q ⟨as, rs, e, h, r, q, o⟩
    exact ⟨as, rs, e, h, r, q, out_mono (out_bind o) fun as1 H1 x h1 x1 r1 o1 v rv => by show Q (V.bl (!decide (v = V.non))) H1; rw [dec_non rv]; exact out_now o1 r1 _ (.bl _)⟩
theorem t_isn {p : Bool} {j : Nat} {pos' : Pos} (ha : PE X a (tE G ma)) : PT X (.Compare a [if p then .Is else .IsNot] [.Constant .none j pos'] pos) (tT G fun e h => (ma e h).bind fun x h1 => .ok (.bl (if p then decide (x = .non) else !decide (x = .non))) h1) := by
  cases p with
  | true =>
    refine pt_weak (pt_cmp (pc_isN ha)) ?_
    rintro σ H Q ⟨as, rs, e, h, r, q, o⟩
    refine ⟨as, rs, e, h, r, q, out_mono (out_bind o) fun as1 H1 x h1 x1 r1 o1 v rv => ?_⟩
    show ∃ c, V.bl (decide (v = V.non)) = V.bl c ∧ Q c H1
    rw [dec_non rv]
    obtain ⟨b, e1, q1⟩ := out_now o1 r1
    exact ⟨_, rfl, by rw [show decide (x = U.non) = b from Option.some.inj e1]; exact q1⟩
  | false =>
    refine pt_weak (pt_cmp (pc_notN ha)) ?_
    rintro σ H Q ⟨as, rs, e, h, r, q, o⟩
    refine ⟨as, rs, e, h, r, q, out_mono (out_bind o) fun as1 H1 x h1 x1 r1 o1 v rv => ?_⟩
    show ∃ c, V.bl (!decide (v = V.non)) = V.bl c ∧ Q c H1
    rw [dec_non rv]
    obtain ⟨b, e1, q1⟩ := out_now o1 r1
    exact ⟨_, rfl, by rw [show (!decide (x = U.non)) = b from Option.some.inj e1]; exact q1⟩
/-! ### chains -/
theorem e_chain (hK : G.K = X.K) (hu : X.A.units + 65 < cLine) {op1 op2 : Cp} (ha : PE X a (tE G ma)) (hb : PE X b (tE G mb)) (hc : PE X c (tE G mc)) (hm : lastMarks [pyCp op1, pyCp op2] [b, c] = false) :
    PE X (.Compare a [pyCp op1, pyCp op2] [b, c] pos) (tE G fun e h => (ma e h).bind fun x h1 => (mb e h1).bind fun y h2 => match cpO h2 op1 x y with
      | none => .bad
      | some false => .ok (.bl false) h2
      | some true => (mc e h2).bind fun z h3 => okB (cpO h3 op2 y z) h3) := by
  refine pe_weak (pe_chain (cpO_ok hK hu op1) (cpO_ok hK hu op2) ha hb hc hm) ?_
  rintro σ H Q ⟨as, rs, e, h, r, q, o⟩
  refine ⟨as, rs, e, h, r, q, out_mono (out_bind o) fun as1 H1 x h1 x1 r1 o1 v rv => ⟨as1, rs, e, h1, r1, q.ext x1, out_mono (out_bind o1) fun as2 H2 y h2 x2 r2 o2 w rw' => ?_⟩⟩
  split at o2
  · exact o2.elim
  · rename_i e1
    exact ⟨as2, rs, h2, x, y, false, r2, rv.ext x2, rw', e1, false, rfl, out_now o2 r2 _ (.bl _)⟩
  · rename_i e1
    refine ⟨as2, rs, h2, x, y, true, r2, rv.ext x2, rw', e1, true, rfl, as2, rs, e, h2, r2, (q.ext x1).ext x2, out_mono (out_bind o2) fun as3 H3 z h3 x3 r3 o3 u ru => ?_⟩
    obtain ⟨b, e2, q2⟩ := okB_ok r3 o3
    exact ⟨as3, rs, h3, y, z, b, r3, rw'.ext x3, ru, e2, q2⟩
theorem t_chain (hK : G.K = X.K) (hu : X.A.units + 65 < cLine) {op1 op2 : Cp} (ha : PE X a (tE G ma)) (hb : PE X b (tE G mb)) (hc : PE X c (tE G mc)) (hm : lastMarks [pyCp op1, pyCp op2] [b, c] = false) :
    PT X (.Compare a [pyCp op1, pyCp op2] [b, c] pos) (tT G fun e h => (ma e h).bind fun x h1 => (mb e h1).bind fun y h2 => match cpO h2 op1 x y with
      | none => .bad
      | some false => .ok (.bl false) h2
      | some true => (mc e h2).bind fun z h3 => okB (cpO h3 op2 y z) h3) := by
  refine pt_weak (pt_chain (cpO_ok hK hu op1) (cpO_ok hK hu op2) ha hb hc hm) ?_
  rintro σ H Q ⟨as, rs, e, h, r, q, o⟩
  refine ⟨as, rs, e, h, r, q, out_mono (out_bind o) fun as1 H1 x h1 x1 r1 o1 v rv => ⟨as1, rs, e, h1, r1, q.ext x1, out_mono (out_bind o1) fun as2 H2 y h2 x2 r2 o2 w rw' => ?_⟩⟩
  split at o2
  · exact o2.elim
  · rename_i e1
    obtain ⟨b, e2, q2⟩ := out_now o2 r2
    have e3 : false = b := Option.some.inj e2
    subst e3
    exact ⟨as2, rs, h2, x, y, false, r2, rv.ext x2, rw', e1, false, rfl, false, rfl, q2⟩
  · rename_i e1
    refine ⟨as2, rs, h2, x, y, true, r2, rv.ext x2, rw', e1, true, rfl, as2, rs, e, h2, r2, (q.ext x1).ext x2, out_mono (out_bind o2) fun as3 H3 z h3 x3 r3 o3 u ru => ?_⟩
    obtain ⟨b, e2, q2⟩ := okB_t r3 o3
    exact ⟨as3, rs, h3, y, z, b, r3, rw'.ext x3, ru, e2, b, rfl, q2⟩
/-! ### a test by its value's truth -/
theorem t_truth (hK : G.K = X.K) (ha : PE X a (tE G ma)) (he : ∀ whole, isTrue a X.env whole = (do let v ← whole; standAt a.pos; holding [v] (truthy v))) : PT X a (tT G ma) := by
  refine pt_weak (pt_truth ha he) ?_
  rintro σ H Q ⟨as, rs, e, h, r, q, o⟩
  exact ⟨as, rs, e, h, r, q, out_mono o fun as1 H1 x h1 x1 r1 ⟨b, e1, q1⟩ v rv => ⟨b, truO_ok hK r1 rv e1, q1⟩⟩
theorem e_not (hK : G.K = X.K) (ha : PE X a (tE G ma)) : PE X (.UnaryOp .Not a pos) (tE G fun e h => (ma e h).bind fun x h1 => okB ((truO h1 x).map (!·)) h1) := by
  refine pe_weak (pe_notT ha) ?_
  rintro σ H Q ⟨as, rs, e, h, r, q, o⟩
  refine ⟨as, rs, e, h, r, q, out_mono (out_bind o) fun as1 H1 x h1 x1 r1 o1 v rv => ?_⟩
  obtain ⟨b, e1, q1⟩ := okB_ok r1 o1
  simp only [Option.map_eq_some_iff] at e1
  obtain ⟨b', e1, rfl⟩ := e1
  exact ⟨b', truO_ok hK r1 rv e1, q1⟩
theorem t_not (ha : PT X a (tT G ma)) : PT X (.UnaryOp .Not a pos) (tT G fun e h => (ma e h).bind fun x h1 => okB ((truO h1 x).map (!·)) h1) := by
  refine pt_weak (pt_not ha) ?_
  rintro σ H Q ⟨as, rs, e, h, r, q, o⟩
  refine ⟨as, rs, e, h, r, q, out_mono (out_bind o) fun as1 H1 x h1 x1 r1 o1 => ?_⟩
  obtain ⟨b, e1, q1⟩ := okB_t r1 o1
  simp only [Option.map_eq_some_iff] at e1
  obtain ⟨b', e1, rfl⟩ := e1
  exact ⟨b', e1, q1⟩
/-! ### a if c else b -/
theorem ife_m {as rs : List Addr} {H : Hp} {h : OH} {x : U} {α : Type} {A B : R α} {k} (o : out G as rs H (match truO h x with
    | none => .bad
    | some true => A
    | some false => B) k) : ∃ b, truO h x = some b ∧ if b = true then out G as rs H A k else out G as rs H B k := by
  split at o
  · exact o.elim
  · rename_i e; exact ⟨true, e, o⟩
  · rename_i e; exact ⟨false, e, o⟩
theorem e_ife (hc : PT X c (tT G mc)) (ha : PE X a (tE G ma)) (hb : PE X b (tE G mb)) : PE X (.IfExp c a b pos) (tE G fun e h => (mc e h).bind fun x h1 => match truO h1 x with
    | none => .bad
    | some true => ma e h1
    | some false => mb e h1) := by
  refine pe_weak (pe_ifExp hc ha hb) ?_
  rintro σ H Q ⟨as, rs, e, h, r, q, o⟩
  refine ⟨as, rs, e, h, r, q, out_mono (out_bind o) fun as1 H1 x h1 x1 r1 o1 => ?_⟩
  obtain ⟨k, e1, q1⟩ := ife_m o1
  refine ⟨k, e1, ?_⟩
  cases k with
  | true => exact ⟨as1, rs, e, h1, r1, q.ext x1, q1⟩
  | false => exact ⟨as1, rs, e, h1, r1, q.ext x1, q1⟩
theorem t_ife (hc : PT X c (tT G mc)) (ha : PT X a (tT G ma)) (hb : PT X b (tT G mb)) : PT X (.IfExp c a b pos) (tT G fun e h => (mc e h).bind fun x h1 => match truO h1 x with
    | none => .bad
    | some true => ma e h1
    | some false => mb e h1) := by
  refine ⟨fun pins s σ H Q I t => ?_⟩
  obtain ⟨as, rs, e, h, r, q, o⟩ := t
  have go := hc.run pins s σ H (fun k H1 => if k = true then tT G ma σ H1 Q else tT G mb σ H1 Q) I ⟨as, rs, e, h, r, q, out_mono (out_bind o) fun as1 H1 x h1 x1 r1 o1 => by
    obtain ⟨k, e1, q1⟩ := ife_m o1
    refine ⟨k, e1, ?_⟩
    cases k with
    | true => exact ⟨as1, rs, e, h1, r1, q.ext x1, q1⟩
    | false => exact ⟨as1, rs, e, h1, r1, q.ext x1, q1⟩⟩
  refine isTrue_IfExp (thn go fun k s1 ⟨H1, I1, q1⟩ => ?_)
  cases k with
  | true => exact ha.run pins s1 σ H1 Q I1 q1
  | false => exact hb.run pins s1 σ H1 Q I1 q1
/-! ### and, or -/
theorem e_one {op : PySem.BoolOp} (ha : PE X a (tE G ma)) : PE X (.BoolOp op [a] pos) (tE G ma) := pe_one ha
theorem e_and {rest : List Expr} (hK : G.K = X.K) (ha : PE X a (tE G ma)) (hb : PE X (.BoolOp .And (b :: rest) pos) (tE G mb)) : PE X (.BoolOp .And (a :: b :: rest) pos) (tE G fun e h => (ma e h).bind fun x h1 => match truO h1 x with
    | none => .bad
    | some true => mb e h1
    | some false => .ok x h1) := by
  refine pe_weak (pe_andT ha hb) ?_
  rintro σ H Q ⟨as, rs, e, h, r, q, o⟩
  refine ⟨as, rs, e, h, r, q, out_mono (out_bind o) fun as1 H1 x h1 x1 r1 o1 v rv => ?_⟩
  obtain ⟨k, e1, q1⟩ := ife_m o1
  refine ⟨k, truO_ok hK r1 rv e1, ?_⟩
  cases k with
  | true => exact ⟨as1, rs, e, h1, r1, q.ext x1, q1⟩
  | false => exact out_now q1 r1 v rv
theorem e_or {rest : List Expr} (hK : G.K = X.K) (ha : PE X a (tE G ma)) (hb : PE X (.BoolOp .Or (b :: rest) pos) (tE G mb)) : PE X (.BoolOp .Or (a :: b :: rest) pos) (tE G fun e h => (ma e h).bind fun x h1 => match truO h1 x with
    | none => .bad
    | some false => mb e h1
    | some true => .ok x h1) := by
  refine pe_weak (pe_orT ha hb) ?_
  rintro σ H Q ⟨as, rs, e, h, r, q, o⟩
  refine ⟨as, rs, e, h, r, q, out_mono (out_bind o) fun as1 H1 x h1 x1 r1 o1 v rv => ?_⟩
  split at o1
  · exact o1.elim
  · rename_i e1
    exact ⟨false, truO_ok hK r1 rv e1, as1, rs, e, h1, r1, q.ext x1, o1⟩
  · rename_i e1
    exact ⟨true, truO_ok hK r1 rv e1, out_now o1 r1 v rv⟩
theorem w_and1 (ha : PT X a (tT G ma)) : PW X (.BoolOp .And [a] pos) (tT G ma) := pw_and1 ha
theorem w_or1 (ha : PT X a (tT G ma)) : PW X (.BoolOp .Or [a] pos) (tT G ma) := pw_or1 ha
theorem w_and {rest : List Expr} (ha : PT X a (tT G ma)) (hb : PW X (.BoolOp .And (b :: rest) pos) (tT G mb)) : PW X (.BoolOp .And (a :: b :: rest) pos) (tT G fun e h => (ma e h).bind fun x h1 => match truO h1 x with
    | none => .bad
    | some true => mb e h1
    | some false => .ok x h1) := by
  refine pw_weak (pw_and ha hb) ?_
  rintro σ H Q ⟨as, rs, e, h, r, q, o⟩
  refine ⟨as, rs, e, h, r, q, out_mono (out_bind o) fun as1 H1 x h1 x1 r1 o1 => ?_⟩
  obtain ⟨k, e1, q1⟩ := ife_m o1
  refine ⟨k, e1, ?_⟩
  cases k with
  | true => exact ⟨as1, rs, e, h1, r1, q.ext x1, q1⟩
  | false =>
    obtain ⟨b', e2, q2⟩ := out_now (show out G as1 rs H1 (R.ok x h1) (fun _ H' u h' => ∃ b, truO h' u = some b ∧ Q b H') from q1) r1
    rw [e1] at e2; cases e2; exact q2
theorem w_or {rest : List Expr} (ha : PT X a (tT G ma)) (hb : PW X (.BoolOp .Or (b :: rest) pos) (tT G mb)) : PW X (.BoolOp .Or (a :: b :: rest) pos) (tT G fun e h => (ma e h).bind fun x h1 => match truO h1 x with
    | none => .bad
    | some false => mb e h1
    | some true => .ok x h1) := by
  refine pw_weak (pw_or ha hb) ?_
  rintro σ H Q ⟨as, rs, e, h, r, q, o⟩
  refine ⟨as, rs, e, h, r, q, out_mono (out_bind o) fun as1 H1 x h1 x1 r1 o1 => ?_⟩
  split at o1
  · exact o1.elim
  · rename_i e1
    exact ⟨false, e1, as1, rs, e, h1, r1, q.ext x1, o1⟩
  · rename_i e1
    obtain ⟨b', e2, q2⟩ := out_now o1 r1
    rw [e1] at e2; cases e2
    exact ⟨true, e1, q2⟩
/-! ### argument lists, displays -/
theorem a_nil : PA X [] (tA G fun _ h => .ok [] h) := by
  refine pa_weak pa_nil ?_
  rintro σ H Q ⟨as, rs, e, h, r, q, o⟩
  exact out_now o r [] .nil
theorem a_cons (ha : PE X a (tE G ma)) (hl : PA X es (tA G ml)) (hs : starEach (a :: es) X.env = (false, eval a X.env) :: starEach es X.env) : PA X (a :: es) (tA G fun e h => (ma e h).bind fun u h1 => (ml e h1).bind fun us h2 => .ok (u :: us) h2) := by
  refine pa_weak (pa_cons ha hl hs) ?_
  rintro σ H Q ⟨as, rs, e, h, r, q, o⟩
  exact ⟨as, rs, e, h, r, q, out_mono (out_bind o) fun as1 H1 x h1 x1 r1 o1 v rv => ⟨as1, rs, e, h1, r1, q.ext x1, out_mono (out_bind o1) fun as2 H2 us h2 x2 r2 o2 vs rl => out_now o2 r2 _ (.cons (rv.ext x2) rl)⟩⟩
theorem e_tup {k : Nat} (hl : PA X es (tA G ml)) : PE X (.Tuple es k pos) (tE G fun e h => (ml e h).bind fun us h1 => if us.length ≤ LIM then .ok (.tup us) h1 else .bad) := by
  refine pe_weak (pe_tupF hl) ?_
  rintro σ H Q ⟨as, rs, e, h, r, q, o⟩
  refine ⟨as, rs, e, h, r, q, out_mono (out_bind o) fun as1 H1 us h1 x1 r1 o1 vs rl => ?_⟩
  split at o1
  · rename_i hz
    exact ⟨by rw [← rl.length, ← lim_line]; exact hz, new_tup r1 rl o1⟩
  · exact o1.elim
theorem e_lst {m : Bool} (hl : PA X es (tA G ml)) : PE X (.List es pos) (tE G fun e h => (ml e h).bind fun us h1 => newL m us h1) := by
  refine pe_weak (pe_lst hl) ?_
  rintro σ H Q ⟨as, rs, e, h, r, q, o⟩
  exact ⟨as, rs, e, h, r, q, out_mono (out_bind o) fun as1 H1 us h1 x1 r1 o1 vs rl => new_lst r1 rl o1⟩
/-! ### subscripts -/
theorem e_ix (hK : G.K = X.K) (hu : X.A.units + 65 < cLine) (ha : PE X a (tE G ma)) (hb : PE X b (tE G mb)) (hs : PlainIx b) : PE X (.Subscript a b pos) (tE G fun e h => (ma e h).bind fun x h1 => (mb e h1).bind fun y h2 => okU (ixO h2 x y) h2) := by
  refine pe_weak (pe_ix (ixO_ok hK hu) ha hb hs) ?_
  rintro σ H Q ⟨as, rs, e, h, r, q, o⟩
  refine ⟨as, rs, e, h, r, q, out_mono (out_bind o) fun as1 H1 x h1 x1 r1 o1 v rv => ⟨as1, rs, e, h1, r1, q.ext x1, out_mono (out_bind o1) fun as2 H2 y h2 x2 r2 o2 w rw' => ?_⟩⟩
  cases e1 : ixO h2 x y with
  | none => rw [e1] at o2; exact o2.elim
  | some u => rw [e1] at o2; exact ⟨as2, rs, h2, x, y, u, r2, rv.ext x2, rw', e1, out_now o2 r2⟩
theorem o_none : PO X none (tO G fun _ h => .ok none h) := by
  refine po_weak po_none ?_
  rintro σ H Q ⟨as, rs, e, h, r, q, o⟩
  exact out_now o r
theorem o_some (ha : PE X a (tE G ma)) : PO X (some a) (tO G fun e h => (ma e h).bind fun x h1 => match x with
    | .int i => .ok (some i) h1
    | _ => .bad) := by
  refine po_weak (po_some ha) ?_
  rintro σ H Q ⟨as, rs, e, h, r, q, o⟩
  refine ⟨as, rs, e, h, r, q, out_mono (out_bind o) fun as1 H1 x h1 x1 r1 o1 v rv => ?_⟩
  cases x with
  | int i => cases rv; exact ⟨i, rfl, out_now o1 r1⟩
  | _ => exact o1.elim
theorem e_sl (hK : G.K = X.K) {m : Bool} {lo hi : Option Expr} {p2 : Pos} {m1 m2 : Env' → OH → R (Option Int)} (ha : PE X a (tE G ma)) (h1 : PO X lo (tO G m1)) (h2 : PO X hi (tO G m2)) :
    PE X (.Subscript a (.Slice lo hi none p2) pos) (tE G fun e h => (ma e h).bind fun x h1 => (m1 e h1).bind fun l h2 => (m2 e h2).bind fun u h3 => slE m x l u h3) := by
  refine pe_weak (pe_slice (slE_ok hK m) ha h1 h2) ?_
  rintro σ H Q ⟨as, rs, e, h, r, q, o⟩
  exact ⟨as, rs, e, h, r, q, out_mono (out_bind o) fun as1 H1 x h1 x1 r1 o1 v rv => ⟨as1, rs, e, h1, r1, q.ext x1, out_mono (out_bind o1) fun as2 H2 l h2 x2 r2 o2 => ⟨as2, rs, e, h2, r2, (q.ext x1).ext x2,
    out_mono (out_bind o2) fun as3 H3 u h3 x3 r3 o3 => ⟨as3, rs, h3, x, r3, (rv.ext x2).ext x3, o3⟩⟩⟩⟩
end
end TV

namespace TV
open PySem L2 PySem.Spec PyProof.Rows

section
variable {X : Cx} {G : Gam} {a b c : Expr} {es : List Expr} {pos : Pos} {ma mb mc : Env' → OH → R U} {ml : Env' → OH → R (List U)}
/-! ### built-in functions called -/
theorem e_bi {n : Str} {p : Pos} {id : String} {f : List U → OH → R U} (hc : CallR X (.builtin id) (rC G f)) (hg : Gl X n) (hm : X.mg n = none) (hv : bootBuiltins n = some (.builtin id)) (ha : PA X (a :: es) (tA G ml)) (hn : n ≠ "__name__") (hdb : (n == ("__debug__" : Str)) = false)
    (he : starEach (a :: es) X.env = (false, eval a X.env) :: starEach es X.env) (hpl : (backTo pos (starEach es X.env)).any (·.1) = false) : PE X (.Call (.Name n p) (a :: es) [] pos) (tE G fun e h => (ml e h).bind fun us h1 => f us h1) := by
  refine pe_weak (pe_callB hc hg hm hv ha hn hdb he hpl) ?_
  rintro σ H Q ⟨as, rs, e, h, r, q, o⟩
  exact ⟨as, rs, e, h, r, q, out_mono (out_bind o) fun as1 H1 us h1 x1 r1 o1 vs rl => ⟨as1, rs, h1, us, r1, rl, o1⟩⟩
theorem e_ty {n : Str} {p : Pos} {id : String} {f : List U → OH → R U} (hc : CallR X (.type id) (rC G f)) (hg : Gl X n) (hm : X.mg n = none) (hv : bootBuiltins n = some (.type id)) (ha : PA X (a :: es) (tA G ml)) (hn : n ≠ "__name__") (hdb : (n == ("__debug__" : Str)) = false)
    (he : starEach (a :: es) X.env = (false, eval a X.env) :: starEach es X.env) (hpl : (backTo pos (starEach es X.env)).any (·.1) = false) : PE X (.Call (.Name n p) (a :: es) [] pos) (tE G fun e h => (ml e h).bind fun us h1 => f us h1) := by
  refine pe_weak (pe_callTy hc hg hm hv ha hn hdb he hpl) ?_
  rintro σ H Q ⟨as, rs, e, h, r, q, o⟩
  exact ⟨as, rs, e, h, r, q, out_mono (out_bind o) fun as1 H1 us h1 x1 r1 o1 vs rl => ⟨as1, rs, h1, us, r1, rl, o1⟩⟩
/-- isinstance(a, T) -/
theorem e_isi (hK : G.K = X.K) {t : Bi} {p p2 : Pos} {T : Str} (hg : Gl X "isinstance") (hm : X.mg "isinstance" = none) (hgT : Gl X T) (hmT : X.mg T = none) (hv : bootBuiltins T = some (.type (tyN t))) (hn : T ≠ "__name__") (hdb : (T == ("__debug__" : Str)) = false) (ha : PE X a (tE G ma))
    (he : starEach [a, .Name T p2] X.env = (false, eval a X.env) :: starEach [.Name T p2] X.env) :
    PE X (.Call (.Name "isinstance" p) [a, .Name T p2] [] pos) (tE G fun e h => (ma e h).bind fun u h1 => okB (isTy t u h1) h1) := by
  have hcall : CallR X (.builtin "isinstance") (fun xs H Q => ∃ x, xs = [x, .ty (tyN t)] ∧ r1C G (fun u h => okB (isTy t u h) h) x H Q) := by
    rintro pins s σ H xs us Q I rv ⟨x, rfl, q⟩
    obtain ⟨u1, u2, rfl, r1, r2⟩ := vals2 rv
    exact isTy_ok hK t I r1 r2 q
  refine pe_weak (pe_callB hcall hg hm (by decide +kernel) (pa_cons ha (pa_cons (pe_bltn (v := .ty (tyN t)) hgT hmT hv rfl hn hdb) pa_nil) he) (by decide +kernel) (by decide +kernel) he (by rfl)) ?_
  rintro σ H Q ⟨as, rs, e, h, r, q, o⟩
  exact ⟨as, rs, e, h, r, q, out_mono (out_bind o) fun as1 H1 x h1 x1 r1 o1 v rv => ⟨v, rfl, as1, rs, h1, x, r1, rv, o1⟩⟩
/-! ### methods of lists and tuples -/
def rM (G : Gam) (f : U → List U → OH → R U) : V → List V → Hp → VK → Prop := fun x vs H Q => ∃ as rs h o us, RH G as rs H h ∧ RU G as rs H o x ∧ RL G as rs H us vs ∧ out G as rs H (f o us h) (kE G rs Q)
theorem set_lst {as rs : List Addr} {H : Hp} {h : OH} {n : Nat} {p : Addr} {us : List U} {vs : List V} {k} {u : U} (r : RH G as rs H h) (ea : as[n]? = some p) (l : RL G as rs H us vs) (o : out G as rs H (.ok u (h.set n (.lst us))) k) :
    k as (upd H p (.lst vs)) u (h.set n (.lst us)) := o as _ (Ext.upd (List.mem_of_getElem? ea)) (r.upd (o := .lst vs) (o' := .lst us) ea True.intro ⟨vs, upd_same, l.ext (Ext.upd (List.mem_of_getElem? ea))⟩)
theorem lsU_ok {as rs : List Addr} {H : Hp} {h : OH} {f : List U → Nat → OH → R U} {o : U} {x : V} {k} (r : RH G as rs H h) (ro : RU G as rs H o x) (t : out G as rs H (lsU f o h) k) :
    ∃ n p us vs, o = .ref n ∧ x = .ref p ∧ as[n]? = some p ∧ H p = some (.lst vs) ∧ RL G as rs H us vs ∧ out G as rs H (f us n h) k := by
  unfold lsU at t
  cases o with
  | ref n =>
    dsimp only at t
    split at t
    · rename_i us hx
      cases ro with
      | ref ea =>
        obtain ⟨b, eb, vs, hb, l⟩ := r.ob _ _ hx
        rw [ea] at eb; cases eb
        exact ⟨n, _, us, vs, rfl, rfl, ea, hb, l, t⟩
    · exact t.elim
  | _ => exact t.elim
theorem m1_ok {id : String} {f : U → U → OH → R U} (c : ∀ pins s σ H x y v w Q, Inv X pins σ H s → RelV x v → RelV y w → r2O G f x y H Q → wpAny (model X.prog X.w) X.A (call (.builtin id) [v, w]) (EP X pins σ Q) X.xe s) : MtR X id (rM G fun o us h => un1 (fun u h => f o u h) us h) := by
  rintro pins s σ H x xs v us Q I rx rv ⟨as, rs, h, o, ws, r, ro, l, t⟩
  cases l with
  | nil => exact t.elim
  | cons r1 l =>
    cases l with
    | nil =>
      obtain ⟨w, rfl, rw'⟩ := vals1 rv
      exact c pins s σ H x _ v w Q I rx rw' ⟨as, rs, h, o, _, r, ro, r1, t⟩
    | cons _ _ => exact t.elim
theorem append_ok : MtR X "list.append" (rM G (mtE .append)) := m1_ok fun pins s σ H x y v w Q I rx ry ⟨as, rs, h, o, u, r, ro, ru, t⟩ => by
  obtain ⟨n, p, us, vs, rfl, rfl, ea, hp, l, t⟩ := lsU_ok r ro t
  split at t
  · rename_i hz
    exact mt_append pins s σ H _ [y] v [w] Q I rx (v1 ry) ⟨p, vs, y, rfl, rfl, hp, by rw [← l.length, ← lim_line]; exact hz, set_lst r ea (l.append (.cons ru .nil)) t _ .non⟩
  · exact t.elim
theorem extend_ok : MtR X "list.extend" (rM G (mtE .extend)) := m1_ok fun pins s σ H x y v w Q I rx ry ⟨as, rs, h, o, u, r, ro, ru, t⟩ => by
  obtain ⟨n, p, us, vs, rfl, rfl, ea, hp, l, t⟩ := lsU_ok r ro t
  split at t
  · rename_i ys hy
    obtain ⟨p2, zs, rfl, hp2, l2⟩ := lsO_ok r ru hy
    split at t
    · rename_i hz
      exact mt_extend pins s σ H _ [_] v [w] Q I rx (v1 ry) ⟨p, p2, vs, zs, rfl, rfl, hp, hp2, by rw [← l.length, ← l2.length, ← lim_line]; exact hz, set_lst r ea (l.append l2) t _ .non⟩
    · exact t.elim
  · exact t.elim
theorem popAt_ok : MtR X "list.pop" (rM G (mtE .popAt)) := m1_ok fun pins s σ H x y v w Q I rx ry ⟨as, rs, h, o, u, r, ro, ru, t⟩ => by
  obtain ⟨n, p, us, vs, rfl, rfl, ea, hp, l, t⟩ := lsU_ok r ro t
  cases u with
  | int i =>
    dsimp only at t
    split at t
    · rename_i hi
      split at t
      · rename_i k hk
        split at t
        · rename_i z hz
          cases ru
          obtain ⟨y', ey, ry'⟩ := l.get hz
          have x1 : Ext as H as (upd H p (.lst (vs.eraseIdx k))) := Ext.upd (List.mem_of_getElem? ea)
          exact mt_popAt pins s σ H _ [_] v [w] Q I rx (v1 ry) ⟨p, vs, i, k, y', rfl, rfl, hp, by omega, by omega, by rw [← l.length]; exact hk, ey, set_lst r ea (l.eraseIdx k) t _ (ry'.ext x1)⟩
        · exact t.elim
      · exact t.elim
    · exact t.elim
  | _ => exact t.elim
theorem pop_ok : MtR X "list.pop" (rM G (mtE .pop)) := by
  rintro pins s σ H x xs v us Q I rx rv ⟨as, rs, h, o, ws, r, ro, l, t⟩
  unfold mtE at t
  cases l with
  | nil =>
    obtain ⟨n, p, us', vs, rfl, rfl, ea, hp, l, t⟩ := lsU_ok r ro (show out G as rs H (popE o h) (kE G rs Q) from t)
    split at t
    · rename_i z hz
      obtain ⟨y', ey, ry'⟩ := l.get hz
      have x1 : Ext as H as (upd H p (.lst vs.dropLast)) := Ext.upd (List.mem_of_getElem? ea)
      exact mt_pop pins s σ H _ _ v _ Q I rx rv ⟨p, vs, y', rfl, rfl, hp, by rw [← l.length]; exact ey, set_lst r ea l.dropLast t _ (ry'.ext x1)⟩
    · exact t.elim
  | cons _ _ => exact t.elim
theorem index_ok (hK : G.K = X.K) : MtR X "tuple.index" (rM G (mtE .index)) := m1_ok fun pins s σ H x y v w Q I rx ry ⟨as, rs, h, o, u, r, ro, ru, t⟩ => by
  unfold indexE at t
  cases o with
  | tup xs =>
    dsimp only at t
    split at t
    · rename_i ns hn
      cases u with
      | int i =>
        dsimp only at t
        split at t
        · rename_i hi
          obtain ⟨p, vs, rfl, hp, l⟩ := tup_ok ro
          have e := (intsO_ok l hn).1
          subst e
          cases ru
          cases rx
          obtain ⟨tk, rfl⟩ := ry
          obtain ⟨its, rv, pl, hz⟩ := I.tuple (by rw [← hK]; exact hp)
          refine SeqAt.call_tuple_index (α := Int) (ks := ns) (k := i) pl ?_ hi ⟨.int _, H, I.tok _, ⟨_, rfl⟩, out_now t r _ (.int _)⟩
          exact SeqAt.ItemsEq.ints (Vals.ints rv)
        · exact t.elim
      | _ => exact t.elim
    · exact t.elim
  | _ => exact t.elim
end
end TV

namespace TV
open PySem L2 PySem.Spec PyProof.Rows

section
variable {X : Cx} {G : Gam} {a b c : Expr} {es : List Expr} {pos : Pos} {ma mb mc : Env' → OH → R U} {ml : Env' → OH → R (List U)}
/-! ### method calls -/
/-- what stands there is of that built-in type and has no dict of its own -/
def TyD (G : Gam) (T : String) (x : V) (H : Hp) : Prop := match x with
  | .ref p => (T = "list" ∧ ∃ vs, H p = some (.lst vs)) ∨ (T = "tuple" ∧ ∃ vs, TupF H p vs ∨ SqK G.K p vs)
  | _ => False
theorem tyD_is (hK : G.K = X.K) {pins : List (Addr × Obj)} {σ : L2.St} {H : Hp} {s : Shared} {T : String} {x : V} {v : Value} (I : Inv X pins σ H s) (r : RelV x v) (ty : TyD G T x H) : s.TypeIs v T ∧ ∀ a, v = .ref a → ∃ ob, s.heap.get? a = some ob ∧ ob.dict = none := by
  cases x with
  | ref p =>
    cases r
    rcases (show (T = "list" ∧ ∃ vs, H p = some (.lst vs)) ∨ (T = "tuple" ∧ ∃ vs, TupF H p vs ∨ SqK G.K p vs) from ty) with ⟨rfl, vs, e⟩ | ⟨rfl, vs, e⟩
    · obtain ⟨its, n, _, h1, _⟩ := I.lst e
      exact ⟨⟨_, h1, rfl⟩, fun a q => by cases q; exact ⟨_, h1, rfl⟩⟩
    · rcases e with ⟨o, e1, e2, e3⟩ | ⟨o, its, n, e1, e2, e3, _⟩
      · have q := I.hok _ _ e1
        have q1 : s.heap.get? p = some o := q.1
        exact ⟨⟨o, q1, e2⟩, fun a z => by cases z; exact ⟨o, q1, e3⟩⟩
      · have q1 : s.heap.get? p = some o := I.kIn p o (by rw [← hK]; exact e1)
        exact ⟨⟨o, q1, e3⟩, fun a z => by cases z; exact ⟨o, q1, e2⟩⟩
  | _ => exact ty.elim
def tMt (G : Gam) (T : String) (r : V → List V → Hp → VK → Prop) (to : TE) (t : TA) : TE := fun σ H Q => to σ H fun x H1 => TyD G T x H1 ∧ t σ H1 fun xs H2 => r x xs H2 Q
theorem pe_mt {o e : Expr} {to : TE} {t : TA} {name : Str} {apos cpos : Pos} {T id : String} {r : V → List V → Hp → VK → Prop} (hK : G.K = X.K) (pa : PlainAttrs T) (slot : Slot T name id) (hty : typeOf (.builtin id) = pure (.type "method_descriptor")) (hm : MtR X id r) (ho : PE X o to) (ha : PA X (e :: es) t)
    (hbase : attributeBase o name X.env (eval o X.env) = eval o X.env)
    (hfew : ((backTo cpos (starEach (e :: es) X.env)).all (fun x => !x.1) && (backToKw cpos (keywordEach [] X.env)).all (fun x => x.1.isSome)
      && decide ((e :: es).length + ([] : List Keyword).length + (if ([] : List Keyword).isEmpty then 0 else 1) < 30)) = true)
    (hline : (apos.endLine == cpos.line) = true) (hs : starEach (e :: es) X.env = (false, eval e X.env) :: starEach es X.env) (hplain : (backTo cpos (starEach es X.env)).any (·.1) = false) :
    PE X (.Call (.Attribute o name apos) (e :: es) [] cpos) (tMt G T r to t) := by
  refine ⟨fun pins s σ H Q I h => ?_⟩
  refine wpAny_Call_method_late hbase hfew hline rfl (thn (ho.run pins s σ H _ I h) fun v s1 ⟨x, H1, I1, r1, ty, q1⟩ => ?_)
  obtain ⟨h1, h2⟩ := tyD_is hK I1 r1 ty
  refine ⟨T, id, pa, slot, hty, h1, h2, ?_⟩
  have hA := ha.run cpos pins s1 σ H1 _ I1 q1
  rw [hs] at hA ⊢
  refine Calls.callWith_builtin (by show (false || (backTo cpos (starEach es X.env)).any (·.1)) = false; rw [hplain] <;> rfl) (Calls.evalArgs_plain ?_)
  exact thn hA fun us s2 ⟨vs, H2, I2, r2, q2⟩ => hm pins s2 σ H2 x vs v us Q I2 r1 r2 q2
theorem pe_mt0 {o : Expr} {to : TE} {name : Str} {apos cpos : Pos} {T id : String} {r : V → List V → Hp → VK → Prop} (hK : G.K = X.K) (pa : PlainAttrs T) (slot : Slot T name id) (hty : typeOf (.builtin id) = pure (.type "method_descriptor")) (hm : MtR X id r) (ho : PE X o to)
    (hbase : attributeBase o name X.env (eval o X.env) = eval o X.env) (hline : (apos.endLine == cpos.line) = true) : PE X (.Call (.Attribute o name apos) [] [] cpos) (fun σ H Q => to σ H fun x H1 => TyD G T x H1 ∧ r x [] H1 Q) := by
  refine ⟨fun pins s σ H Q I h => ?_⟩
  refine wpAny_Call_method0_late hbase hline (thn (ho.run pins s σ H _ I h) fun v s1 ⟨x, H1, I1, r1, ty, q1⟩ => ?_)
  obtain ⟨h1, h2⟩ := tyD_is hK I1 r1 ty
  exact ⟨T, id, pa, slot, hty, h1, h2, Calls.callWith_builtin rfl (PySem.evalArgs_none (hm pins s1 σ H1 x [] v [] Q I1 r1 .nil q1))⟩
def mtT : Mt → String
  | .index => "tuple"
  | _ => "list"
theorem isLs_ok {as rs : List Addr} {H : Hp} {h : OH} {u : U} {x : V} (r : RH G as rs H h) (ru : RU G as rs H u x) (e : isLs h u = true) : TyD G "list" x H := by
  cases u with
  | ref n =>
    unfold isLs at e
    dsimp only at e
    split at e
    · rename_i us hx
      cases ru with
      | ref ea =>
        obtain ⟨b, eb, vs, hb, l⟩ := r.ob _ _ hx
        rw [ea] at eb; cases eb
        exact .inl ⟨rfl, vs, hb⟩
    · cases e
  | _ => cases e
theorem mtK_ok {mt : Mt} {as rs : List Addr} {H : Hp} {h : OH} {u : U} {x : V} (r : RH G as rs H h) (ru : RU G as rs H u x) (e : mtK mt u h = true) : TyD G (mtT mt) x H := by
  cases mt with
  | index =>
    cases u with
    | tup us =>
      cases ru with
      | tupH n hp l => exact .inr ⟨rfl, _, .inl hp⟩
      | tupK hp l => exact .inr ⟨rfl, _, .inr hp⟩
    | _ => cases e
  | append => exact isLs_ok r ru e
  | extend => exact isLs_ok r ru e
  | pop => exact isLs_ok r ru e
  | popAt => exact isLs_ok r ru e
theorem mt_w {mt : Mt} {id : String} {σ : L2.St} {H : Hp} {Q : VK} (t : tE G (fun e h => (ma e h).bind fun x h1 => if mtK mt x h1 then (ml e h1).bind fun us h2 => mtE mt x us h2 else .bad) σ H Q) : tMt G (mtT mt) (rM G (mtE mt)) (tE G ma) (tA G ml) σ H Q := by
  obtain ⟨as, rs, e, h, r, q, o⟩ := t
  refine ⟨as, rs, e, h, r, q, out_mono (out_bind o) fun as1 H1 x h1 x1 r1 o1 v rv => ?_⟩
  split at o1
  · rename_i hk
    exact ⟨mtK_ok r1 rv hk, as1, rs, e, h1, r1, q.ext x1, out_mono (out_bind o1) fun as2 H2 us h2 x2 r2 o2 vs rl => ⟨as2, rs, h2, x, us, r2, rv.ext x2, rl, o2⟩⟩
  · exact o1.elim
theorem e_mt {o e : Expr} {name : Str} {apos cpos : Pos} {mt : Mt} {id : String} (hK : G.K = X.K) (pa : PlainAttrs (mtT mt)) (slot : Slot (mtT mt) name id) (hty : typeOf (.builtin id) = pure (.type "method_descriptor")) (hm : MtR X id (rM G (mtE mt))) (ho : PE X o (tE G ma)) (ha : PA X (e :: es) (tA G ml))
    (hbase : attributeBase o name X.env (eval o X.env) = eval o X.env)
    (hfew : ((backTo cpos (starEach (e :: es) X.env)).all (fun x => !x.1) && (backToKw cpos (keywordEach [] X.env)).all (fun x => x.1.isSome)
      && decide ((e :: es).length + ([] : List Keyword).length + (if ([] : List Keyword).isEmpty then 0 else 1) < 30)) = true)
    (hline : (apos.endLine == cpos.line) = true) (hs : starEach (e :: es) X.env = (false, eval e X.env) :: starEach es X.env) (hplain : (backTo cpos (starEach es X.env)).any (·.1) = false) :
    PE X (.Call (.Attribute o name apos) (e :: es) [] cpos) (tE G fun e h => (ma e h).bind fun x h1 => if mtK mt x h1 then (ml e h1).bind fun us h2 => mtE mt x us h2 else .bad) :=
  pe_weak (pe_mt hK pa slot hty hm ho ha hbase hfew hline hs hplain) fun _ _ _ => mt_w (id := id)
theorem e_mt0 {o : Expr} {name : Str} {apos cpos : Pos} {mt : Mt} {id : String} (hK : G.K = X.K) (pa : PlainAttrs (mtT mt)) (slot : Slot (mtT mt) name id) (hty : typeOf (.builtin id) = pure (.type "method_descriptor")) (hm : MtR X id (rM G (mtE mt))) (ho : PE X o (tE G ma))
    (hbase : attributeBase o name X.env (eval o X.env) = eval o X.env) (hline : (apos.endLine == cpos.line) = true) :
    PE X (.Call (.Attribute o name apos) [] [] cpos) (tE G fun e h => (ma e h).bind fun x h1 => if mtK mt x h1 then (R.ok ([] : List U) h1).bind fun us h2 => mtE mt x us h2 else .bad) := by
  refine pe_weak (pe_mt0 hK pa slot hty hm ho hbase hline) ?_
  rintro σ H Q ⟨as, rs, e, h, r, q, o⟩
  refine ⟨as, rs, e, h, r, q, out_mono (out_bind o) fun as1 H1 x h1 x1 r1 o1 v rv => ?_⟩
  split at o1
  · rename_i hk
    exact ⟨mtK_ok r1 rv hk, as1, rs, h1, x, [], r1, rv, .nil, o1⟩
  · exact o1.elim

/-! ### what is walked -/
/-- the walk J yields the trees us, while what is guarded stands -/
def WK (G : Gam) (rs : List Addr) (J : It) (as : List Addr) (H : Hp) (us : List U) (g : Gd) : Prop :=
  ∀ rs' as' H' h', (∀ p ∈ rs', H p = none ∨ p ∈ rs) → Ext as H as' H' → RH G as' rs' H' h' → gdOk g h' = true →
    (∀ i u, us[i]? = some u → J.go i H' ∧ ∀ x H2, J.yld i H' x H2 → Ext as' H' as' H2 ∧ RH G as' rs' H2 h' ∧ RU G as' rs' H2 u x) ∧ J.stop us.length H'
def tI (G : Gam) (m : Env' → OH → R (List U × Gd)) : TI := fun σ H R' => ∃ as rs e h, RH G as rs H h ∧ RSt G as rs H e σ ∧ out G as rs H (m e h) fun as1 H1 p h1 => ∀ J, WK G rs J as1 H1 p.1 p.2 → R' J H1
theorem pi_weak {tg iter : Expr} {t t' : TI} (h : PI X tg iter t') (w : ∀ σ H R', t σ H R' → t' σ H R') : PI X tg iter t := ⟨fun pins s σ H R' I q => h.run pins s σ H R' I (w _ _ _ q)⟩
mutual
/-- further things reserved, that were not there -/
theorem RU.more {as rs as' rs' : List Addr} {H H' : Hp} (x : Ext as H as' H') (hr : ∀ p ∈ rs', H p = none ∨ p ∈ rs) : ∀ {u : U} {v : V}, RU G as rs H u v → RU G as' rs' H' u v
  | _, _, .non => .non
  | _, _, .bl b => .bl b
  | _, _, .int i => .int i
  | _, _, .str s => .str s
  | _, _, .tupH n ⟨o, r, c⟩ l => .tupH (x.keep _ _ n r).2 ⟨o, (x.keep _ _ n r).1, c⟩ (RL.more x hr l)
  | _, _, .tupK r l => .tupK r (RL.more x hr l)
  | _, _, .fls n m r l => .fls (x.keep _ _ n r).2 (fun z => (hr _ z).elim (fun q => by rw [r] at q; cases q) m) (x.keep _ _ n r).1 (RL.more x hr l)
  | _, _, .ref e => .ref (x.pre _ _ e)
  | _, _, .rlsH n e => .rlsH (x.keep _ _ n e).2 (x.keep _ _ n e).1
  | _, _, .rlsK e => .rlsK e
theorem RL.more {as rs as' rs' : List Addr} {H H' : Hp} (x : Ext as H as' H') (hr : ∀ p ∈ rs', H p = none ∨ p ∈ rs) : ∀ {u : List U} {v : List V}, RL G as rs H u v → RL G as' rs' H' u v
  | _, _, .nil => .nil
  | _, _, .cons r l => .cons (RU.more x hr r) (RL.more x hr l)
end
theorem RSt.more {as rs as' rs' : List Addr} {H H' : Hp} (x : Ext as H as' H') (hr : ∀ p ∈ rs', H p = none ∨ p ∈ rs) {e : Env'} {σ : L2.St} (r : RSt G as rs H e σ) : RSt G as' rs' H' e σ := ⟨r.len, fun i u q => let ⟨v, e1, r1⟩ := r.at_ i u q; ⟨v, e1, r1.more x hr⟩⟩
/-- a list or tuple at p, its items the trees us as long as what is guarded stands -/
def SqB (K : PySem.W.Frag) (b : Bool) (H : Hp) (p : Addr) (vs : List V) : Prop := match b with
  | true => SqT K H p vs
  | false => SqL K H p vs
def SQ (G : Gam) (rs as : List Addr) (H : Hp) (b : Bool) (p : Addr) (us : List U) (g : Gd) : Prop :=
  ∀ rs' as' H' h', (∀ p ∈ rs', H p = none ∨ p ∈ rs) → Ext as H as' H' → RH G as' rs' H' h' → gdOk g h' = true → ∃ vs, SqB G.K b H' p vs ∧ RL G as' rs' H' us vs
theorem itO_ok {as rs : List Addr} {H : Hp} {h : OH} {u : U} {v : V} {us : List U} {g : Gd} (r : RH G as rs H h) (ru : RU G as rs H u v) (e : itO h u = some (us, g)) :
    ∃ p b, v = .ref p ∧ SQ G rs as H b p us g := by
  cases ru with
  | tupH n hp l =>
    simp only [itO, Option.some.injEq, Prod.mk.injEq] at e
    obtain ⟨rfl, rfl⟩ := e
    obtain ⟨o, e1, c⟩ := hp
    exact ⟨_, true, rfl, fun rs' as' H' h' hr x r' _ => ⟨_, .inl (.inr ⟨o, (x.keep _ _ n e1).1⟩), l.more x hr⟩⟩
  | tupK hp l =>
    simp only [itO, Option.some.injEq, Prod.mk.injEq] at e
    obtain ⟨rfl, rfl⟩ := e
    exact ⟨_, true, rfl, fun rs' as' H' h' hr x r' _ => ⟨_, hp.sq, l.more x hr⟩⟩
  | fls n m hp l =>
    simp only [itO, Option.some.injEq, Prod.mk.injEq] at e
    obtain ⟨rfl, rfl⟩ := e
    exact ⟨_, false, rfl, fun rs' as' H' h' hr x r' _ => ⟨_, SqL.of (x.keep _ _ n hp).1, l.more x hr⟩⟩
  | @ref n a ea =>
    simp only [itO] at e
    split at e
    · simp only [Option.some.injEq, Prod.mk.injEq] at e
      obtain ⟨rfl, rfl⟩ := e
      refine ⟨_, false, rfl, fun rs' as' H' h' hr x r' hg => ?_⟩
      simp only [gdOk, List.all_cons, List.all_nil, Bool.and_true, decide_eq_true_eq] at hg
      obtain ⟨b, eb, vs, hb, l⟩ := r'.ob _ _ hg
      rw [x.pre _ _ ea] at eb; cases eb
      exact ⟨vs, SqL.of hb, l⟩
    · simp only [Option.some.injEq, Prod.mk.injEq] at e
      obtain ⟨rfl, rfl⟩ := e
      refine ⟨_, false, rfl, fun rs' as' H' h' hr x r' hg => ?_⟩
      simp only [gdOk, List.all_cons, List.all_nil, Bool.and_true, decide_eq_true_eq] at hg
      obtain ⟨b, eb, vs, hb, l⟩ := r'.ob _ _ hg
      rw [x.pre _ _ ea] at eb; cases eb
      exact ⟨vs, hb, l⟩
    · cases e
  | _ => simp [itO] at e
theorem wk_l {as rs : List Addr} {H : Hp} {us : List U} {g : Gd} {p : Addr} (q : SQ G rs as H false p us g) : WK G rs (Itl G.K p) as H us g := by
  intro rs' as' H' h' hr x r hg
  obtain ⟨vs, st, l⟩ := q rs' as' H' h' hr x r hg
  refine ⟨fun i u e => ?_, vs, st, by rw [l.length]; exact Nat.le_refl _⟩
  obtain ⟨v, e1, rv⟩ := l.get e
  refine ⟨⟨vs, v, st, e1⟩, fun y H2 ⟨eH, hy⟩ => ?_⟩
  subst eH
  have z : vs[i]? = some y := hy vs st
  rw [e1] at z; cases z
  exact ⟨.refl, r, rv⟩
theorem wk_t {as rs : List Addr} {H : Hp} {us : List U} {g : Gd} {p : Addr} (q : SQ G rs as H true p us g) : WK G rs (Itt G.K p) as H us g := by
  intro rs' as' H' h' hr x r hg
  obtain ⟨vs, st, l⟩ := q rs' as' H' h' hr x r hg
  refine ⟨fun i u e => ?_, vs, st, by rw [l.length]; exact Nat.le_refl _⟩
  obtain ⟨v, e1, rv⟩ := l.get e
  refine ⟨⟨vs, v, st, e1⟩, fun y H2 ⟨eH, hy⟩ => ?_⟩
  subst eH
  have z : vs[i]? = some y := hy vs st
  rw [e1] at z; cases z
  exact ⟨.refl, r, rv⟩
theorem enU_get {us : List U} {i : Nat} {u : U} (e : (enU us)[i]? = some u) : ∃ w, us[i]? = some w ∧ u = .tup [.int (i : Nat), w] := by
  unfold enU at e
  rw [List.getElem?_mapIdx] at e
  simp only [Option.map_eq_some_iff] at e
  obtain ⟨w, e1, e2⟩ := e
  exact ⟨w, e1, e2.symm⟩
theorem wk_enL {as rs : List Addr} {H : Hp} {us : List U} {g : Gd} {p : Addr} (q : SQ G rs as H false p us g) : WK G rs (IteL G.K p) as H (enU us) g := by
  intro rs' as' H' h' hr x r hg
  obtain ⟨vs, st, l⟩ := q rs' as' H' h' hr x r hg
  refine ⟨fun i u e => ?_, vs, st, by rw [← l.length]; simp [enU]⟩
  obtain ⟨w, e0, rfl⟩ := enU_get e
  obtain ⟨v, e1, rv⟩ := l.get e0
  refine ⟨⟨vs, v, st, e1⟩, fun y H2 ⟨T, z, o, ey, hT, c1, c2, eH, hy⟩ => ?_⟩
  subst ey eH
  have w1 : vs[i]? = some z := hy vs st
  rw [e1] at w1; cases w1
  exact ⟨Ext.new r hT, r.new hT, .tupH (r.nin hT) ⟨o, upd_same, c1, c2⟩ (.cons (.int _) (.cons (rv.ext (Ext.new r hT)) .nil))⟩
theorem wk_enT {as rs : List Addr} {H : Hp} {us : List U} {g : Gd} {p : Addr} (q : SQ G rs as H true p us g) : WK G rs (IteT G.K p) as H (enU us) g := by
  intro rs' as' H' h' hr x r hg
  obtain ⟨vs, st, l⟩ := q rs' as' H' h' hr x r hg
  refine ⟨fun i u e => ?_, vs, st, by rw [← l.length]; simp [enU]⟩
  obtain ⟨w, e0, rfl⟩ := enU_get e
  obtain ⟨v, e1, rv⟩ := l.get e0
  refine ⟨⟨vs, v, st, e1⟩, fun y H2 ⟨T, z, o, ey, hT, c1, c2, eH, hy⟩ => ?_⟩
  subst ey eH
  have w1 : vs[i]? = some z := hy vs st
  rw [e1] at w1; cases w1
  exact ⟨Ext.new r hT, r.new hT, .tupH (r.nin hT) ⟨o, upd_same, c1, c2⟩ (.cons (.int _) (.cons (rv.ext (Ext.new r hT)) .nil))⟩
theorem wk_rg {as rs : List Addr} {H : Hp} {lo hi : Int} : WK G rs (Itr lo (hi - lo).toNat) as H (rgU lo hi) [] := by
  intro rs' as' H' h' hr x r _
  refine ⟨fun i u e => ?_, by simp [rgU, Itr]; omega⟩
  unfold rgU at e
  rw [List.getElem?_map] at e
  simp only [Option.map_eq_some_iff] at e
  obtain ⟨j, e1, rfl⟩ := e
  obtain ⟨hj, e2⟩ := List.getElem?_eq_some_iff.mp e1
  have hj' : i < (hi - lo).toNat := by simpa using hj
  have e3 : i = j := by simpa using e2
  subst e3
  refine ⟨hj', fun y H2 ⟨eH, hy⟩ => ?_⟩
  subst eH hy
  exact ⟨.refl, r, .int _⟩
end
end TV

namespace TV
open PySem L2 PySem.Spec PyProof.Rows

section
variable {X : Cx} {G : Gam} {a b c tg : Expr} {es : List Expr} {pos : Pos} {ma mb mc : Env' → OH → R U} {ml : Env' → OH → R (List U)}
/-! ### sources -/
theorem itO_gd {h : OH} {u : U} {us : List U} {g : Gd} (e : itO h u = some (us, g)) : gdOk g h = true := by
  unfold itO at e
  split at e
  · cases e; rfl
  · cases e; rfl
  · split at e
    · rename_i hx
      cases e; simp [gdOk, hx]
    · rename_i hx
      cases e; simp [gdOk, hx]
    · cases e
  · cases e
/-- the reading of a source's value -/
def qSq (G : Gam) (rs : List Addr) (f : List U → List U) (JL JT : Addr → It) (R' : It → Hp → Prop) : VK := fun v H1 => ∃ p b, v = .ref p ∧ (∃ vs, SqB G.K b H1 p vs) ∧ R' (if b then JT p else JL p) H1
theorem sq_w {as rs : List Addr} {H : Hp} {h : OH} {x : U} {v : V} {f : List U → List U} {JL JT : Addr → It} {R' : It → Hp → Prop} (hL : ∀ us g p, SQ G rs as H false p us g → WK G rs (JL p) as H (f us) g) (hT : ∀ us g p, SQ G rs as H true p us g → WK G rs (JT p) as H (f us) g)
    (r : RH G as rs H h) (rv : RU G as rs H x v) (o : out G as rs H (match itO h x with
      | some p => .ok (f p.1, p.2) h
      | none => .bad) fun as1 H1 p h1 => ∀ J, WK G rs J as1 H1 p.1 p.2 → R' J H1) : qSq G rs f JL JT R' v H := by
  split at o
  · rename_i p hp
    obtain ⟨us, g⟩ := p
    obtain ⟨q, b, rfl, sq⟩ := itO_ok r rv hp
    obtain ⟨vs, st, _⟩ := sq rs as H h (fun p hp => .inr hp) .refl r (itO_gd hp)
    refine ⟨q, b, rfl, ⟨vs, st⟩, ?_⟩
    have k := out_now o r
    cases b with
    | true => exact k _ (hT us g q sq)
    | false => exact k _ (hL us g q sq)
  · exact o.elim
theorem i_sq (hK : G.K = X.K) (ha : PE X a (tE G ma)) : PI X tg a (tI G fun e h => (ma e h).bind fun x h1 => match itO h1 x with
    | some p => .ok p h1
    | none => .bad) := by
  refine ⟨fun pins s σ H R' I t => ?_⟩
  obtain ⟨as, rs, e, h, r, q, o⟩ := t
  refine thn (ha.run pins s σ H (qSq G rs (fun us => us) (Itl G.K) (Itt G.K) R') I ⟨as, rs, e, h, r, q, out_mono (out_bind o) fun as1 H1 x h1 x1 r1 o1 v rv => sq_w (fun us g p s => wk_l s) (fun us g p s => wk_t s) r1 rv o1⟩) fun v s1 ⟨y, H1, I1, rv, p, b, e1, ⟨vs, st⟩, k⟩ => ?_
  subst e1
  cases rv
  cases b with
  | true =>
    obtain ⟨its, rw', pl, hz⟩ := I1.tuple (show SqT X.K H1 p vs by rw [← hK]; exact st)
    refine wpAny_pyIter_tuple (show s1.heap.IsTuple p its.toArray from pl) ?_
    refine ⟨s1.heap.objs.size, [s1.heap.objs.size], _, _, H1, rfl, I1.kept (t' := s1.toks) fun b o e => Heap.get?_push_of_some _ e, turn_tuple p _, ⟨_, Heap.get?_push_size _ rfl, rfl, rfl⟩, fun b hb => ?_, by rw [← hK]; exact k⟩
    obtain rfl : b = s1.heap.objs.size := by simpa using hb
    exact I1.fpOk (Nat.le_refl _) (I1.hok.fresh (Nat.le_refl _))
  | false =>
    obtain ⟨its, rw', pl, hz⟩ := I1.list (show SqL X.K H1 p vs by rw [← hK]; exact st)
    refine wpAny_pyIter_list pl.isList ?_
    refine ⟨s1.heap.objs.size, [s1.heap.objs.size], _, _, H1, rfl, I1.kept (t' := s1.toks) fun b o e => Heap.get?_push_of_some _ e, turn_list p _, ⟨_, Heap.get?_push_size _ rfl, rfl, rfl⟩, fun b hb => ?_, by rw [← hK]; exact k⟩
    obtain rfl : b = s1.heap.objs.size := by simpa using hb
    exact I1.fpOk (Nat.le_refl _) (I1.hok.fresh (Nat.le_refl _))
theorem i_en (hK : G.K = X.K) {elts : List Expr} {kk : Nat} {tpos p : Pos} (hg : Gl X "enumerate") (hm : X.mg "enumerate" = none) (ha : PE X a (tE G ma)) (hs : starEach [a] X.env = [(false, eval a X.env)]) :
    PI X (.Tuple elts kk tpos) (.Call (.Name "enumerate" p) [a] [] pos) (tI G fun e h => (ma e h).bind fun x h1 => match itO h1 x with
    | some p => .ok (enU p.1, p.2) h1
    | none => .bad) := by
  refine ⟨fun pins s σ H R' I t => ?_⟩
  obtain ⟨as, rs, e, h, r, q, o⟩ := t
  have pa : PA X [a] (tCons (tE G ma) tNil) := pa_cons ha pa_nil hs
  refine Call_ (ld_blt I hg hm boot_enumerate (PyProof.Rows.callWith_type1 (thn (pa.run pos pins s σ H (fun vs H1 => ∃ v, vs = [v] ∧ qSq G rs enU (IteL G.K) (IteT G.K) R' v H1) I ⟨as, rs, e, h, r, q, out_mono (out_bind o) fun as1 H1 x h1 x1 r1 o1 v rv => ⟨v, rfl, sq_w (fun us g p s => wk_enL s) (fun us g p s => wk_enT s) r1 rv o1⟩⟩) fun us s1 ⟨ws, H1, I1, r1, v, e0, p, b, e1, ⟨vs, st⟩, k⟩ => ?_) hs rfl))
  subst e0 e1
  obtain ⟨u, rfl, rv⟩ := vals1 r1
  cases rv
  have fp : ∀ b ∈ [s1.heap.objs.size + 1, s1.heap.objs.size], FpOk X pins H1 b := fun b hb => by
    have e' : b = s1.heap.objs.size + 1 ∨ b = s1.heap.objs.size := by simpa using hb
    have hle : s1.heap.objs.size ≤ b := by omega
    exact I1.fpOk hle (I1.hok.fresh hle)
  cases b with
  | true =>
    obtain ⟨its, rw', pl, hz⟩ := I1.tuple (show SqT X.K H1 p vs by rw [← hK]; exact st)
    refine call_enumB (begins_tuple p its.toArray) pl fun h' he hit hk => wpAny_pyIter_enum he ?_
    exact ⟨s1.heap.objs.size + 1, [s1.heap.objs.size + 1, s1.heap.objs.size], _, _, H1, rfl, I1.kept (t' := s1.toks) hk, turn_enT p (s1.heap.objs.size + 1) s1.heap.objs.size, ⟨⟨.none, he⟩, ⟨_, hit, rfl, rfl⟩, Nat.succ_ne_self _⟩, fp, by rw [← hK]; exact k⟩
  | false =>
    obtain ⟨its, rw', pl, hz⟩ := I1.list (show SqL X.K H1 p vs by rw [← hK]; exact st)
    refine call_enumB (begins_list p its.toArray) pl.isList fun h' he hit hk => wpAny_pyIter_enum he ?_
    exact ⟨s1.heap.objs.size + 1, [s1.heap.objs.size + 1, s1.heap.objs.size], _, _, H1, rfl, I1.kept (t' := s1.toks) hk, turn_enL p (s1.heap.objs.size + 1) s1.heap.objs.size, ⟨⟨.none, he⟩, ⟨_, hit, rfl, rfl⟩, Nat.succ_ne_self _⟩, fp, by rw [← hK]; exact k⟩
theorem smallR_ok {i : Int} (h : smallR i = true) : -(2 ^ 62) ≤ i ∧ i < 2 ^ 62 := by
  simp only [smallR, decide_eq_true_eq] at h
  omega
theorem i_r1 {p : Pos} (hg : Gl X "range") (hm : X.mg "range" = none) (ha : PE X a (tE G ma)) (hs : starEach [a] X.env = [(false, eval a X.env)]) : PI X tg (.Call (.Name "range" p) [a] [] pos) (tI G fun e h => (ma e h).bind fun x h1 => match x with
    | .int j => if smallR j then .ok (rgU 0 j, []) h1 else .bad
    | _ => .bad) := by
  refine pi_weak (pi_range1 hg hm (pa_cons ha pa_nil hs) hs) ?_
  rintro σ H R' ⟨as, rs, e, h, r, q, o⟩
  refine ⟨as, rs, e, h, r, q, out_mono (out_bind o) fun as1 H1 x h1 x1 r1 o1 v rv => ?_⟩
  cases x with
  | int j =>
    dsimp only at o1
    split at o1
    · rename_i hj
      cases rv
      have := smallR_ok hj
      refine ⟨j, rfl, this.1, this.2, ?_⟩
      have k := out_now o1 r1 (Itr 0 (j - 0).toNat) wk_rg
      rwa [Int.sub_zero] at k
    · exact o1.elim
  | _ => exact o1.elim
theorem i_r2 {p : Pos} (hg : Gl X "range") (hm : X.mg "range" = none) (ha : PE X a (tE G ma)) (hb : PE X b (tE G mb)) (hs : starEach [a, b] X.env = (false, eval a X.env) :: starEach [b] X.env) (hs2 : starEach [b] X.env = [(false, eval b X.env)]) :
    PI X tg (.Call (.Name "range" p) [a, b] [] pos) (tI G fun e h => (ma e h).bind fun x h1 => (mb e h1).bind fun y h2 => match x, y with
    | .int i, .int j => if smallR i && smallR j then .ok (rgU i j, []) h2 else .bad
    | _, _ => .bad) := by
  refine pi_weak (pi_range2 hg hm (pa_cons ha (pa_cons hb pa_nil hs2) hs) (by rw [hs, hs2]) hs2) ?_
  rintro σ H R' ⟨as, rs, e, h, r, q, o⟩
  refine ⟨as, rs, e, h, r, q, out_mono (out_bind o) fun as1 H1 x h1 x1 r1 o1 v rv => ⟨as1, rs, e, h1, r1, q.ext x1, out_mono (out_bind o1) fun as2 H2 y h2 x2 r2 o2 w rw' => ?_⟩⟩
  split at o2
  · split at o2
    · rename_i hij
      rw [Bool.and_eq_true] at hij
      cases rv; cases rw'
      have h1 := smallR_ok hij.1
      have h2 := smallR_ok hij.2
      exact ⟨_, _, rfl, ⟨h1.1, h1.2, h2.1, h2.2⟩, out_now o2 r2 _ wk_rg⟩
    · exact o2.elim
  · exact o2.elim
/-! ### targets of for and of comprehensions -/
def tGt (G : Gam) (t : Tg) : TG := fun v σ H Q => ∃ as rs e u h e', RH G as rs H h ∧ RSt G as rs H e σ ∧ RU G as rs H u v ∧ tgE t u e = some e' ∧ ∀ σ', RSt G as rs H e' σ' → (∀ vs : List Nat, (∀ i ∈ t.sl, i ∈ vs) → wipe σ' vs = wipe σ vs) → Q σ' H
def tGts (G : Gam) (ts : List Tg) : TGs := fun vs σ H Q => ∃ as rs e us h e', RH G as rs H h ∧ RSt G as rs H e σ ∧ RL G as rs H us vs ∧ tgEs ts us e = some e' ∧ ∀ σ', RSt G as rs H e' σ' → (∀ ws : List Nat, (∀ i ∈ Tg.sls ts, i ∈ ws) → wipe σ' ws = wipe σ ws) → Q σ' H
theorem pg_weak {e : Expr} {t t' : TG} (h : PG X e t') (w : ∀ v σ H Q, t v σ H Q → t' v σ H Q) : PG X e t := ⟨fun pins s σ H v u Q I r q => h.run pins s σ H v u Q I r (w _ _ _ _ q)⟩
theorem pgs_weak {e : List Expr} {t t' : TGs} (h : PGs X e t') (w : ∀ v σ H Q, t v σ H Q → t' v σ H Q) : PGs X e t := ⟨fun pins s σ H v u Q I r q => h.run pins s σ H v u Q I r (w _ _ _ _ q)⟩
theorem RSt.set {as rs : List Addr} {H : Hp} {e : Env'} {σ : L2.St} {u : U} {v : V} (q : RSt G as rs H e σ) (i : Nat) (r : RU G as rs H u v) : RSt G as rs H (e.set i (some u)) (σ.set i (some v)) := by
  refine ⟨by rw [List.length_set, List.length_set]; exact q.len, fun j w e1 => ?_⟩
  by_cases hj : j = i
  · subst hj
    have hl : j < e.length := by
      have := (List.getElem?_eq_some_iff.mp e1).1
      rwa [List.length_set] at this
    rw [List.getElem?_set_self hl] at e1
    cases e1
    exact ⟨v, by rw [List.getElem?_set_self (by rw [← q.len]; exact hl)], r⟩
  · rw [List.getElem?_set_ne (Ne.symm hj)] at e1 ⊢
    exact q.at_ j w e1
theorem wipe_set {σ : L2.St} {i : Nat} {v : Option V} : ∀ {vs : List Nat}, i ∈ vs → wipe (σ.set i v) vs = wipe σ vs
  | w :: vs, h => by
    unfold wipe
    by_cases hm : i ∈ vs
    · rw [wipe_set hm]
    · have e : i = w := by
        rcases List.mem_cons.mp h with z | z
        · exact z
        · exact absurd z hm
      subst e
      have : ∀ {σ : L2.St} {vs : List Nat}, i ∉ vs → wipe (σ.set i v) vs = (wipe σ vs).set i v := by
        intro σ vs
        induction vs with
        | nil => intro _; rfl
        | cons z zs ih =>
          intro hz
          have h1 : i ≠ z := fun q => hz (by rw [q]; exact List.mem_cons_self)
          show (wipe (σ.set i v) zs).set z none = ((wipe σ zs).set z none).set i v
          rw [ih fun q => hz (List.mem_cons_of_mem _ q), List.set_comm _ _ h1]
      rw [this hm, List.set_set]
theorem g_name {i : Nat} {x : Str} (hN : X.N.Nodup) (hi : X.N[i]? = some x) (hx : Loc X.env.scope x) (hf : X.fn x = true ∨ X.env.scope.names.lookup x = some .local) : PG X (.Name x pos) (tGt G (.nm i)) := by
  refine pg_weak (pg_name hN hi hx hf) ?_
  rintro v σ H Q ⟨as, rs, e, u, h, e', r, q, ru, t, k⟩
  simp only [tgE] at t
  split at t
  · cases t
    exact k _ (q.set i ru) fun vs hv => wipe_set (hv i (by simp [Tg.sl]))
  · cases t
theorem gs_nil : PGs X [] (tGts G []) := by
  refine pgs_weak pgs_nil ?_
  rintro v σ H Q ⟨as, rs, e, u, h, e', r, q, ru, t, k⟩
  cases ru with
  | nil => simp only [tgEs, Option.some.injEq] at t; subst t; exact ⟨rfl, k σ q fun _ _ => rfl⟩
  | cons _ _ => simp [tgEs] at t
theorem gs_cons {t : Tg} {ts : List Tg} (h1 : PG X a (tGt G t)) (h2 : PGs X es (tGts G ts)) (hs : (assignEach (a :: es) X.env).map (·.2) = assign a X.env :: (assignEach es X.env).map (·.2)) : PGs X (a :: es) (tGts G (t :: ts)) := by
  refine pgs_weak (pgs_cons h1 h2 hs) ?_
  rintro vs σ H Q ⟨as, rs, e, us, h, e', r, q, ru, tt, k⟩
  cases ru with
  | nil => simp [tgEs] at tt
  | @cons u v us vs r1 rl =>
    simp only [tgEs] at tt
    split at tt
    · rename_i e1 he1
      refine ⟨v, vs, rfl, as, rs, e, u, h, e1, r, q, r1, he1, fun σ1 q1 w1 => ⟨as, rs, e1, us, h, e', r, q1, rl, tt, fun σ2 q2 w2 => k σ2 q2 fun ws hw => ?_⟩⟩
      rw [w2 ws fun i hi => hw i (by simp [Tg.sls, hi]), w1 ws fun i hi => hw i (by simp [Tg.sls, hi])]
    · cases tt
theorem tgEs_len : ∀ {ts : List Tg} {us : List U} {e e' : Env'}, tgEs ts us e = some e' → us.length = ts.length
  | [], [], _, _, _ => rfl
  | [], _ :: _, _, _, h => by simp [tgEs] at h
  | _ :: _, [], _, _, h => by simp [tgEs] at h
  | t :: ts, u :: us, e, e', h => by
    simp only [tgEs] at h
    split at h
    · rw [List.length_cons, List.length_cons, tgEs_len h]
    · cases h
theorem g_tup {ts : List Tg} {k : Nat} (hK : G.K = X.K) (hc : X.calm = true) (hg : PGs X es (tGts G ts)) (hn : (assignEach es X.env).length = ts.length) (hst : (assignEach es X.env).findIdx? (·.1) = none) : PG X (.Tuple es k pos) (tGt G (.tp ts)) := by
  refine pg_weak (pg_tup hc hg hn hst) ?_
  rintro v σ H Q ⟨as, rs, e, u, h, e', r, q, ru, t, k⟩
  cases u with
  | tup us =>
    obtain ⟨p, vs, rfl, hp, l⟩ := tup_ok ru
    simp only [tgE] at t
    exact ⟨p, vs, rfl, by rw [← hK]; exact hp, by rw [← l.length]; exact tgEs_len t, as, rs, e, us, h, e', r, q, l, t, fun σ' q' w => k σ' q' w⟩
  | _ => simp [tgE] at t
end
end TV

namespace TV
open PySem L2 PySem.Spec PyProof.Rows

section
variable {G : Gam} {as rs : List Addr} {H : Hp} {h : OH} {D : Addr} {xs ys : List V}
/-! ### a list that is being made: reserved, then known -/
mutual
theorem RU.adopt (hD : H D = some (.lst xs)) : ∀ {u : U} {v : V}, RU G as (D :: rs) H u v → RU G (as ++ [D]) rs H u v
  | _, _, .non => .non
  | _, _, .bl b => .bl b
  | _, _, .int i => .int i
  | _, _, .str s => .str s
  | _, _, .tupH n ⟨o, r, c⟩ l => .tupH (fun z => (List.mem_append.mp z).elim n fun z => by
      rw [List.mem_singleton] at z
      rw [z, hD] at r; cases r) ⟨o, r, c⟩ (RL.adopt hD l)
  | _, _, .tupK r l => .tupK r (RL.adopt hD l)
  | _, _, .fls n m r l => .fls (fun z => (List.mem_append.mp z).elim n fun z => m (by rw [List.mem_singleton] at z; rw [z]; exact List.mem_cons_self)) (fun z => m (List.mem_cons_of_mem _ z)) r (RL.adopt hD l)
  | _, _, .ref e => .ref (by rw [List.getElem?_append_left (List.getElem?_eq_some_iff.mp e).1]; exact e)
  | _, _, .rlsH n r => .rlsH (fun z => (List.mem_append.mp z).elim n fun z => by
      rw [List.mem_singleton] at z
      rw [z, hD] at r; cases r) r
  | _, _, .rlsK e => .rlsK e
theorem RL.adopt (hD : H D = some (.lst xs)) : ∀ {u : List U} {v : List V}, RL G as (D :: rs) H u v → RL G (as ++ [D]) rs H u v
  | _, _, .nil => .nil
  | _, _, .cons r l => .cons (RU.adopt hD r) (RL.adopt hD l)
end
mutual
theorem RU.less : ∀ {u : U} {v : V}, RU G as (D :: rs) H u v → RU G as rs H u v
  | _, _, .non => .non
  | _, _, .bl b => .bl b
  | _, _, .int i => .int i
  | _, _, .str s => .str s
  | _, _, .tupH n r l => .tupH n r (RL.less l)
  | _, _, .tupK r l => .tupK r (RL.less l)
  | _, _, .fls n m r l => .fls n (fun z => m (List.mem_cons_of_mem _ z)) r (RL.less l)
  | _, _, .ref e => .ref e
  | _, _, .rlsH n r => .rlsH n r
  | _, _, .rlsK e => .rlsK e
theorem RL.less : ∀ {u : List U} {v : List V}, RL G as (D :: rs) H u v → RL G as rs H u v
  | _, _, .nil => .nil
  | _, _, .cons r l => .cons (RU.less r) (RL.less l)
end
mutual
theorem RU.grow (hD : H D = some (.lst xs)) : ∀ {u : U} {v : V}, RU G as (D :: rs) H u v → RU G as (D :: rs) (L2.upd H D (.lst ys)) u v
  | _, _, .non => .non
  | _, _, .bl b => .bl b
  | _, _, .int i => .int i
  | _, _, .str s => .str s
  | _, _, .tupH n ⟨o, r, c⟩ l => .tupH n ⟨o, by rw [upd_ne (fun z => by rw [z, hD] at r; cases r)]; exact r, c⟩ (RL.grow hD l)
  | _, _, .tupK r l => .tupK r (RL.grow hD l)
  | _, _, .fls n m r l => .fls n m (by rw [upd_ne (fun z => m (by rw [z]; exact List.mem_cons_self))]; exact r) (RL.grow hD l)
  | _, _, .ref e => .ref e
  | _, _, .rlsH n r => .rlsH n (by rw [upd_ne (fun z => by rw [z, hD] at r; cases r)]; exact r)
  | _, _, .rlsK e => .rlsK e
theorem RL.grow (hD : H D = some (.lst xs)) : ∀ {u : List U} {v : List V}, RL G as (D :: rs) H u v → RL G as (D :: rs) (L2.upd H D (.lst ys)) u v
  | _, _, .nil => .nil
  | _, _, .cons r l => .cons (RU.grow hD r) (RL.grow hD l)
end
theorem RO.mapU {as' rs' : List Addr} {H' : Hp} (f : ∀ {u v}, RU G as rs H u v → RU G as' rs' H' u v) (fl : ∀ {u v}, RL G as rs H u v → RL G as' rs' H' u v) {a : Addr} (ha : H' a = H a) {o : OO} (r : RO G as rs H a o) : RO G as' rs' H' a o := by
  cases o with
  | lst us => obtain ⟨vs, e, l⟩ := r; exact ⟨vs, ha.trans e, fl l⟩
  | rol us =>
    obtain ⟨vs, e, l⟩ := r
    refine ⟨vs, ?_, fl l⟩
    rcases e with (e | ⟨ob, e⟩) | e
    · exact .inl (.inl (ha.trans e))
    · exact .inl (.inr ⟨ob, ha.trans e⟩)
    · exact .inr e
  | dct kvs => obtain ⟨kv, e, l⟩ := r; exact ⟨kv, ha.trans e, Paired.mapP l fun _ _ z => ⟨z.1, f z.2⟩⟩
  | ins c fs => obtain ⟨C, dx, fv, ec, e, l⟩ := r; exact ⟨C, dx, fv, ec, ha.trans e, Paired.mapP l fun _ _ z => ⟨z.1, f z.2⟩⟩
theorem RH.less (r : RH G as (D :: rs) H h) : RH G as rs H h :=
  ⟨r.len, r.nd, fun i o e => let ⟨a, e1, q⟩ := r.ob i o e; ⟨a, e1, q.mapU RU.less RL.less rfl⟩, r.here, fun p hp => r.rsv p (List.mem_cons_of_mem _ hp)⟩
theorem RH.grow (r : RH G as (D :: rs) H h) (hD : H D = some (.lst xs)) : RH G as (D :: rs) (L2.upd H D (.lst ys)) h := by
  have nD := (r.rsv D List.mem_cons_self).1
  have ne : ∀ a ∈ as, a ≠ D := fun a ha z => nD (by rw [← z]; exact ha)
  refine ⟨r.len, r.nd, fun i o e => ?_, fun a ha => ?_, fun p hp => ?_⟩
  · obtain ⟨a, e1, q⟩ := r.ob i o e
    exact ⟨a, e1, q.mapU (RU.grow hD) (RL.grow hD) (upd_ne (ne a (List.mem_of_getElem? e1)))⟩
  · obtain ⟨o, e, z⟩ := r.here a ha
    exact ⟨o, by rw [upd_ne (ne a ha)]; exact e, z⟩
  · obtain ⟨n, zs, e⟩ := r.rsv p hp
    by_cases hp' : p = D
    · subst hp'; exact ⟨n, ys, upd_same⟩
    · exact ⟨n, zs, by rw [upd_ne hp']; exact e⟩
theorem RH.adopt (r : RH G as (D :: rs) H h) (hD : H D = some (.lst xs)) (hr : D ∉ rs) {us : List U} (l : RL G as (D :: rs) H us xs) : RH G (as ++ [D]) rs H (h ++ [.lst us]) := by
  have nD := (r.rsv D List.mem_cons_self).1
  refine ⟨by simp [r.len], ?_, fun i o e => ?_, fun a ha => ?_, fun p hp => ?_⟩
  · rw [List.nodup_append]
    refine ⟨r.nd, by simp, fun a ha b hb => ?_⟩
    rw [List.mem_singleton] at hb
    rw [hb]; exact fun z => nD (by rw [← z]; exact ha)
  · by_cases hi : i < h.length
    · rw [List.getElem?_append_left hi] at e
      obtain ⟨a, e1, q⟩ := r.ob i o e
      exact ⟨a, by rw [List.getElem?_append_left (by rw [r.len]; exact hi)]; exact e1, q.mapU (RU.adopt hD) (RL.adopt hD) rfl⟩
    · rw [List.getElem?_append_right (by omega)] at e
      have hz : i - h.length = 0 := by
        have := (List.getElem?_eq_some_iff.mp e).1
        simp at this; omega
      rw [hz] at e
      have e' : OO.lst us = o := by simpa using e
      subst e'
      have hi' : i = as.length := by rw [r.len]; omega
      exact ⟨D, by rw [hi']; simp, xs, hD, l.adopt hD⟩
  · rcases List.mem_append.mp ha with ha | ha
    · exact r.here a ha
    · rw [List.mem_singleton] at ha
      subst ha
      exact ⟨_, hD, plain_ne (o := .lst xs) True.intro⟩
  · obtain ⟨n, zs, e⟩ := r.rsv p (List.mem_cons_of_mem _ hp)
    refine ⟨fun z => (List.mem_append.mp z).elim n fun z => ?_, zs, e⟩
    rw [List.mem_singleton] at z
    exact hr (by rw [← z]; exact hp)
theorem RSt.wipe {e : Env'} {σ : L2.St} (q : RSt G as rs H e σ) : ∀ vs : List Nat, RSt G as rs H (wipeU e vs) (L2.wipe σ vs)
  | [] => q
  | v :: vs => by
    have ih := RSt.wipe q vs
    refine ⟨by simp only [wipeU, L2.wipe, List.length_set]; exact ih.len, fun j w e1 => ?_⟩
    simp only [wipeU, L2.wipe] at e1 ⊢
    by_cases hj : j = v
    · subst hj
      have hl : j < (wipeU e vs).length := by
        have := (List.getElem?_eq_some_iff.mp e1).1
        rwa [List.length_set] at this
      rw [List.getElem?_set_self hl] at e1
      cases e1
    · rw [List.getElem?_set_ne (Ne.symm hj)] at e1 ⊢
      exact ih.at_ j w e1
theorem wipe_wipe (σ : L2.St) (vs : List Nat) : L2.wipe (L2.wipe σ vs) vs = L2.wipe σ vs := by
  have set_none : ∀ (ws : List Nat) (τ : L2.St), (∀ w ∈ ws, ∀ x, τ[w]? = some x → x = none) → L2.wipe τ ws = τ := by
    intro ws
    induction ws with
    | nil => intro τ _; rfl
    | cons w ws ih =>
      intro τ ht
      show (L2.wipe τ ws).set w none = τ
      rw [ih τ fun z hz => ht z (List.mem_cons_of_mem _ hz)]
      by_cases hw : w < τ.length
      · have e := ht w List.mem_cons_self _ (List.getElem?_eq_getElem hw)
        rw [← e]
        exact List.set_getElem_self hw
      · exact List.set_eq_of_length_le (by omega)
  refine set_none vs _ fun w hw x hx => ?_
  cases x with
  | none => rfl
  | some x => exact absurd hw (wipe_some hx).2
end

section
variable {X : Cx} {G : Gam} {a b c tg iter elt : Expr} {es ifs : List Expr} {pos : Pos} {ma mb mc melt : Env' → OH → R U} {ml : Env' → OH → R (List U)} {mcs : Env' → OH → R Bool} {msrc : Env' → OH → R (List U × Gd)}
def tCs (G : Gam) (m : Env' → OH → R Bool) : TT := fun σ H Q => ∃ as rs e h, RH G as rs H h ∧ RSt G as rs H e σ ∧ out G as rs H (m e h) fun _ H' b _ => Q b H'
theorem pts_weak {t t' : TT} (h : PTs X ifs t') (w : ∀ σ H Q, t σ H Q → t' σ H Q) : PTs X ifs t := ⟨fun pins s σ H Q I q => h.run pins s σ H Q I (w _ _ _ q)⟩
theorem c_nil : PTs X [] (tCs G fun _ h => .ok true h) := by
  refine pts_weak pts_nil ?_
  rintro σ H Q ⟨as, rs, e, h, r, q, o⟩
  exact out_now o r
theorem c_one (hc : PT X c (tT G mc)) : PTs X [c] (tCs G fun e h => (mc e h).bind fun x h1 => match truO h1 x with
    | none => .bad
    | some b => .ok b h1) := by
  refine pts_weak (pts_one hc) ?_
  rintro σ H Q ⟨as, rs, e, h, r, q, o⟩
  refine ⟨as, rs, e, h, r, q, out_mono (out_bind o) fun as1 H1 x h1 x1 r1 o1 => ?_⟩
  split at o1
  · exact o1.elim
  · rename_i b e1
    exact ⟨b, e1, out_now o1 r1⟩
/-- one turn -/
def lcS (tgt : Tg) (mcs : Env' → OH → R Bool) (melt : Env' → OH → R U) (e0 : Env') (u : U) (hh : OH) : R (Option U) := match tgE tgt u e0 with
  | none => .bad
  | some e1 => (mcs e1 hh).bind fun b h2 => if b then (melt e1 h2).bind fun x h3 => .ok (some x) h3 else .ok none h2
theorem lc_w {tgt : Tg} {own : List Nat} {m : Bool} (hsl : ∀ i ∈ tgt.sl, i ∈ own) {σ : L2.St} {H : Hp} {Q : VK} (t : tE G (fun e h => (msrc e h).bind fun p h1 => if gdOk p.2 h1 then
      (lcL (lcS tgt mcs melt (wipeU e own)) p.2 p.1 [] h1).bind fun us h2 => if m then .ok (.ref h2.length) (h2 ++ [.lst us]) else .ok (.fls us) h2
      else .bad) σ H Q) : tLc (tI G msrc) (tGt G tgt) (tCs G mcs) (tE G melt) own σ H Q := by
  obtain ⟨as, rs, e, h, r, q, o⟩ := t
  refine ⟨as, rs, e, h, r, q, out_mono (out_bind o) fun as1 H1 p h1 x1 r1 o1 => ?_⟩
  obtain ⟨us, g⟩ := p
  dsimp only at o1
  split at o1
  · rename_i hg1
    intro J wk D hD
    have q1 : RSt G as1 rs H1 e σ := q.ext x1
    have more : ∀ p ∈ D :: rs, H1 p = none ∨ p ∈ rs := fun p hp => (List.mem_cons.mp hp).imp (fun z => by rw [z]; exact hD) fun z => z
    have hDr : D ∉ rs := fun z => by obtain ⟨_, _, e⟩ := r1.rsv D z; rw [hD] at e; cases e
    -- what is wanted behind the last turn
    let kf : List Addr → Hp → List U → OH → Prop := fun as2 H2 us' h2 => ∀ vs', H2 D = some (.lst vs') → RL G as2 (D :: rs) H2 us' vs' → Q (.ref D) H2
    have base : out G as1 (D :: rs) H1 (lcL (lcS tgt mcs melt (wipeU e own)) g us [] h1) kf := by
      revert o1
      cases lcL (lcS tgt mcs melt (wipeU e own)) g us [] h1 with
      | bad => exact fun o1 => o1
      | exc _ _ _ => exact fun o1 => o1
      | ok us' h2 =>
        intro o1 as2 H2 x2 r2 vs' hv l
        have nD := (r2.rsv D List.mem_cons_self).1
        cases m with
        | true =>
          have x3 : Ext as1 H1 (as2 ++ [D]) H2 := ⟨fun i a e => by
            have e1 := x2.pre i a e
            rw [List.getElem?_append_left (List.getElem?_eq_some_iff.mp e1).1]; exact e1, fun p o n e => by
            obtain ⟨k1, k2⟩ := x2.keep p o n e
            refine ⟨k1, fun z => (List.mem_append.mp z).elim k2 fun z => ?_⟩
            rw [List.mem_singleton] at z
            rw [z, hD] at e; cases e⟩
          exact o1 (as2 ++ [D]) H2 x3 (r2.adopt hv hDr l) _ (.ref (by rw [← r2.len]; simp))
        | false => exact o1 as2 H2 x2 r2.less _ (.fls nD hDr hv l.less)
    refine ⟨fun i n H' => n = us.length - i ∧ i ≤ us.length ∧ ∃ as' hc acc vacc, Ext as1 H1 as' H' ∧ RH G as' (D :: rs) H' hc ∧ gdOk g hc = true ∧ H' D = some (.lst vacc) ∧ RL G as' (D :: rs) H' acc vacc ∧
      out G as1 (D :: rs) H1 (lcL (lcS tgt mcs melt (wipeU e own)) g (us.drop i) acc hc) kf, ⟨us.length, by simp, Nat.zero_le _, as1, h1, [], [], Ext.new r1 hD, ?_, hg1, upd_same, .nil, by simpa using base⟩, ?_⟩
    · have r2 := r1.new (o := .lst []) hD
      refine ⟨r2.len, r2.nd, fun i o e => ?_, r2.here, fun p hp => ?_⟩
      · obtain ⟨a, e1, z⟩ := r1.ob i o e
        exact ⟨a, e1, z.mapU (RU.more (Ext.new r1 hD) more) (RL.more (Ext.new r1 hD) more) (upd_ne (r1.ne hD (List.mem_of_getElem? e1)))⟩
      · rcases List.mem_cons.mp hp with z | z
        · subst z; exact ⟨r1.nin hD, [], upd_same⟩
        · exact r2.rsv p z
    · rintro i n H' ⟨rfl, hi, as', hc, acc, vacc, x2, r2, hg2, hv, l2, o2⟩
      obtain ⟨w1, w2⟩ := wk (D :: rs) as' H' hc more x2 r2 hg2
      by_cases hlt : i < us.length
      · refine .inr ⟨(w1 i us[i] (List.getElem?_eq_getElem hlt)).1, fun H5 => ∃ as' hc acc vacc, Ext as1 H1 as' H5 ∧ RH G as' (D :: rs) H5 hc ∧ gdOk g hc = true ∧ H5 D = some (.lst vacc) ∧ RL G as' (D :: rs) H5 acc vacc ∧
          out G as1 (D :: rs) H1 (lcL (lcS tgt mcs melt (wipeU e own)) g (us.drop (i + 1)) acc hc) kf, fun H5 n5 => ⟨us.length - (i + 1), by omega, rfl, hlt, n5⟩, fun y H2 hy => ?_⟩
        obtain ⟨x3, r3, ry⟩ := (w1 i us[i] (List.getElem?_eq_getElem hlt)).2 y H2 hy
        have nD2 := (r2.rsv D List.mem_cons_self).1
        have hv3 : H2 D = some (.lst vacc) := (x3.keep D _ nD2 hv).1
        have x4 : Ext as1 H1 as' H2 := x2.trans x3
        have q4 : RSt G as' (D :: rs) H2 (wipeU e own) (L2.wipe σ own) := (q1.more x4 more).wipe own
        rw [List.drop_eq_getElem_cons hlt] at o2
        unfold lcL at o2
        cases ht : tgE tgt us[i] (wipeU e own) with
        | none => unfold lcS at o2; rw [ht] at o2; exact o2.elim
        | some e1 =>
          refine ⟨as', D :: rs, wipeU e own, us[i], hc, e1, r3, q4, ry, ht, fun σ2 q5 ws => ?_⟩
          have wv : L2.wipe σ2 own = L2.wipe σ own := by rw [ws own hsl, wipe_wipe]
          refine ⟨wv, as', D :: rs, e1, hc, r3, q5, ?_⟩
          unfold lcS at o2
          rw [ht] at o2
          dsimp only at o2
          cases hb : mcs e1 hc with
          | bad => rw [hb] at o2; exact o2.elim
          | exc _ _ _ => rw [hb] at o2; exact o2.elim
          | ok bb h2 =>
            rw [hb] at o2
            intro as5 H5 x5 r5
            have x6 : Ext as1 H1 as5 H5 := x4.trans x5
            have hv5 : H5 D = some (.lst vacc) := (x5.keep D _ nD2 hv3).1
            have l5 : RL G as5 (D :: rs) H5 acc vacc := (l2.ext x3).ext x5
            cases bb with
            | false =>
              refine iteF ?_
              have o3 : out G as1 (D :: rs) H1 (if gdOk g h2 then lcL (lcS tgt mcs melt (wipeU e own)) g (us.drop (i + 1)) acc h2 else .bad) kf := o2
              split at o3
              · rename_i hg3
                exact ⟨as5, h2, acc, vacc, x6, r5, hg3, hv5, l5, o3⟩
              · exact o3.elim
            | true =>
              refine iteT ?_
              refine ⟨as5, D :: rs, e1, h2, r5, q5.ext x5, ?_⟩
              have o3 : out G as1 (D :: rs) H1 (((melt e1 h2).bind fun x h3 => R.ok (some x) h3).bind fun o h1 => if gdOk g h1 then match o with
                | some x => if acc.length < LIM then lcL (lcS tgt mcs melt (wipeU e own)) g (us.drop (i + 1)) (acc ++ [x]) h1 else .bad
                | none => lcL (lcS tgt mcs melt (wipeU e own)) g (us.drop (i + 1)) acc h1
                else .bad) kf := o2
              cases hm : melt e1 h2 with
              | bad => rw [hm] at o3; exact o3.elim
              | exc _ _ _ => rw [hm] at o3; exact o3.elim
              | ok x h3 =>
                rw [hm] at o3
                intro as6 H6 x7 r6 v rv
                have o4 : out G as1 (D :: rs) H1 (if gdOk g h3 then if acc.length < LIM then lcL (lcS tgt mcs melt (wipeU e own)) g (us.drop (i + 1)) (acc ++ [x]) h3 else .bad else .bad) kf := o3
                have nD5 := (r5.rsv D List.mem_cons_self).1
                have hv6 : H6 D = some (.lst vacc) := (x7.keep D _ nD5 hv5).1
                have l6 : RL G as6 (D :: rs) H6 acc vacc := l5.ext x7
                split at o4
                · rename_i hg3
                  split at o4
                  · rename_i hz
                    have x8 : Ext as1 H1 as6 (L2.upd H6 D (.lst (vacc ++ [v]))) := ⟨(x6.trans x7).pre, fun p o n e => by
                      obtain ⟨k1, k2⟩ := (x6.trans x7).keep p o n e
                      exact ⟨by rw [upd_ne (fun z => by rw [z, hD] at e; cases e)]; exact k1, k2⟩⟩
                    refine ⟨vacc, hv6, by rw [← l6.length, ← lim_line]; exact hz, as6, h3, acc ++ [x], vacc ++ [v], x8, r6.grow hv6, hg3, upd_same, (l6.append (.cons rv .nil)).grow hv6, o4⟩
                  · exact o4.elim
                · exact o4.elim
      · have e0 : i = us.length := by omega
        subst e0
        refine .inl ⟨w2, ?_⟩
        rw [List.drop_length] at o2
        exact o2 as' H' x2 r2 vacc hv l2
  · exact o1.elim
end
end TV

namespace TV
open PySem L2 PySem.Spec PyProof.Rows

section
variable {X : Cx} {G : Gam} {a b c tg iter elt : Expr} {es ifs : List Expr} {pos : Pos} {ma mb mc melt : Env' → OH → R U} {ml : Env' → OH → R (List U)} {mcs : Env' → OH → R Bool} {msrc : Env' → OH → R (List U × Gd)}
/-! ### comprehensions -/
def lcE (m : Bool) (tgt : Tg) (own : List Nat) (msrc : Env' → OH → R (List U × Gd)) (mcs : Env' → OH → R Bool) (melt : Env' → OH → R U) : Env' → OH → R U := fun e h => (msrc e h).bind fun p h1 => if gdOk p.2 h1 then
      (lcL (fun u hh => match tgE tgt u (wipeU e own) with
        | none => .bad
        | some e1 => (mcs e1 hh).bind fun b h2 => if b then (melt e1 h2).bind fun x h3 => .ok (some x) h3 else .ok none h2) p.2 p.1 [] h1).bind fun us h2 =>
        if m then .ok (.ref h2.length) (h2 ++ [.lst us]) else .ok (.fls us) h2
      else .bad
theorem e_lc {tgt : Tg} {scope : Scope} {own : List (Str × Nat)} {m : Bool} (hsl : ∀ i ∈ tgt.sl, i ∈ own.map (·.2)) (hc : X.calm = true) (hN : X.N.Nodup) (hi : PI X tg iter (tI G msrc)) (ok : BlkOk X.N X.env.scope scope own)
    (hg : ∀ (s : Shared) (H : Hp) (C : Addr) (cl : List (Str × Addr)) (fp : List Addr), PG (X.blk s H scope (compEnvC scope cl C X.env) fp) tg (tGt G tgt)) (ht : ∀ (s : Shared) (H : Hp) (C : Addr) (cl : List (Str × Addr)) (fp : List Addr), PTs (X.blk s H scope (compEnvC scope cl C X.env) fp) ifs (tCs G mcs))
    (he : ∀ (s : Shared) (H : Hp) (C : Addr) (cl : List (Str × Addr)) (fp : List Addr), PE (X.blk s H scope (compEnvC scope cl C X.env) fp) elt (tE G melt)) (hs : ∀ x, foldedSetIterable iter X.env x = pure x) :
    PE X (.ListComp elt [⟨tg, iter, ifs, 0⟩] scope pos) (tE G (lcE m tgt (own.map (·.2)) msrc mcs melt)) := pe_weak (pe_lc hc hN hi ok hg ht he hs) fun _ _ _ q => lc_w hsl q

/-! ### what a statement's result asks -/
def outS (G : Gam) (as rs : List Addr) (H : Hp) (r : RS) (D : Ends) : Prop := match r with
  | .nx e h => ∀ as' H', Ext as H as' H' → RH G as' rs H' h → ∀ σ, RSt G as' rs H' e σ → D.nx σ H'
  | .rt u h => ∀ as' H', Ext as H as' H' → RH G as' rs H' h → ∀ v, RU G as' rs H' u v → D.rt v H'
  | .bk e h => ∀ as' H', Ext as H as' H' → RH G as' rs H' h → ∀ σ, RSt G as' rs H' e σ → D.bk σ H'
  | .ct e h => ∀ as' H', Ext as H as' H' → RH G as' rs H' h → ∀ σ, RSt G as' rs H' e σ → D.ct σ H'
  | .exc _ _ _ _ => False
  | .bad => False
theorem outS_ext {as rs as' : List Addr} {H H' : Hp} {r : RS} {D : Ends} (x : Ext as H as' H') (o : outS G as rs H r D) : outS G as' rs H' r D := by
  cases r with
  | nx e h => exact fun as2 H2 y q => o as2 H2 (x.trans y) q
  | rt u h => exact fun as2 H2 y q => o as2 H2 (x.trans y) q
  | bk e h => exact fun as2 H2 y q => o as2 H2 (x.trans y) q
  | ct e h => exact fun as2 H2 y q => o as2 H2 (x.trans y) q
  | exc c us e h => exact o
  | bad => exact o
theorem outS_bind {α : Type} {as rs : List Addr} {H : Hp} {m : R α} {e : Env'} {f : α → OH → RS} {D : Ends} (o : outS G as rs H (m.bindS e f) D) : out G as rs H m fun as1 H1 a h1 => outS G as1 rs H1 (f a h1) D := by
  cases m with
  | ok a h' => exact fun as1 H1 x q => outS_ext x (show outS G as rs H (f a h') D from o)
  | exc c us h' => exact o
  | bad => exact o
def tS (G : Gam) (m : Env' → OH → RS) : TS := fun D σ H => ∃ as rs e h, RH G as rs H h ∧ RSt G as rs H e σ ∧ outS G as rs H (m e h) D
variable {st : Stmt} {sts : List Stmt} {ms ms' : Env' → OH → RS}
theorem ss_nil : PSs X [] (tS G fun e h => .nx e h) := by
  refine pss_weak pss_nil ?_
  rintro D σ H ⟨as, rs, e, h, r, q, o⟩
  exact o as H .refl r σ q
theorem ss_cons (h1 : PS X st (tS G ms)) (h2 : PSs X sts (tS G ms')) : PSs X (st :: sts) (tS G fun e h => (ms e h).then fun e1 h1 => ms' e1 h1) := by
  refine pss_weak (pss_cons h1 h2) ?_
  rintro D σ H ⟨as, rs, e, h, r, q, o⟩
  refine ⟨as, rs, e, h, r, q, ?_⟩
  dsimp only at o
  revert o
  cases ms e h with
  | nx e1 h1 => exact fun o as1 H1 x r1 σ1 q1 => ⟨as1, rs, e1, h1, r1, q1, outS_ext x o⟩
  | rt u h => exact fun o => o
  | bk e h => exact fun o => o
  | ct e h => exact fun o => o
  | exc c us e h => exact fun o => o
  | bad => exact fun o => o
theorem s_ret (ha : PE X a (tE G ma)) : PS X (.Return (some a) pos) (tS G fun e h => (ma e h).bindS e fun u h1 => .rt u h1) := by
  refine ps_weak (ps_ret ha) ?_
  rintro D σ H ⟨as, rs, e, h, r, q, o⟩
  exact ⟨as, rs, e, h, r, q, out_mono (outS_bind o) fun as1 H1 u h1 x r1 o1 v rv => o1 as1 H1 .refl r1 v rv⟩
theorem s_retN : PS X (.Return none pos) (tS G fun _ h => .rt .non h) := by
  refine ps_weak ps_retN ?_
  rintro D σ H ⟨as, rs, e, h, r, q, o⟩
  exact o as H .refl r _ .non
theorem s_ex (ha : PE X a (tE G ma)) (hs : swapsWith a none pos.line X.env = pure false) : PS X (.Expr a pos) (tS G fun e h => (ma e h).bindS e fun _ h1 => .nx e h1) := by
  refine ps_weak (ps_expr ha hs) ?_
  rintro D σ H ⟨as, rs, e, h, r, q, o⟩
  exact ⟨as, rs, e, h, r, q, out_mono (outS_bind o) fun as1 H1 u h1 x r1 o1 v rv => o1 as1 H1 .refl r1 σ (q.ext x)⟩
theorem s_doc {x : Str} {j : Nat} {p2 : Pos} : PS X (.Expr (.Constant (.str x) j p2) pos) (tS G fun e h => .nx e h) := by
  refine ps_weak ps_doc ?_
  rintro D σ H ⟨as, rs, e, h, r, q, o⟩
  exact o as H .refl r σ q
theorem s_pass : PS X (.Pass pos) (tS G fun e h => .nx e h) := by
  refine ps_weak ps_pass ?_
  rintro D σ H ⟨as, rs, e, h, r, q, o⟩
  exact o as H .refl r σ q
theorem s_brk : PS X (.Break pos) (tS G fun e h => .bk e h) := by
  refine ps_weak ps_break ?_
  rintro D σ H ⟨as, rs, e, h, r, q, o⟩
  exact o as H .refl r σ q
theorem s_cnt : PS X (.Continue pos) (tS G fun e h => .ct e h) := by
  refine ps_weak ps_continue ?_
  rintro D σ H ⟨as, rs, e, h, r, q, o⟩
  exact o as H .refl r σ q
theorem s_never : PS X st (tS G fun _ _ => .bad) := by
  refine ps_weak ps_never ?_
  rintro D σ H ⟨as, rs, e, h, r, q, o⟩
  exact o.elim
theorem ifeS {as rs : List Addr} {H : Hp} {h : OH} {x : U} {A B : RS} {D : Ends} (o : outS G as rs H (match truO h x with
    | none => .bad
    | some true => A
    | some false => B) D) : ∃ b, truO h x = some b ∧ if b = true then outS G as rs H A D else outS G as rs H B D := by
  split at o
  · exact o.elim
  · rename_i e; exact ⟨true, e, o⟩
  · rename_i e; exact ⟨false, e, o⟩
theorem s_if {A B : List Stmt} (hc : PT X c (tT G mc)) (ha : PSs X A (tS G ms)) (hb : PSs X B (tS G ms')) : PS X (.If c A B pos) (tS G fun e h => (mc e h).bindS e fun x h1 => match truO h1 x with
    | none => .bad
    | some true => ms e h1
    | some false => ms' e h1) := by
  refine ps_weak (ps_if hc ha hb) ?_
  rintro D σ H ⟨as, rs, e, h, r, q, o⟩
  refine ⟨as, rs, e, h, r, q, out_mono (outS_bind o) fun as1 H1 x h1 x1 r1 o1 => ?_⟩
  obtain ⟨k, e1, q1⟩ := ifeS o1
  refine ⟨k, e1, ?_⟩
  cases k with
  | true => exact ⟨as1, rs, e, h1, r1, q.ext x1, q1⟩
  | false => exact ⟨as1, rs, e, h1, r1, q.ext x1, q1⟩

/-! ### targets -/
def tTt (G : Gam) (m : U → Env' → OH → R Env') : TG := fun v σ H Q => ∃ as rs e u h, RH G as rs H h ∧ RSt G as rs H e σ ∧ RU G as rs H u v ∧ out G as rs H (m u e h) fun as' H' e' _ => ∀ σ', RSt G as' rs H' e' σ' → Q σ' H'
def tTts (G : Gam) (m : List U → Env' → OH → R Env') : TGs := fun v σ H Q => ∃ as rs e u h, RH G as rs H h ∧ RSt G as rs H e σ ∧ RL G as rs H u v ∧ out G as rs H (m u e h) fun as' H' e' _ => ∀ σ', RSt G as' rs H' e' σ' → Q σ' H'
theorem tt_name {i : Nat} {x : Str} (hN : X.N.Nodup) (hi : X.N[i]? = some x) (hx : Loc X.env.scope x) (hf : X.fn x = true ∨ X.env.scope.names.lookup x = some .local) : PG X (.Name x pos) (tTt G fun u e h => if i < e.length then .ok (e.set i (some u)) h else .bad) := by
  refine pg_weak (pg_name hN hi hx hf) ?_
  rintro v σ H Q ⟨as, rs, e, u, h, r, q, ru, o⟩
  dsimp only at o
  split at o
  · exact out_now o r _ (q.set i ru)
  · exact o.elim
def rSt (G : Gam) : TSet := fun o i v H Q => ∃ as rs h uo ui uv h3, RH G as rs H h ∧ RU G as rs H uo o ∧ RU G as rs H ui i ∧ RU G as rs H uv v ∧ stE uo ui uv h = some h3 ∧ ∀ H3, Ext as H as H3 → RH G as rs H3 h3 → Q H3
theorem putm_ok {as rs : List Addr} {H : Hp} (k : Key) {u : U} {v : V} (ru : RU G as rs H u v) {kvs : List (Key × U)} {kv : List (Key × V)} (l : RP G as rs H kvs kv) : RP G as rs H (kvs.map fun kv => if kv.1 = k then (kv.1, u) else kv) (kv.map fun kv => if kv.1 = k then (kv.1, v) else kv) := by
  induction l with
  | nil => exact .nil
  | @cons p q ps qs r l ih =>
    rw [List.map_cons, List.map_cons]
    refine .cons ?_ ih
    rw [r.1]
    split
    · exact ⟨rfl, ru⟩
    · exact ⟨r.1, r.2⟩
theorem RP.snoc {as rs : List Addr} {H : Hp} (k : Key) {u : U} {v : V} (ru : RU G as rs H u v) {kvs : List (Key × U)} {kv : List (Key × V)} (l : RP G as rs H kvs kv) : RP G as rs H (kvs ++ [(k, u)]) (kv ++ [(k, v)]) := by
  induction l with
  | nil => exact .cons ⟨rfl, ru⟩ .nil
  | cons r l ih => exact .cons r ih
theorem RP.any {as rs : List Addr} {H : Hp} (k : Key) {kvs : List (Key × U)} {kv : List (Key × V)} (l : RP G as rs H kvs kv) : (kvs.any fun kv => decide (kv.1 = k)) = (kv.any fun kv => decide (kv.1 = k)) := by
  induction l with
  | nil => rfl
  | cons r l ih => simp only [List.any_cons, r.1, ih]
theorem putU_ok {as rs : List Addr} {H : Hp} {kvs : List (Key × U)} {kv : List (Key × V)} (l : RP G as rs H kvs kv) (k : Key) {u : U} {v : V} (ru : RU G as rs H u v) : RP G as rs H (putU kvs k u) (putK kv k v) := by
  unfold putU putK
  rw [← RP.any k l]
  split
  · exact putm_ok k ru l
  · exact RP.snoc k ru l
theorem RP.length {κ : Type} {as rs : List Addr} {H : Hp} {k : List (κ × U)} {l : List (κ × V)} (r : RP G as rs H k l) : k.length = l.length := Paired.length r
theorem stE_ok (hu : X.A.units + 1 < cLine) : PSet X (rSt G) := by
  rintro pins s σ H o i v ov iv u Q I ro ri rv ⟨as, rs, h, uo, ui, uv, h3, r, qo, qi, qv, e, q⟩
  unfold stE at e
  split at e
  · rename_i n
    cases qo with
    | ref ea =>
      split at e
      · rename_i us hx
        obtain ⟨b, eb, vs, hb, l⟩ := r.ob _ _ hx
        rw [ea] at eb; cases eb
        split at e
        · rename_i k
          cases qi
          split at e
          · rename_i j hj
            cases e
            refine set_list pins s σ H _ _ v ov iv u Q I ro ri rv ⟨_, vs, k, j, rfl, rfl, hb, by rw [← l.length]; exact hj, ?_⟩
            have x1 := Ext.upd (H := H) (o := .lst (vs.set j v)) (List.mem_of_getElem? ea)
            exact q _ x1 (r.upd (o := .lst (vs.set j v)) (o' := .lst (us.set j uv)) ea True.intro ⟨_, upd_same, (l.ext x1).set (qv.ext x1) j⟩)
          · cases e
        · cases e
      · rename_i kvs hx
        obtain ⟨b, eb, kv, hb, l⟩ := r.ob _ _ hx
        rw [ea] at eb; cases eb
        split at e
        · rename_i k hk
          split at e
          · rename_i hz
            cases e
            have ek := key_ok qi hk
            subst ek
            have x1 := Ext.upd (H := H) (o := .dK (putK kv k v)) (List.mem_of_getElem? ea)
            exact set_dict hu pins s σ H _ _ v ov iv u Q I ro ri rv ⟨_, _, rfl, DPut.k hb (by rw [← RP.length l, ← lim_line]; exact hz), q _ x1 (r.upd (o := .dK (putK kv k v)) (o' := .dct (putU kvs k uv)) ea True.intro ⟨_, upd_same, putU_ok (RP.ext x1 l) k (qv.ext x1)⟩)⟩
          · cases e
        · cases e
      · cases e
  · cases e
theorem tt_sub {o i : Expr} {mo mi : Env' → OH → R U} (hu : X.A.units + 1 < cLine) (ho : PE X o (tE G mo)) (hi : PE X i (tE G mi))
    (ha : ∀ v, assign (.Subscript o i pos) X.env v = (do
      let ov ← holding [v] (eval o X.env)
      let iv ← holding [v, ov] (eval i X.env)
      standAt pos
      holding [v, ov, iv] (setItem ov iv v)
      release [v, ov, iv] [])) : PG X (.Subscript o i pos) (tTt G fun u e h => (mo e h).bind fun x h1 => (mi e h1).bind fun y h2 => match stE x y u h2 with
    | some h3 => .ok e h3
    | none => .bad) := by
  refine pg_weak (pg_sub ho hi (stE_ok (G := G) hu) ha) ?_
  rintro v σ H Q ⟨as, rs, e, u, h, r, q, ru, o⟩
  refine ⟨as, rs, e, h, r, q, out_mono (out_bind o) fun as1 H1 x h1 x1 r1 o1 ov rv => ⟨as1, rs, e, h1, r1, q.ext x1, out_mono (out_bind o1) fun as2 H2 y h2 x2 r2 o2 iv rw' => ?_⟩⟩
  split at o2
  · rename_i h3 e3
    exact ⟨as2, rs, h2, x, y, u, h3, r2, rv.ext x2, rw', (ru.ext x1).ext x2, e3, fun H3 x3 r3 => o2 as2 H3 x3 r3 σ (((q.ext x1).ext x2).ext x3)⟩
  · exact o2.elim
theorem tts_nil : PGs X [] (tTts G fun us e h => match us with
    | [] => .ok e h
    | _ => .bad) := by
  refine pgs_weak pgs_nil ?_
  rintro v σ H Q ⟨as, rs, e, u, h, r, q, ru, o⟩
  cases ru with
  | nil => exact ⟨rfl, out_now o r σ q⟩
  | cons _ _ => exact o.elim
theorem tts_cons {m1 : U → Env' → OH → R Env'} {m2 : List U → Env' → OH → R Env'} (h1 : PG X a (tTt G m1)) (h2 : PGs X es (tTts G m2)) (hs : (assignEach (a :: es) X.env).map (·.2) = assign a X.env :: (assignEach es X.env).map (·.2)) : PGs X (a :: es) (tTts G fun us e h => match us with
    | [] => .bad
    | u :: us => (m1 u e h).bind fun e1 h1 => m2 us e1 h1) := by
  refine pgs_weak (pgs_cons h1 h2 hs) ?_
  rintro vs σ H Q ⟨as, rs, e, us, h, r, q, ru, o⟩
  cases ru with
  | nil => exact o.elim
  | @cons u v us vs r1 rl =>
    exact ⟨v, vs, rfl, as, rs, e, u, h, r, q, r1, out_mono (out_bind o) fun as1 H1 e1 h1 x1 q1 o1 σ1 s1 => ⟨as1, rs, e1, us, h1, q1, s1, rl.ext x1, o1⟩⟩
/-- a tuple of targets; n of them -/
theorem tt_tup {m : List U → Env' → OH → R Env'} {n k : Nat} (hK : G.K = X.K) (hc : X.calm = true) (hg : PGs X es (tTts G m)) (hn : (assignEach es X.env).length = n) (hst : (assignEach es X.env).findIdx? (·.1) = none) : PG X (.Tuple es k pos) (tTt G fun u e h => match u with
    | .tup us => if us.length = n then m us e h else .bad
    | _ => .bad) := by
  refine pg_weak (pg_tup hc hg hn hst) ?_
  rintro v σ H Q ⟨as, rs, e, u, h, r, q, ru, o⟩
  cases u with
  | tup us =>
    obtain ⟨p, vs, rfl, hp, l⟩ := tup_ok ru
    dsimp only at o
    split at o
    · rename_i hl
      exact ⟨p, vs, rfl, by rw [← hK]; exact hp, by rw [← l.length]; exact hl, as, rs, e, us, h, r, q, l, o⟩
    · exact o.elim
  | _ => exact o.elim
theorem s_asg {mt : U → Env' → OH → R Env'} (he : PE X a (tE G ma)) (hg : PG X tg (tTt G mt)) (hs : swapsWithSole [tg] a pos.line X.env = pure false) (hw : swappedStores [tg] a X.env = pure none) (h1 : (assignEach [tg] X.env).map (·.2) = [assign tg X.env]) :
    PS X (.Assign [tg] a pos) (tS G fun e h => (ma e h).bindS e fun u h1 => (mt u e h1).bindS e fun e2 h2 => .nx e2 h2) := by
  refine ps_weak (ps_asg he hg hs hw h1) ?_
  rintro D σ H ⟨as, rs, e, h, r, q, o⟩
  exact ⟨as, rs, e, h, r, q, out_mono (outS_bind o) fun as1 H1 u h1 x1 r1 o1 v rv => ⟨as1, rs, e, u, h1, r1, q.ext x1, rv, out_mono (outS_bind o1) fun as2 H2 e2 h2 x2 r2 o2 σ' q' => o2 as2 H2 .refl r2 σ' q'⟩⟩
/-- name = a comprehension, on one line -/
theorem s_setLc {i : Nat} {y : Str} {py spos : Pos} {tgt : Tg} {scope : Scope} {own : List (Str × Nat)} {m : Bool} (hy : X.N[i]? = some y) (hyl : X.env.scope.names.lookup y = some .local)
    (hsw : swapsWith (.ListComp elt [⟨tg, iter, ifs, 0⟩] scope pos) (some (.Name y py)) spos.line X.env = pure true) (hsl : ∀ i ∈ tgt.sl, i ∈ own.map (·.2)) (hc : X.calm = true) (hN : X.N.Nodup) (hi : PI X tg iter (tI G msrc)) (ok : BlkOk X.N X.env.scope scope own)
    (hg : ∀ (s : Shared) (H : Hp) (C : Addr) (cl : List (Str × Addr)) (fp : List Addr), PG (X.blk s H scope (compEnvC scope cl C X.env) fp) tg (tGt G tgt)) (ht : ∀ (s : Shared) (H : Hp) (C : Addr) (cl : List (Str × Addr)) (fp : List Addr), PTs (X.blk s H scope (compEnvC scope cl C X.env) fp) ifs (tCs G mcs))
    (he : ∀ (s : Shared) (H : Hp) (C : Addr) (cl : List (Str × Addr)) (fp : List Addr), PE (X.blk s H scope (compEnvC scope cl C X.env) fp) elt (tE G melt)) (hs : ∀ x, foldedSetIterable iter X.env x = pure x) :
    PS X (.Assign [.Name y py] (.ListComp elt [⟨tg, iter, ifs, 0⟩] scope pos) spos) (tS G fun e h => (lcE m tgt (own.map (·.2)) msrc mcs melt e h).bindS e fun u h1 => (if i < e.length then R.ok (e.set i (some u)) h1 else .bad).bindS e fun e2 h2 => .nx e2 h2) := by
  refine ps_weak (ps_setLc hc hN hy hyl hsw hi ok hg ht he hs) ?_
  rintro D σ H ⟨as, rs, e, h, r, q, o⟩
  refine lc_w hsl ⟨as, rs, e, h, r, q, out_mono (outS_bind o) fun as1 H1 u h1 x1 r1 o1 v rv => ?_⟩
  split at o1
  · exact o1 as1 H1 .refl r1 _ ((q.ext x1).set i rv)
  · exact o1.elim
/-! ### a, b = x, y with plain local names -/
theorem setAll2 {i j : Nat} {us : List U} {e e' : Env'} (h : setAll [i, j] us e = some e') : ∃ u v, us = [u, v] ∧ e' = (e.set i (some u)).set j (some v) := by
  cases us with
  | nil => simp [setAll] at h
  | cons u us =>
    simp only [setAll] at h
    split at h
    · cases us with
      | nil => simp [setAll] at h
      | cons v us =>
        simp only [setAll] at h
        split at h
        · cases us with
          | nil => simp only [setAll, Option.some.injEq] at h; exact ⟨u, v, rfl, h.symm⟩
          | cons _ _ => simp [setAll] at h
        · cases h
    · cases h
theorem setAll3 {i j l : Nat} {us : List U} {e e' : Env'} (h : setAll [i, j, l] us e = some e') : ∃ u v w, us = [u, v, w] ∧ e' = ((e.set i (some u)).set j (some v)).set l (some w) := by
  cases us with
  | nil => simp [setAll] at h
  | cons u us =>
    unfold setAll at h
    split at h
    · obtain ⟨v, w, rfl, rfl⟩ := setAll2 h
      exact ⟨u, v, w, rfl, rfl⟩
    · cases h
theorem s_par {i j : Nat} {x y : Str} {px py pt : Pos} {kt k2 pt2} (hc : X.calm = true) (hN : X.N.Nodup) (hi : X.N[i]? = some x) (hj : X.N[j]? = some y) (hij : i ≠ j)
    (hx : X.env.scope.names.lookup x = some .local) (hy : X.env.scope.names.lookup y = some .local) (ha : PA X [a, b] (tA G ml))
    (hw : swappedStores [.Tuple [.Name x px, .Name y py] kt pt] (.Tuple [a, b] k2 pt2) X.env = pure (some [x, y]))
    (hs : swapsWithSole [.Tuple [.Name x px, .Name y py] kt pt] (.Tuple [a, b] k2 pt2) pos.line X.env = pure false) :
    PS X (.Assign [.Tuple [.Name x px, .Name y py] kt pt] (.Tuple [a, b] k2 pt2) pos) (tS G fun e h => (ml e h).bindS e fun us h1 => match setAll [i, j] us e with
      | some e1 => .nx e1 h1
      | none => .bad) := by
  refine ps_weak (ps_par hc hN hi hj hij hx hy ha hw hs) ?_
  rintro D σ H ⟨as, rs, e, h, r, q, o⟩
  refine ⟨as, rs, e, h, r, q, out_mono (outS_bind o) fun as1 H1 us h1 x1 r1 o1 vs rl => ?_⟩
  split at o1
  · rename_i e1 he
    obtain ⟨u, v, rfl, rfl⟩ := setAll2 he
    cases rl with
    | cons p1 rl =>
      cases rl with
      | cons p2 rl =>
        cases rl
        exact ⟨_, _, rfl, o1 as1 H1 .refl r1 _ (((q.ext x1).set i p1).set j p2)⟩
  · exact o1.elim
theorem s_par3 {i j l : Nat} {x y z : Str} {px py pz pt : Pos} {kt k2 pt2} (hc : X.calm = true) (hN : X.N.Nodup) (hi : X.N[i]? = some x) (hj : X.N[j]? = some y) (hl : X.N[l]? = some z) (hij : i ≠ j) (hil : i ≠ l) (hjl : j ≠ l)
    (hx : X.env.scope.names.lookup x = some .local) (hy : X.env.scope.names.lookup y = some .local) (hz : X.env.scope.names.lookup z = some .local) (ha : PA X [a, b, c] (tA G ml))
    (hw : swappedStores [.Tuple [.Name x px, .Name y py, .Name z pz] kt pt] (.Tuple [a, b, c] k2 pt2) X.env = pure (some [x, y, z]))
    (hs : swapsWithSole [.Tuple [.Name x px, .Name y py, .Name z pz] kt pt] (.Tuple [a, b, c] k2 pt2) pos.line X.env = pure false) :
    PS X (.Assign [.Tuple [.Name x px, .Name y py, .Name z pz] kt pt] (.Tuple [a, b, c] k2 pt2) pos) (tS G fun e h => (ml e h).bindS e fun us h1 => match setAll [i, j, l] us e with
      | some e1 => .nx e1 h1
      | none => .bad) := by
  refine ps_weak (ps_par3 hc hN hi hj hl hij hil hjl hx hy hz ha hw hs) ?_
  rintro D σ H ⟨as, rs, e, h, r, q, o⟩
  refine ⟨as, rs, e, h, r, q, out_mono (outS_bind o) fun as1 H1 us h1 x1 r1 o1 vs rl => ?_⟩
  split at o1
  · rename_i e1 he
    obtain ⟨u, v, w, rfl, rfl⟩ := setAll3 he
    cases rl with
    | cons p1 rl =>
      cases rl with
      | cons p2 rl =>
        cases rl with
        | cons p3 rl =>
          cases rl
          exact ⟨_, _, _, rfl, o1 as1 H1 .refl r1 _ ((((q.ext x1).set i p1).set j p2).set l p3)⟩
  · exact o1.elim
end
end TV

namespace TV
open PySem L2 PySem.Spec PyProof.Rows

section
variable {X : Cx} {G : Gam} {a b c tg iter : Expr} {es : List Expr} {pos : Pos} {ma mb mc : Env' → OH → R U} {ml : Env' → OH → R (List U)} {msrc : Env' → OH → R (List U × Gd)} {body : List Stmt} {mb' : Env' → OH → RS}
/-! ### loops -/
theorem for_w {tgt : Tg} {D : Ends} {σ : L2.St} {H : Hp} (t : tS G (fun e h => (msrc e h).bindS e fun p h1 => if gdOk p.2 h1 then forL tgt mb' p.2 p.1 e h1 else .bad) D σ H) : tFor (tI G msrc) (tGt G tgt) (tS G mb') D σ H := by
  obtain ⟨as, rs, e, h, r, q, o⟩ := t
  refine ⟨as, rs, e, h, r, q, out_mono (outS_bind o) fun as1 H1 p h1 x1 r1 o1 => ?_⟩
  obtain ⟨us, g⟩ := p
  dsimp only at o1
  split at o1
  · rename_i hg1
    intro J wk
    refine ⟨fun i n σ' H' => n = us.length - i ∧ i ≤ us.length ∧ ∃ as' e' hc, Ext as1 H1 as' H' ∧ RH G as' rs H' hc ∧ gdOk g hc = true ∧ RSt G as' rs H' e' σ' ∧ outS G as1 rs H1 (forL tgt mb' g (us.drop i) e' hc) D,
      ⟨us.length, by simp, Nat.zero_le _, as1, e, h1, .refl, r1, hg1, q.ext x1, by simpa using o1⟩, ?_⟩
    rintro i n σ' H' ⟨rfl, hi, as', e', hc, x2, r2, hg2, q2, o2⟩
    obtain ⟨w1, w2⟩ := wk rs as' H' hc (fun p hp => .inr hp) x2 r2 hg2
    by_cases hlt : i < us.length
    · refine .inr ⟨(w1 i us[i] (List.getElem?_eq_getElem hlt)).1, fun σ5 H5 => ∃ as' e' hc, Ext as1 H1 as' H5 ∧ RH G as' rs H5 hc ∧ gdOk g hc = true ∧ RSt G as' rs H5 e' σ5 ∧ outS G as1 rs H1 (forL tgt mb' g (us.drop (i + 1)) e' hc) D,
        fun σ5 H5 n5 => ⟨us.length - (i + 1), by omega, rfl, hlt, n5⟩, fun y H2 hy => ?_⟩
      obtain ⟨x3, r3, ry⟩ := (w1 i us[i] (List.getElem?_eq_getElem hlt)).2 y H2 hy
      have x4 : Ext as1 H1 as' H2 := x2.trans x3
      rw [List.drop_eq_getElem_cons hlt] at o2
      unfold forL at o2
      cases ht : tgE tgt us[i] e' with
      | none => rw [ht] at o2; exact o2.elim
      | some e1 =>
        rw [ht] at o2
        dsimp only at o2
        refine ⟨as', rs, e', us[i], hc, e1, r3, q2.ext x3, ry, ht, fun σ2 q5 _ => ⟨as', rs, e1, hc, r3, q5, ?_⟩⟩
        cases hb : mb' e1 hc with
        | bad => rw [hb] at o2; exact o2.elim
        | exc _ _ _ _ => rw [hb] at o2; exact o2.elim
        | nx e2 h2 =>
          rw [hb] at o2
          dsimp only at o2
          split at o2
          · rename_i hg3
            exact fun as5 H5 x5 r5 σ5 q5 => ⟨as5, e2, h2, x4.trans x5, r5, hg3, q5, o2⟩
          · exact o2.elim
        | ct e2 h2 =>
          rw [hb] at o2
          dsimp only at o2
          split at o2
          · rename_i hg3
            exact fun as5 H5 x5 r5 σ5 q5 => ⟨as5, e2, h2, x4.trans x5, r5, hg3, q5, o2⟩
          · exact o2.elim
        | bk e2 h2 => rw [hb] at o2; exact fun as5 H5 x5 r5 σ5 q5 => o2 as5 H5 (x4.trans x5) r5 σ5 q5
        | rt u h2 => rw [hb] at o2; exact fun as5 H5 x5 r5 v rv => o2 as5 H5 (x4.trans x5) r5 v rv
    · have e0 : i = us.length := by omega
      subst e0
      refine .inl ⟨w2, ?_⟩
      rw [List.drop_length] at o2
      exact o2 as' H' x2 r2 σ' q2
  · exact o1.elim
theorem s_for {tgt : Tg} (hp : PassesOwn (model X.prog X.w) X.A X.env X.xe) (hc : X.calm = true) (hi : PI X tg iter (tI G msrc)) (hg : PG X tg (tGt G tgt)) (hb : PSs X body (tS G mb')) (hs : ∀ x, foldedSetIterable iter X.env x = pure x) :
    PS X (.For tg iter body [] pos) (tS G fun e h => (msrc e h).bindS e fun p h1 => if gdOk p.2 h1 then forL tgt mb' p.2 p.1 e h1 else .bad) := ps_weak (ps_for hp hc hi hg hb hs) fun _ _ _ t => for_w t
theorem s_whl (fu : Nat) (hp : PassesOwn (model X.prog X.w) X.A X.env X.xe) (hc : PT X c (tT G mc)) (hb : PSs X body (tS G mb')) : PS X (.While c body [] pos) (tS G fun e h => whlL mc mb' fu e h) := by
  refine ps_weak (ps_while hp hc hb) ?_
  rintro D σ H ⟨as, rs, e, h, r, q, o⟩
  refine ⟨fun m σ' H' => ∃ as' e' hc, Ext as H as' H' ∧ RH G as' rs H' hc ∧ RSt G as' rs H' e' σ' ∧ outS G as rs H (whlL mc mb' m e' hc) D, ⟨fu, as, e, h, .refl, r, q, o⟩, ?_⟩
  rintro m σ' H' ⟨as', e', hc', x2, r2, q2, o2⟩
  cases m with
  | zero => exact o2.elim
  | succ m =>
    unfold whlL at o2
    refine ⟨as', rs, e', hc', r2, q2, ?_⟩
    cases hm : mc e' hc' with
    | bad => rw [hm] at o2; exact o2.elim
    | exc _ _ _ => rw [hm] at o2; exact o2.elim
    | ok u h3 =>
      rw [hm] at o2
      intro as3 H3 x3 r3
      have x4 := x2.trans x3
      have o3 : outS G as rs H (match truO h3 u with
        | none => .bad
        | some false => .nx e' h3
        | some true => match mb' e' h3 with
          | .nx e2 h2 => whlL mc mb' m e2 h2
          | .ct e2 h2 => whlL mc mb' m e2 h2
          | .bk e2 h2 => .nx e2 h2
          | .rt u h2 => .rt u h2
          | .exc c us e2 h2 => .exc c us e2 h2
          | .bad => .bad) D := o2
      split at o3
      · exact o3.elim
      · rename_i e3
        exact ⟨false, e3, iteF (o3 as3 H3 x4 r3 σ' (q2.ext x3))⟩
      · rename_i e3
        refine ⟨true, e3, iteT ⟨fun σ5 H5 => ∃ as' e' hc, Ext as H as' H5 ∧ RH G as' rs H5 hc ∧ RSt G as' rs H5 e' σ5 ∧ outS G as rs H (whlL mc mb' m e' hc) D, fun σ5 H5 n5 => ⟨m, Nat.lt_succ_self m, n5⟩, as3, rs, e', h3, r3, q2.ext x3, ?_⟩⟩
        cases hb : mb' e' h3 with
        | bad => rw [hb] at o3; exact o3.elim
        | exc _ _ _ _ => rw [hb] at o3; exact o3.elim
        | nx e2 h2 => rw [hb] at o3; exact fun as5 H5 x5 r5 σ5 q5 => ⟨as5, e2, h2, x4.trans x5, r5, q5, o3⟩
        | ct e2 h2 => rw [hb] at o3; exact fun as5 H5 x5 r5 σ5 q5 => ⟨as5, e2, h2, x4.trans x5, r5, q5, o3⟩
        | bk e2 h2 => rw [hb] at o3; exact fun as5 H5 x5 r5 σ5 q5 => o3 as5 H5 (x4.trans x5) r5 σ5 q5
        | rt u h2 => rw [hb] at o3; exact fun as5 H5 x5 r5 v rv => o3 as5 H5 (x4.trans x5) r5 v rv
/-! ### a display of a dict -/
def DPr (X : Cx) (G : Gam) (pos : Pos) (keys : List (Option Expr)) (values : List Expr) (ks : List Key) (ml : Env' → OH → R (List U)) : Prop :=
  ∃ trs, PPs X pos keys values trs ∧ keys.length = ks.length ∧ values.length = ks.length ∧ keys.all (·.isSome) = true ∧ ∀ as rs e h σ H Q, RH G as rs H h → RSt G as rs H e σ → out G as rs H (ml e h) (fun as' H' us _ => us.length = ks.length → ∀ kv, RP G as' rs H' (ks.zip us) kv → Q (kv.map fun p => (kV p.1, p.2)) H') → tPairs trs σ H Q
theorem keyO_kU : ∀ k : Key, keyO (kU k) = some k
  | .inl _ => rfl
  | .inr _ => rfl
theorem d_nil : DPr X G pos [] [] [] (fun _ h => .ok [] h) := ⟨[], pps_nil, rfl, rfl, rfl, fun as rs e h σ H Q r q o => out_now o r rfl [] .nil⟩
theorem d_cons {k v : Expr} {keys : List (Option Expr)} {values : List Expr} {kk : Key} {ks : List Key} (hk : PE X k (tE G fun _ h => .ok (kU kk) h)) (hv : PE X v (tE G ma)) (hr : DPr X G pos keys values ks ml) :
    DPr X G pos (some k :: keys) (v :: values) (kk :: ks) (fun e h => (ma e h).bind fun u h1 => (ml e h1).bind fun us h2 => .ok (u :: us) h2) := by
  obtain ⟨trs, hp, l1, l2, l3, w⟩ := hr
  refine ⟨_, pps_cons hk hv hp, by rw [List.length_cons, List.length_cons, l1], by rw [List.length_cons, List.length_cons, l2], by rw [List.all_cons, l3]; rfl, fun as rs e h σ H Q r q o => ?_⟩
  refine ⟨as, rs, e, h, r, q, fun as1 H1 x1 r1 kv rk => ?_⟩
  have ek : kv = kV kk := key_ok rk (keyO_kU kk)
  subst ek
  refine ⟨as1, rs, e, h, r1, q.ext x1, out_mono (out_bind (out_ext x1 o)) fun as2 H2 u h2 x2 r2 o2 v rv => ?_⟩
  refine w as2 rs e h2 σ H2 _ r2 ((q.ext x1).ext x2) (out_mono (out_bind o2) fun as3 H3 us h3 x3 r3 o3 hl kv rp => ?_)
  exact out_now o3 r3 (by rw [List.length_cons, List.length_cons, hl]) ((kk, v) :: kv) (.cons ⟨rfl, rv.ext x3⟩ rp)
section
variable {as rs : List Addr} {H : Hp} {h : OH} {D : Addr}
mutual
theorem RU.adoptD {o : HO} (hD : H D = some (.dK [])) : ∀ {u : U} {v : V}, RU G as rs H u v → RU G (as ++ [D]) rs (L2.upd H D o) u v
  | _, _, .non => .non
  | _, _, .bl b => .bl b
  | _, _, .int i => .int i
  | _, _, .str s => .str s
  | _, _, .tupH n ⟨o, r, c⟩ l => .tupH (fun z => (List.mem_append.mp z).elim n fun z => by
      rw [List.mem_singleton] at z
      rw [z, hD] at r; cases r) ⟨o, by rw [upd_ne (fun z => by rw [z, hD] at r; cases r)]; exact r, c⟩ (RL.adoptD hD l)
  | _, _, .tupK r l => .tupK r (RL.adoptD hD l)
  | _, _, .fls n m r l => .fls (fun z => (List.mem_append.mp z).elim n fun z => by
      rw [List.mem_singleton] at z
      rw [z, hD] at r; cases r) m (by rw [upd_ne (fun z => by rw [z, hD] at r; cases r)]; exact r) (RL.adoptD hD l)
  | _, _, .ref e => .ref (by rw [List.getElem?_append_left (List.getElem?_eq_some_iff.mp e).1]; exact e)
  | _, _, .rlsH n r => .rlsH (fun z => (List.mem_append.mp z).elim n fun z => by
      rw [List.mem_singleton] at z
      rw [z, hD] at r; cases r) (by rw [upd_ne (fun z => by rw [z, hD] at r; cases r)]; exact r)
  | _, _, .rlsK e => .rlsK e
theorem RL.adoptD {o : HO} (hD : H D = some (.dK [])) : ∀ {u : List U} {v : List V}, RL G as rs H u v → RL G (as ++ [D]) rs (L2.upd H D o) u v
  | _, _, .nil => .nil
  | _, _, .cons r l => .cons (RU.adoptD hD r) (RL.adoptD hD l)
end
theorem RH.adoptD {kvs : List (Key × U)} {kv : List (Key × V)} (r : RH G as rs H h) (nD : D ∉ as) (hD : H D = some (.dK [])) (l : RP G as rs H kvs kv) : RH G (as ++ [D]) rs (L2.upd H D (.dK kv)) (h ++ [.dct kvs]) := by
  have ne : ∀ a ∈ as, a ≠ D := fun a ha z => nD (by rw [← z]; exact ha)
  refine ⟨by simp [r.len], ?_, fun i o e => ?_, fun a ha => ?_, fun p hp => ?_⟩
  · rw [List.nodup_append]
    refine ⟨r.nd, by simp, fun a ha b hb => ?_⟩
    rw [List.mem_singleton] at hb
    rw [hb]; exact ne a ha
  · by_cases hi : i < h.length
    · rw [List.getElem?_append_left hi] at e
      obtain ⟨a, e1, q⟩ := r.ob i o e
      exact ⟨a, by rw [List.getElem?_append_left (by rw [r.len]; exact hi)]; exact e1, q.mapU (RU.adoptD hD) (RL.adoptD hD) (upd_ne (ne a (List.mem_of_getElem? e1)))⟩
    · rw [List.getElem?_append_right (by omega)] at e
      have hz : i - h.length = 0 := by
        have := (List.getElem?_eq_some_iff.mp e).1
        simp at this; omega
      rw [hz] at e
      have e' : OO.dct kvs = o := by simpa using e
      subst e'
      have hi' : i = as.length := by rw [r.len]; omega
      exact ⟨D, by rw [hi']; simp, kv, upd_same, Paired.mapP l fun _ _ z => ⟨z.1, z.2.adoptD hD⟩⟩
  · rcases List.mem_append.mp ha with ha | ha
    · obtain ⟨o, e, z⟩ := r.here a ha
      exact ⟨o, by rw [upd_ne (ne a ha)]; exact e, z⟩
    · rw [List.mem_singleton] at ha
      subst ha
      exact ⟨_, upd_same, plain_ne (o := .dK kv) True.intro⟩
  · obtain ⟨n, xs, e⟩ := r.rsv p hp
    refine ⟨fun z => (List.mem_append.mp z).elim n fun z => ?_, xs, ?_⟩
    · rw [List.mem_singleton] at z
      rw [z, hD] at e; cases e
    · rw [upd_ne (fun z => by rw [z, hD] at e; cases e)]; exact e
theorem merge_ok {more : List (Key × U)} {mv : List (Key × V)} (l : RP G as rs H more mv) : ∀ {kvs : List (Key × U)} {kv : List (Key × V)}, RP G as rs H kvs kv → RP G as rs H (more.foldl (fun acc kv => putU acc kv.1 kv.2) kvs) (mergeK kv mv) := by
  induction l with
  | nil => exact fun q => q
  | @cons p q ps qs r l ih =>
    intro kvs kv l0
    have z := putU_ok l0 q.1 r.2
    have e : RP G as rs H (putU kvs p.1 p.2) (putK kv q.1 q.2) := by rw [r.1]; exact z
    exact ih e
end
theorem rp_len {as rs : List Addr} {H : Hp} : ∀ {ks : List Key} {us : List U} {kv : List (Key × V)}, RP G as rs H (ks.zip us) kv → kv.length ≤ ks.length := fun {ks us kv} l => by
  rw [← RP.length l, List.length_zip]; omega
theorem ev_dct0 : PE X (.Dict [] [] pos) (tE G fun _ h => .ok (.ref h.length) (h ++ [.dct []])) := by
  refine pe_weak pe_dnewK ?_
  rintro σ H Q ⟨as, rs, e, h, r, q, o⟩ p hp
  exact o (as ++ [p]) _ (Ext.alloc r hp) (r.alloc (o := .dK []) hp True.intro ⟨[], upd_same, .nil⟩) _ (.ref (by rw [← r.len]; simp))
theorem ev_dct {keys : List (Option Expr)} {values : List Expr} {ks : List Key} (hd : DPr X G pos keys values ks ml) (h0 : keys ≠ []) (h15 : ks.length ≤ 15) : PE X (.Dict keys values pos) (tE G fun e h => (ml e h).bind fun us h1 => if us.length = ks.length ∧ ks.length ≤ 15 then .ok (.ref h1.length) (h1 ++ [.dct ((ks.zip us).foldl (fun acc kv => putU acc kv.1 kv.2) [])]) else .bad) := by
  obtain ⟨trs, hp, l1, l2, l3, w⟩ := hd
  refine pe_weak (pe_disp hp l3 (by rw [l1, l2]) h0 (by omega)) ?_
  rintro σ H Q ⟨as, rs, e, h, r, q, o⟩ p hp
  have x0 : Ext as H as (L2.upd H p (.dK [])) := Ext.new r hp
  dsimp only at o
  cases hm : ml e h with
  | bad => rw [hm] at o; exact o.elim
  | exc _ _ _ => rw [hm] at o; exact o.elim
  | ok us h1 =>
    rw [hm] at o
    have o1 : out G as rs H (if us.length = ks.length ∧ ks.length ≤ 15 then R.ok (U.ref h1.length) (h1 ++ [.dct ((ks.zip us).foldl (fun acc kv => putU acc kv.1 kv.2) [])]) else .bad) (kE G rs Q) := o
    split at o1
    · rename_i hl
      refine w as rs e h σ _ _ (r.new hp) (q.ext x0) ?_
      rw [hm]
      intro as1 H1 x1 r1 _ kv rp
      obtain ⟨k1, k2⟩ := x1.keep p _ (r.nin hp) upd_same
      refine ⟨k1, kv, rfl, by have := rp_len rp; omega, ?_⟩
      refine o1 (as1 ++ [p]) _ ⟨fun i a e => ?_, fun z u nz ez => ?_⟩ (r1.adoptD k2 k1 (merge_ok rp .nil)) _ (.ref (by rw [← r1.len]; simp))
      · have e1 := x1.pre i a e
        rw [List.getElem?_append_left (List.getElem?_eq_some_iff.mp e1).1]; exact e1
      · have ne : z ≠ p := ne_of_none ez hp
        obtain ⟨m1, m2⟩ := x1.keep z u nz (by rw [upd_ne ne]; exact ez)
        refine ⟨by rw [upd_ne ne]; exact m1, fun w => (List.mem_append.mp w).elim m2 fun w => ne (by simpa using w)⟩
    · exact o1.elim
/-! ### calls of the text's own defs -/
/-- what a def promises -/
def spEv (G : Gam) (f : List U → OH → R U) : Sp := fun vs H Q _ => ∃ as rs us h, RH G as rs H h ∧ RL G as rs H us vs ∧ out G as rs H (f us h) (kE G rs Q)
theorem e_call {k : Nat} {f : Addr} {fd : FuncData} {ps : List Str} {x : Str} {p : Pos} {cal : List U → OH → R U} (F : FnOk X.prog X.w X.K X.mg X.base CX0 k f fd ps (spEv G cal)) (hr : Room k X.A) (hg : Gl X x) (hm : X.mg x = some (.ref f)) (hk : PySem.W.keepIn X.K (.ref f) = true) (hb : Binds X.K fd ps [])
    (ha : PA X (a :: es) (tA G ml)) (hdb : (x == ("__debug__" : Str)) = false) (he : starEach (a :: es) X.env = (false, eval a X.env) :: starEach es X.env) (hpl : (backTo pos (starEach es X.env)).any (·.1) = false) :
    PE X (.Call (.Name x p) (a :: es) [] pos) (tE G fun e h => (ml e h).bind fun us h1 => cal us h1) := by
  refine pe_weak (pe_call (E := fun _ _ _ => False) F hr hg hm hk hb (dvs := []) .nil pass0 ha hdb he hpl) ?_
  rintro σ H Q ⟨as, rs, e, h, r, q, o⟩
  exact ⟨as, rs, e, h, r, q, out_mono (out_bind o) fun as1 H1 us h1 x1 r1 o1 vs rl => ⟨as1, rs, us, h1, r1, by rw [List.append_nil]; exact rl, o1⟩⟩
theorem e_call0 {k : Nat} {f : Addr} {fd : FuncData} {ps : List Str} {x : Str} {p : Pos} {cal : List U → OH → R U} (F : FnOk X.prog X.w X.K X.mg X.base CX0 k f fd ps (spEv G cal)) (hr : Room k X.A) (hg : Gl X x) (hm : X.mg x = some (.ref f)) (hk : PySem.W.keepIn X.K (.ref f) = true) (hb : Binds X.K fd ps [])
    (hdb : (x == ("__debug__" : Str)) = false) : PE X (.Call (.Name x p) [] [] pos) (tE G fun e h => cal [] h) := by
  refine pe_weak (pe_call0 (E := fun _ _ _ => False) F hr hg hm hk hb (dvs := []) .nil pass0 hdb) ?_
  rintro σ H Q ⟨as, rs, e, h, r, q, o⟩
  exact ⟨as, rs, [], h, r, .nil, o⟩
end
end TV

namespace TV
open PySem L2 PySem.Spec PyProof.Rows

/-! ### the text against the small language -/
structure Ck where
  N : List Str
  sc : Scope
  blk : Option Scope
  T : List Str
  B : List Str
def isStar : Expr → Bool
  | .Starred _ _ => true
  | _ => false
def isSlice : Expr → Bool
  | .Slice .. => true
  | _ => false
def isSet : Expr → Bool
  | .Set .. => true
  | _ => false
def isComp : Expr → Bool
  | .ListComp .. => true
  | .SetComp .. => true
  | .DictComp .. => true
  | _ => false
def plainBase : Expr → Bool
  | .Call (.Name _ _) [] [] _ => false
  | _ => true
def isVis : Option NameKind → Bool
  | some .local => true
  | some .cell => true
  | some .free => true
  | _ => false
def ckNm (c : Ck) (i : Nat) (x : Str) : Bool := decide (c.N[i]? = some x) && isVis (c.sc.names.lookup x) && !(x == "__debug__") && !(x == "__classdict__")
def ckGl (c : Ck) (x : Str) : Bool := decide (c.sc.names.lookup x = some .globalImplicit)
def ckB (c : Ck) (n x : Str) : Bool := decide (x = n) && ckGl c x && c.B.contains x
def ckLoc (c : Ck) (x : Str) : Bool := match c.sc.names.lookup x with
  | some .local => true
  | some .cell => match c.blk with
    | none => true
    | some s => s.names.lookup x == some .cell
  | _ => false
def ckK (u : U) (p : Expr) : Bool := match p with
  | .Constant k _ _ => match k, u with
    | .none, .non => true
    | .bool b, .bl b' => decide (b = b')
    | .int i, .int j => decide (i = j)
    | .str s, .str t => decide (s = t)
    | _, _ => false
  | _ => false
def biNm : Bi → Str
  | .len => "len" | .abs => "abs" | .int => "int" | .min2 => "min" | .max2 => "max" | .tuple => "tuple" | .list => "list" | .all => "all" | .any => "any" | .sum => "sum"
  | _ => ""
def isIns : Bi → Bool
  | .isInt => true | .isBool => true | .isTup => true | .isStr => true | _ => false
def biOk : Bi → Bool
  | .len => true | .abs => true | .int => true | .min2 => true | .max2 => true | .tuple => true | .list => true | .all => true | .any => true | .sum => true
  | _ => false
def mtNm : Mt → Str
  | .append => "append" | .extend => "extend" | .pop => "pop" | .popAt => "pop" | .index => "index"
def ownP (c : Ck) (own : List Nat) : List (Str × Nat) := own.map fun i => ((c.N[i]?).getD "", i)
theorem ownP_snd (c : Ck) (own : List Nat) : (ownP c own).map (·.2) = own := by
  unfold ownP
  rw [List.map_map]
  exact List.map_id' own
def Ck.sub (c : Ck) (scope : Scope) : Ck := { c with sc := relS scope c.sc, blk := some scope }
mutual
def ckTg : Tg → Ck → Expr → Bool
  | .nm i, c, p => match p with
    | .Name x _ => decide (c.N[i]? = some x) && ckLoc c x
    | _ => false
  | .tp ts, c, p => match p with
    | .Tuple ps _ _ => ckTgs ts c ps
    | _ => false
def ckTgs : List Tg → Ck → List Expr → Bool
  | [], _, [] => true
  | t :: ts, c, p :: ps => !isStar p && ckTg t c p && ckTgs ts c ps
  | _, _, _ => false
end
mutual
def ckE : E → Ck → Expr → Bool
  | .v i, c, p => match p with
    | .Name x _ => ckNm c i x
    | _ => false
  | .k u, _, p => ckK u p
  | .tup es, c, p => match p with
    | .Tuple ps _ _ => ckL es c ps
    | _ => false
  | .lst _ es, c, p => match p with
    | .List ps _ => ckL es c ps
    | _ => false
  | .bin _ op a b, c, p => match p with
    | .BinOp x o y _ => decide (o = pyOp op) && ckE a c x && ckE b c y
    | _ => false
  | .neg a, c, p => match p with
    | .UnaryOp .USub x _ => ckE a c x
    | _ => false
  | .nt a, c, p => match p with
    | .UnaryOp .Not x _ => ckE a c x
    | _ => false
  | .an es, c, p => match p with
    | .BoolOp .And ps _ => !es.isEmpty && ckL es c ps
    | _ => false
  | .or es, c, p => match p with
    | .BoolOp .Or ps _ => !es.isEmpty && ckL es c ps
    | _ => false
  | .cmp op a b, c, p => match p with
    | .Compare x [o] [y] _ => decide (o = pyCp op) && ckE a c x && ckE b c y && !isSet y
    | _ => false
  | .isn q a, c, p => match p with
    | .Compare x [o] [.Constant .none _ _] _ => decide (o = if q then .Is else .IsNot) && ckE a c x
    | _ => false
  | .chain op1 op2 a b d, c, p => match p with
    | .Compare x [o1, o2] [y, z] _ => decide (o1 = pyCp op1) && decide (o2 = pyCp op2) && ckE a c x && ckE b c y && ckE d c z && !isSet z
    | _ => false
  | .ife d a b, c, p => match p with
    | .IfExp x y z _ => ckE d c x && ckE a c y && ckE b c z
    | _ => false
  | .call f es, c, p => match p with
    | .Call (.Name x _) ps [] _ => decide (c.T[f]? = some x) && ckGl c x && !(x == "__debug__") && ckL es c ps
    | _ => false
  | .bi _ b es, c, p => match p with
    | .Call (.Name x _) ps [] _ => if isIns b then (match ps with
        | [q, .Name t _] => ckB c "isinstance" x && ckB c (tyN b) t && ckL es c [q]
        | _ => false) else biOk b && ckB c (biNm b) x && !ps.isEmpty && ckL es c ps
    | _ => false
  | .mth mt o es, c, p => match p with
    | .Call (.Attribute po name apos) ps [] cpos => decide (name = mtNm mt) && plainBase po && (apos.endLine == cpos.line) && decide (ps.length < 29) && ckE o c po && ckL es c ps
    | _ => false
  | .ix a i, c, p => match p with
    | .Subscript x y _ => !isSlice y && ckE a c x && ckE i c y
    | _ => false
  | .sl _ a lo hi, c, p => match p with
    | .Subscript x (.Slice l h none _) _ => ckE a c x && ckP lo c l && ckP hi c h
    | _ => false
  | .lc _ elt tg src cs own, c, p => match p with
    | .ListComp pe [⟨pt, pi, ifs, 0⟩] scope _ => blkC c.N c.sc scope (ownP c own) && (tg.sl.all fun i => own.contains i) && !isSet pi && ckSr src c pt pi && ckTg tg (c.sub scope) pt && ckCs cs (c.sub scope) ifs && ckE elt (c.sub scope) pe
    | _ => false
  | .dct ks es, c, p => match p with
    | .Dict keys values _ => decide (ks.length ≤ 15) && ckD es ks c keys values
    | _ => false
  | .fld _ _, _, _ => false
def ckL : List E → Ck → List Expr → Bool
  | [], _, ps => ps.isEmpty
  | a :: es, c, ps => match ps with
    | p :: ps => !isStar p && ckE a c p && ckL es c ps
    | [] => false
def ckD : List E → List Key → Ck → List (Option Expr) → List Expr → Bool
  | [], ks, _, keys, values => ks.isEmpty && keys.isEmpty && values.isEmpty
  | a :: es, ks, c, keys, values => match ks, keys, values with
    | k :: ks, some q :: keys, p :: values => ckK (kU k) q && ckE a c p && ckD es ks c keys values
    | _, _, _ => false
def ckP : List E → Ck → Option Expr → Bool
  | [], _, o => o.isNone
  | a :: es, c, o => es.isEmpty && (match o with
    | some p => ckE a c p
    | none => false)
def ckCs : List E → Ck → List Expr → Bool
  | [], _, ps => ps.isEmpty
  | a :: es, c, ps => es.isEmpty && (match ps with
    | [p] => ckE a c p
    | _ => false)
def ckSr : Sr → Ck → Expr → Expr → Bool
  | .sq e, c, _, p => ckE e c p
  | .r1 a, c, _, p => match p with
    | .Call (.Name x _) [q] [] _ => ckB c "range" x && !isStar q && ckE a c q
    | _ => false
  | .r2 a b, c, _, p => match p with
    | .Call (.Name x _) [q, r] [] _ => ckB c "range" x && !isStar q && !isStar r && ckE a c q && ckE b c r
    | _ => false
  | .en e, c, t, p => match t with
    | .Tuple _ _ _ => match p with
      | .Call (.Name x _) [q] [] _ => ckB c "enumerate" x && !isStar q && ckE e c q
      | _ => false
    | _ => false
  | .zp _ _, _, _, _ => false
end
/-! ### what the text's forms are not -/
theorem star_one {p : Expr} (h : isStar p = false) (ps : List Expr) (env : Env) : starEach (p :: ps) env = (false, eval p env) :: starEach ps env := by
  cases p <;> first | rfl | (simp [isStar] at h)
theorem ckL_star {c : Ck} : ∀ {es : List E} {ps : List Expr}, ckL es c ps = true → ∀ p ∈ ps, isStar p = false
  | [], ps, h, p, hp => by
    simp only [ckL, List.isEmpty_iff] at h
    subst h; cases hp
  | a :: es, [], h, p, hp => by cases hp
  | a :: es, q :: ps, h, p, hp => by
    simp only [ckL, Bool.and_eq_true, Bool.not_eq_true'] at h
    rcases List.mem_cons.mp hp with rfl | hp
    · exact h.1.1
    · exact ckL_star h.2 p hp
theorem ckL_len {c : Ck} : ∀ {es : List E} {ps : List Expr}, ckL es c ps = true → es.length = ps.length
  | [], ps, h => by
    simp only [ckL, List.isEmpty_iff] at h
    subst h; rfl
  | a :: es, [], h => by simp [ckL] at h
  | a :: es, q :: ps, h => by
    simp only [ckL, Bool.and_eq_true] at h
    rw [List.length_cons, List.length_cons, ckL_len h.2]
theorem star_none {ps : List Expr} (h : ∀ p ∈ ps, isStar p = false) (env : Env) (pos : Pos) : (backTo pos (starEach ps env)).any (·.1) = false := by
  induction ps with
  | nil => rfl
  | cons p ps ih =>
    rw [star_one (h p List.mem_cons_self)]
    exact ih fun q hq => h q (List.mem_cons_of_mem _ hq)
theorem star_all {ps : List Expr} (h : ∀ p ∈ ps, isStar p = false) (env : Env) (pos : Pos) : (backTo pos (starEach ps env)).all (fun x => !x.1) = true := by
  induction ps with
  | nil => rfl
  | cons p ps ih =>
    rw [star_one (h p List.mem_cons_self)]
    exact ih fun q hq => h q (List.mem_cons_of_mem _ hq)
theorem star_few {ps : List Expr} (h : ∀ p ∈ ps, isStar p = false) (env : Env) (pos : Pos) (hl : ps.length < 29) : ((backTo pos (starEach ps env)).all (fun x => !x.1) && (backToKw pos (keywordEach [] env)).all (fun x => x.1.isSome)
      && decide (ps.length + ([] : List Keyword).length + (if ([] : List Keyword).isEmpty then 0 else 1) < 30)) = true := by
  rw [star_all h]
  simp only [Bool.true_and, Bool.and_eq_true, decide_eq_true_eq]
  exact ⟨rfl, by show ps.length + 0 + 0 < 30; omega⟩
theorem base_of {o : Expr} (h : plainBase o = true) (name : Str) (env : Env) : attributeBase o name env (eval o env) = eval o env := by
  unfold attributeBase
  split
  · simp [plainBase] at h
  · rfl
theorem set_of {p : Expr} (h : isSet p = false) (env : Env) : ∀ x, foldedSetIterable p env x = pure x := by
  intro x
  cases p <;> first | rfl | (simp [isSet] at h)
theorem marks_of {p : Expr} (h : isSet p = false) (op : CmpOp) : behindInMarks op p = false := by
  cases p <;> first | rfl | (simp [isSet] at h)
theorem last_of {p : Expr} (h : isSet p = false) (op op' : CmpOp) (q : Expr) : lastMarks [op, op'] [q, p] = false := by
  show behindInMarks op' p = false
  exact marks_of h op'
theorem plain_of {p : Expr} (h : isSlice p = false) : PlainIx p := by
  cases p <;> first | (intro o i; rfl) | (simp [isSlice] at h)
theorem sub_of {i : Expr} (h : isSlice i = false) {o : Expr} {pos : Pos} {env : Env} (v : Value) : assign (.Subscript o i pos) env v = (do
      let ov ← holding [v] (eval o env)
      let iv ← holding [v, ov] (eval i env)
      standAt pos
      holding [v, ov, iv] (setItem ov iv v)
      release [v, ov, iv] []) := by
  cases i <;> first | rfl | (simp [isSlice] at h)
theorem asg_one {p : Expr} (h : isStar p = false) (ps : List Expr) (env : Env) : assignEach (p :: ps) env = (false, assign p env) :: assignEach ps env := by
  cases p <;> first | rfl | (simp [isStar] at h)
theorem swN_of {p : Expr} (h : isComp p = false) (t : Option Expr) (l : Nat) (env : Env) : swapsWith p t l env = pure false := by
  cases p <;> first | rfl | (simp [isComp] at h)
end TV

namespace TV
open PySem L2 PySem.Spec PyProof.Rows

/-! ### what a context must know -/
/-- a def of the text, by its name: it keeps its promise -/
def CalF (X : Cx) (G : Gam) (x : Str) (m : List U → OH → R U) : Prop :=
  ∃ (k : Nat) (f : Addr) (fd : FuncData) (ps : List Str), FnOk X.prog X.w X.K X.mg X.base CX0 k f fd ps (spEv G m) ∧ Room k X.A ∧ X.mg x = some (.ref f) ∧ PySem.W.keepIn X.K (.ref f) = true ∧ L2.Binds X.K fd ps []
structure Good (X : Cx) (G : Gam) (cal : Nat → List U → OH → R U) (c : Ck) : Prop where
  hK : G.K = X.K
  hN : X.N = c.N
  sc : X.env.scope = c.sc
  nd : c.N.Nodup
  calm : X.calm = true
  un : X.A.units + 65 < cLine
  bl : ∀ x, c.B.contains x = true → X.mg x = none
  fns : ∀ f x, c.T[f]? = some x → CalF X G x (cal f)
  fn0 : c.blk = none → ∀ x, X.fn x = true
  fn1 : ∀ s, c.blk = some s → ∀ x, X.fn x = (s.names.lookup x == some .cell)
section
variable {X : Cx} {G : Gam} {cal : Nat → List U → OH → R U} {c : Ck}
theorem Good.sub (g : Good X G cal c) (kind : X.env.scope.kind = .function) (scope : Scope) (s : Shared) (H : Hp) (C : Addr) (cl : List (Str × Addr)) (fp : List Addr) : Good (X.blk s H scope (compEnvC scope cl C X.env) fp) G cal (c.sub scope) where
  hK := g.hK
  hN := g.hN
  sc := by
    show relabel scope X.env = relS scope c.sc
    rw [← g.sc]
    rfl
  nd := g.nd
  calm := g.calm
  un := g.un
  bl := g.bl
  fns := g.fns
  fn0 := fun z => by cases z
  fn1 := fun s' z x => by cases z; rfl
theorem Good.nm (g : Good X G cal c) {i : Nat} {x : Str} (h : ckNm c i x = true) : X.N[i]? = some x ∧ Vis X.env.scope x ∧ (x == ("__debug__" : Str)) = false ∧ (x == ("__classdict__" : Str)) = false := by
  simp only [ckNm, Bool.and_eq_true, decide_eq_true_eq, Bool.not_eq_true'] at h
  obtain ⟨⟨⟨h1, h2⟩, h3⟩, h4⟩ := h
  refine ⟨by rw [g.hN]; exact h1, ?_, h3, h4⟩
  unfold Vis
  rw [g.sc]
  revert h2
  cases c.sc.names.lookup x with
  | none => intro h; cases h
  | some k => cases k <;> simp [isVis]
theorem Good.gl (g : Good X G cal c) {x : Str} (h : ckGl c x = true) : Gl X x := by
  simp only [ckGl, decide_eq_true_eq] at h
  show X.env.scope.names.lookup x = _
  rw [g.sc]; exact h
theorem Good.b (g : Good X G cal c) {n x : Str} (h : ckB c n x = true) : x = n ∧ Gl X x ∧ X.mg x = none := by
  simp only [ckB, Bool.and_eq_true, decide_eq_true_eq] at h
  exact ⟨h.1.1, g.gl h.1.2, g.bl x h.2⟩
theorem Good.loc (g : Good X G cal c) {x : Str} (h : ckLoc c x = true) : L2.Loc X.env.scope x ∧ (X.fn x = true ∨ X.env.scope.names.lookup x = some .local) := by
  unfold ckLoc at h
  unfold L2.Loc
  rw [g.sc]
  split at h
  · rename_i e
    exact ⟨.inl e, .inr e⟩
  · rename_i e
    refine ⟨.inr e, .inl ?_⟩
    split at h
    · rename_i e2
      exact g.fn0 e2 x
    · rename_i s e2
      rw [g.fn1 s e2 x]; exact h
  · cases h
theorem ck_const {u : U} {p : Expr} (h : ckK u p = true) : PE X p (tE G fun _ h => .ok u h) := by
  unfold ckK at h
  split at h
  · split at h
    · exact e_const pe_non fun _ _ _ => .non
    · rw [decide_eq_true_eq] at h; subst h; exact e_const pe_bl fun _ _ _ => .bl _
    · rw [decide_eq_true_eq] at h; subst h; exact e_const pe_int fun _ _ _ => .int _
    · rw [decide_eq_true_eq] at h; subst h; exact e_const pe_str fun _ _ _ => .str _
    · cases h
  · cases h
theorem ck_constT {u : U} {p : Expr} (hK : G.K = X.K) (h : ckK u p = true) : PT X p (tT G fun _ h => .ok u h) := by
  have he := ck_const (X := X) (G := G) h
  unfold ckK at h
  split at h
  · exact t_truth hK he fun _ => rfl
  · cases h
/-! ### targets -/
mutual
theorem snd_Tg : ∀ (t : Tg) (c : Ck) (p : Expr) (X : Cx), Good X G cal c → ckTg t c p = true → PG X p (tGt G t)
  | .nm i, c, p, X, g, h => by
    unfold ckTg at h
    split at h
    · simp only [Bool.and_eq_true, decide_eq_true_eq] at h
      obtain ⟨l1, l2⟩ := g.loc h.2
      exact g_name (by rw [g.hN]; exact g.nd) (by rw [g.hN]; exact h.1) l1 l2
    · cases h
  | .tp ts, c, p, X, g, h => by
    unfold ckTg at h
    split at h
    · obtain ⟨h1, h2, h3⟩ := snd_Tgs ts c _ X g h
      exact g_tup g.hK g.calm h1 h2 h3
    · cases h
theorem snd_Tgs : ∀ (ts : List Tg) (c : Ck) (ps : List Expr) (X : Cx), Good X G cal c → ckTgs ts c ps = true → PGs X ps (tGts G ts) ∧ (assignEach ps X.env).length = ts.length ∧ (assignEach ps X.env).findIdx? (·.1) = none
  | [], c, [], X, g, h => ⟨gs_nil, rfl, rfl⟩
  | [], c, _ :: _, X, g, h => by simp [ckTgs] at h
  | t :: ts, c, [], X, g, h => by simp [ckTgs] at h
  | t :: ts, c, p :: ps, X, g, h => by
    simp only [ckTgs, Bool.and_eq_true, Bool.not_eq_true'] at h
    obtain ⟨⟨h0, h1⟩, h2⟩ := h
    obtain ⟨k1, k2, k3⟩ := snd_Tgs ts c ps X g h2
    have e := asg_one h0 ps X.env
    refine ⟨gs_cons (snd_Tg t c p X g h1) k1 (by rw [e]; rfl), by rw [e, List.length_cons, List.length_cons, k2], ?_⟩
    rw [e, List.findIdx?_cons]
    simp only [k3]
    rfl
end
/-! ### built-in functions -/
theorem snd_bi (g : Good X G cal c) {m : Bool} {b : Bi} {es : List E} {x : Str} {q p : Expr} {ps : List Expr} {pos pos2 : Pos} {ml : Env' → OH → R (List U)} (hb : biOk b = true) (hx : ckB c (biNm b) x = true) (hs : ∀ p ∈ q :: ps, isStar p = false) (ha : PA X (q :: ps) (tA G ml)) :
    PE X (.Call (.Name x pos) (q :: ps) [] pos2) (tE G fun e h => (ml e h).bind fun us h1 => biE m b us h1) := by
  obtain ⟨rfl, h1, h2⟩ := g.b hx
  have he : starEach (q :: ps) X.env = (false, eval q X.env) :: starEach ps X.env := star_one (hs q List.mem_cons_self) ps X.env
  have hpl : (backTo pos2 (starEach ps X.env)).any (·.1) = false := star_none (fun z hz => hs z (List.mem_cons_of_mem _ hz)) X.env pos2
  cases b with
  | len => exact e_bi (len_ok g.hK) h1 h2 PySem.boot_len ha (by decide +kernel) (by decide +kernel) he hpl
  | abs => exact e_bi abs_ok h1 h2 (by decide +kernel) ha (by decide +kernel) (by decide +kernel) he hpl
  | int => exact e_ty int1_ok h1 h2 (by decide +kernel) ha (by decide +kernel) (by decide +kernel) he hpl
  | min2 => exact e_bi (min2_ok g.calm) h1 h2 (by decide +kernel) ha (by decide +kernel) (by decide +kernel) he hpl
  | max2 => exact e_bi (max2_ok g.calm) h1 h2 (by decide +kernel) ha (by decide +kernel) (by decide +kernel) he hpl
  | tuple => exact e_ty (tuple_ok g.hK) h1 h2 (by decide +kernel) ha (by decide +kernel) (by decide +kernel) he hpl
  | list => exact e_ty (list_ok g.hK m) h1 h2 (by decide +kernel) ha (by decide +kernel) (by decide +kernel) he hpl
  | all => exact e_bi (all_ok g.hK g.calm) h1 h2 (by decide +kernel) ha (by decide +kernel) (by decide +kernel) he hpl
  | any => exact e_bi (any_ok g.hK g.calm) h1 h2 (by decide +kernel) ha (by decide +kernel) (by decide +kernel) he hpl
  | sum => exact e_bi (sum_ok g.hK g.calm) h1 h2 (by decide +kernel) ha (by decide +kernel) (by decide +kernel) he hpl
  | isInt => cases hb
  | isBool => cases hb
  | isTup => cases hb
  | isStr => cases hb
  | sorted => cases hb
  | maxl => cases hb
  | minl => cases hb
theorem tyB (b : Bi) (h : isIns b = true) : bootBuiltins (tyN b) = some (.type (tyN b)) ∧ (PySem.Str.ofString (tyN b)) ≠ "__name__" ∧ ((PySem.Str.ofString (tyN b)) == ("__debug__" : Str)) = false := by
  cases b with
  | isInt => exact ⟨by decide +kernel, by decide +kernel, by decide +kernel⟩
  | isBool => exact ⟨by decide +kernel, by decide +kernel, by decide +kernel⟩
  | isTup => exact ⟨by decide +kernel, by decide +kernel, by decide +kernel⟩
  | isStr => exact ⟨by decide +kernel, by decide +kernel, by decide +kernel⟩
  | _ => cases h
/-! ### methods -/
theorem snd_mt (g : Good X G cal c) {mt : Mt} {po : Expr} {name : Str} {apos cpos : Pos} {ps : List Expr} {mo : Env' → OH → R U} {ml : Env' → OH → R (List U)} (hn : name = mtNm mt) (hb : plainBase po = true) (hl : (apos.endLine == cpos.line) = true) (h29 : ps.length < 29) (hs : ∀ p ∈ ps, isStar p = false)
    (ho : PE X po (tE G mo)) (ha : PA X ps (tA G ml)) (h0 : ps = [] → ml = fun _ h => .ok [] h) : PE X (.Call (.Attribute po name apos) ps [] cpos) (tE G fun e h => (mo e h).bind fun x h1 => if mtK mt x h1 then (ml e h1).bind fun us h2 => mtE mt x us h2 else .bad) := by
  subst hn
  cases ps with
  | nil =>
    have e := h0 rfl
    subst e
    cases mt with
    | append => exact e_mt0 g.hK PySem.F.plainAttrs_list PySem.F.slot_list_append PySem.F.type_list_append append_ok ho (base_of hb _ _) hl
    | extend => exact e_mt0 g.hK PySem.F.plainAttrs_list PySem.F.slot_list_extend PySem.F.type_list_extend extend_ok ho (base_of hb _ _) hl
    | pop => exact e_mt0 g.hK PySem.F.plainAttrs_list PySem.F.slot_list_pop PySem.F.type_list_pop pop_ok ho (base_of hb _ _) hl
    | popAt => exact e_mt0 g.hK PySem.F.plainAttrs_list PySem.F.slot_list_pop PySem.F.type_list_pop popAt_ok ho (base_of hb _ _) hl
    | index => exact e_mt0 g.hK PySem.F.plainAttrs_tuple PySem.F.slot_tuple_index PySem.F.type_tuple_index (index_ok g.hK) ho (base_of hb _ _) hl
  | cons q ps =>
    have h1 : starEach (q :: ps) X.env = (false, eval q X.env) :: starEach ps X.env := star_one (hs q List.mem_cons_self) ps X.env
    have h2 : (backTo cpos (starEach ps X.env)).any (·.1) = false := star_none (fun z hz => hs z (List.mem_cons_of_mem _ hz)) X.env cpos
    have h3 := star_few hs X.env cpos h29
    cases mt with
    | append => exact e_mt g.hK PySem.F.plainAttrs_list PySem.F.slot_list_append PySem.F.type_list_append append_ok ho ha (base_of hb _ _) h3 hl h1 h2
    | extend => exact e_mt g.hK PySem.F.plainAttrs_list PySem.F.slot_list_extend PySem.F.type_list_extend extend_ok ho ha (base_of hb _ _) h3 hl h1 h2
    | pop => exact e_mt g.hK PySem.F.plainAttrs_list PySem.F.slot_list_pop PySem.F.type_list_pop pop_ok ho ha (base_of hb _ _) h3 hl h1 h2
    | popAt => exact e_mt g.hK PySem.F.plainAttrs_list PySem.F.slot_list_pop PySem.F.type_list_pop popAt_ok ho ha (base_of hb _ _) h3 hl h1 h2
    | index => exact e_mt g.hK PySem.F.plainAttrs_tuple PySem.F.slot_tuple_index PySem.F.type_tuple_index (index_ok g.hK) ho ha (base_of hb _ _) h3 hl h1 h2
end
end TV

namespace TV
open PySem L2 PySem.Spec PyProof.Rows

section
variable {G : Gam} {cal : Nat → List U → OH → R U}
theorem both {X : Cx} {p : Expr} {m : Env' → OH → R U} (hK : G.K = X.K) (he : PE X p (tE G m)) (ht : ∀ whole, isTrue p X.env whole = (do let v ← whole; standAt p.pos; holding [v] (truthy v))) : PE X p (tE G m) ∧ PT X p (tT G m) := ⟨he, t_truth hK he ht⟩
theorem toLc {own : List (Str × Nat)} {ow : List Nat} (e : own.map (·.2) = ow) {m : Bool} {tg : Tg} {src : Sr} {cs : List E} {elt : E} : (fun e h => evE cal (.lc m elt tg src cs ow) e h) = lcE m tg (own.map (·.2)) (evSr cal src) (evCs cal cs) (evE cal elt) := by
  subst e
  funext e h
  simp only [evE, lcE]
  all_goals rfl
mutual
theorem snd_E : ∀ (a : E) (c : Ck) (p : Expr) (X : Cx), Good X G cal c → X.env.scope.kind = .function → ckE a c p = true → PE X p (tE G (evE cal a)) ∧ PT X p (tT G (evE cal a))
  | .v i, c, p, X, g, kd, h => by
    unfold ckE at h
    split at h
    · obtain ⟨h1, h2, h3, h4⟩ := g.nm h
      exact both g.hK (e_var h1 h2 h3 h4) fun _ => rfl
    · cases h
  | .k u, c, p, X, g, kd, h => by
    unfold ckE at h
    exact ⟨ck_const h, ck_constT g.hK h⟩
  | .tup es, c, p, X, g, kd, h => by
    unfold ckE at h
    split at h
    · exact both g.hK (e_tup (snd_L es c _ X g kd h)) fun _ => rfl
    · cases h
  | .lst m es, c, p, X, g, kd, h => by
    unfold ckE at h
    split at h
    · exact both g.hK (e_lst (m := m) (snd_L es c _ X g kd h)) fun _ => rfl
    · cases h
  | .bin m op a b, c, p, X, g, kd, h => by
    unfold ckE at h
    split at h
    · simp only [Bool.and_eq_true, decide_eq_true_eq] at h
      obtain ⟨⟨h1, h2⟩, h3⟩ := h
      subst h1
      exact both g.hK (e_bin (m := m) (op := op) g.hK (snd_E a c _ X g kd h2).1 (snd_E b c _ X g kd h3).1) fun _ => rfl
    · cases h
  | .neg a, c, p, X, g, kd, h => by
    unfold ckE at h
    split at h
    · exact both g.hK (e_neg (snd_E a c _ X g kd h).1) fun _ => rfl
    · cases h
  | .nt a, c, p, X, g, kd, h => by
    unfold ckE at h
    split at h
    · have he := snd_E a c _ X g kd h
      exact ⟨e_not g.hK he.1, t_not he.2⟩
    · cases h
  | .an es, c, p, X, g, kd, h => by
    unfold ckE at h
    split at h
    · simp only [Bool.and_eq_true, Bool.not_eq_true'] at h
      have q := snd_An es c _ X (by assumption) g kd h.1 h.2
      exact ⟨q.1, q.2.pt⟩
    · cases h
  | .or es, c, p, X, g, kd, h => by
    unfold ckE at h
    split at h
    · simp only [Bool.and_eq_true, Bool.not_eq_true'] at h
      have q := snd_Or es c _ X (by assumption) g kd h.1 h.2
      exact ⟨q.1, q.2.pt⟩
    · cases h
  | .cmp op a b, c, p, X, g, kd, h => by
    unfold ckE at h
    split at h
    · simp only [Bool.and_eq_true, decide_eq_true_eq, Bool.not_eq_true'] at h
      obtain ⟨⟨⟨h1, h2⟩, h3⟩, h4⟩ := h
      subst h1
      have ha := (snd_E a c _ X g kd h2).1
      have hb := (snd_E b c _ X g kd h3).1
      exact ⟨e_cmp g.hK g.un ha hb (marks_of h4 _), t_cmp g.hK g.un ha hb (marks_of h4 _)⟩
    · cases h
  | .isn q a, c, p, X, g, kd, h => by
    unfold ckE at h
    split at h
    · simp only [Bool.and_eq_true, decide_eq_true_eq] at h
      obtain ⟨h1, h2⟩ := h
      subst h1
      have ha := (snd_E a c _ X g kd h2).1
      exact ⟨e_isn ha, t_isn ha⟩
    · cases h
  | .chain op1 op2 a b d, c, p, X, g, kd, h => by
    unfold ckE at h
    split at h
    · simp only [Bool.and_eq_true, decide_eq_true_eq, Bool.not_eq_true'] at h
      obtain ⟨⟨⟨⟨⟨h1, h2⟩, h3⟩, h4⟩, h5⟩, h6⟩ := h
      subst h1 h2
      have ha := (snd_E a c _ X g kd h3).1
      have hb := (snd_E b c _ X g kd h4).1
      have hd := (snd_E d c _ X g kd h5).1
      exact ⟨e_chain g.hK g.un ha hb hd (last_of h6 _ _ _), t_chain g.hK g.un ha hb hd (last_of h6 _ _ _)⟩
    · cases h
  | .ife d a b, c, p, X, g, kd, h => by
    unfold ckE at h
    split at h
    · simp only [Bool.and_eq_true] at h
      obtain ⟨⟨h1, h2⟩, h3⟩ := h
      have hd := snd_E d c _ X g kd h1
      have ha := snd_E a c _ X g kd h2
      have hb := snd_E b c _ X g kd h3
      exact ⟨e_ife hd.2 ha.1 hb.1, t_ife hd.2 ha.2 hb.2⟩
    · cases h
  | .call f es, c, p, X, g, kd, h => by
    unfold ckE at h
    split at h
    · rename_i x pos ps pos2
      simp only [Bool.and_eq_true, decide_eq_true_eq, Bool.not_eq_true'] at h
      obtain ⟨⟨⟨h1, h2⟩, h3⟩, h4⟩ := h
      obtain ⟨k, fa, fd, pn, F, hr, hm, hk, hb⟩ := g.fns f x h1
      have hl := snd_L es c ps X g kd h4
      have hst := ckL_star h4
      have he : PE X (.Call (.Name x pos) ps [] pos2) (tE G (evE cal (.call f es))) := by
        cases ps with
        | nil =>
          have e0 : es = [] := by
            have := ckL_len h4
            exact List.eq_nil_of_length_eq_zero this
          subst e0
          exact e_call0 F hr (g.gl h2) hm hk hb h3
        | cons q ps => exact e_call F hr (g.gl h2) hm hk hb hl h3 (star_one (hst q List.mem_cons_self) ps X.env) (star_none (fun z hz => hst z (List.mem_cons_of_mem _ hz)) X.env pos2)
      exact ⟨he, t_truth g.hK he fun _ => rfl⟩
    · cases h
  | .bi m b es, c, p, X, g, kd, h => by
    unfold ckE at h
    split at h
    · rename_i x pos ps pos2
      split at h
      · rename_i hin
        split at h
        · rename_i q t pos3
          simp only [Bool.and_eq_true] at h
          obtain ⟨⟨h1, h2⟩, h3⟩ := h
          obtain ⟨rfl, a1, a2⟩ := g.b h1
          obtain ⟨rfl, b1, b2⟩ := g.b h2
          have hl := snd_L es c [q] X g kd h3
          have hq := ckL_star h3 q List.mem_cons_self
          obtain ⟨t1, t2, t3⟩ := tyB b hin
          cases es with
          | nil => simp [ckL] at h3
          | cons a es =>
            cases es with
            | cons _ _ => simp [ckL] at h3
            | nil =>
              simp only [ckL, Bool.and_eq_true] at h3
              have ha := (snd_E a c q X g kd h3.1.2).1
              have he := e_isi (t := b) (p := pos) (p2 := pos3) (pos := pos2) g.hK a1 a2 b1 b2 t1 t2 t3 ha (star_one hq _ _)
              have ee : evE cal (.bi m b [a]) = fun e h => (evE cal a e h).bind fun u h1 => okB (isTy b u h1) h1 := by
                funext e h
                show (evL cal [a] e h).bind (fun us h1 => biE m b us h1) = _
                unfold evL
                cases evE cal a e h with
                | bad => rfl
                | exc _ _ _ => rfl
                | ok u h1 => cases b <;> first | rfl | cases hin
              rw [ee]
              exact ⟨he, t_truth g.hK he fun _ => rfl⟩
        · cases h
      · simp only [Bool.and_eq_true, Bool.not_eq_true'] at h
        obtain ⟨⟨⟨h1, h2⟩, h3⟩, h4⟩ := h
        cases ps with
        | nil => cases h3
        | cons q ps =>
          exact both g.hK (snd_bi (m := m) (pos := pos) (pos2 := pos2) (p := q) (es := es) g h1 h2 (ckL_star h4) (snd_L es c (q :: ps) X g kd h4)) fun _ => rfl
    · cases h
  | .mth mt o es, c, p, X, g, kd, h => by
    unfold ckE at h
    split at h
    · rename_i po name apos ps cpos
      simp only [Bool.and_eq_true, decide_eq_true_eq] at h
      obtain ⟨⟨⟨⟨⟨h1, h2⟩, h3⟩, h4⟩, h5⟩, h6⟩ := h
      have he := snd_mt (apos := apos) (cpos := cpos) g h1 h2 h3 h4 (ckL_star h6) (snd_E o c po X g kd h5).1 (snd_L es c ps X g kd h6) (fun z => by
        subst z
        have : es = [] := List.eq_nil_of_length_eq_zero (ckL_len h6)
        subst this
        funext e h; simp only [evL])
      exact ⟨he, t_truth g.hK he fun _ => rfl⟩
    · cases h
  | .ix a i, c, p, X, g, kd, h => by
    unfold ckE at h
    split at h
    · simp only [Bool.and_eq_true, Bool.not_eq_true'] at h
      obtain ⟨⟨h1, h2⟩, h3⟩ := h
      exact both g.hK (e_ix g.hK g.un (snd_E a c _ X g kd h2).1 (snd_E i c _ X g kd h3).1 (plain_of h1)) fun _ => rfl
    · cases h
  | .sl m a lo hi, c, p, X, g, kd, h => by
    unfold ckE at h
    split at h
    · simp only [Bool.and_eq_true] at h
      obtain ⟨⟨h1, h2⟩, h3⟩ := h
      exact both g.hK (e_sl (m := m) g.hK (snd_E a c _ X g kd h1).1 (snd_P lo c _ X g kd h2) (snd_P hi c _ X g kd h3)) fun _ => rfl
    · cases h
  | .lc m elt tg src cs own, c, p, X, g, kd, h => by
    unfold ckE at h
    split at h
    · rename_i pe pt pi ifs scope pos
      simp only [Bool.and_eq_true, Bool.not_eq_true', List.all_eq_true] at h
      obtain ⟨⟨⟨⟨⟨⟨h1, h2⟩, h3⟩, h4⟩, h5⟩, h6⟩, h7⟩ := h
      have ok : BlkOk X.N X.env.scope scope (ownP c own) := by rw [g.hN, g.sc]; exact blkOk_by h1
      have gb := fun s H C cl fp => g.sub kd scope s H C cl fp
      have kb : (relabel scope X.env).kind = .function := ok.kind
      have he := e_lc (G := G) (m := m) (tgt := tg) (pos := pos) (fun i hi => by rw [ownP_snd]; exact List.contains_iff_mem.mp (h2 i hi)) g.calm (by rw [g.hN]; exact g.nd) (snd_Sr src c pt pi X g kd h4) ok (fun s H C cl fp => snd_Tg tg _ pt _ (gb s H C cl fp) h5)
        (fun s H C cl fp => snd_Cs cs _ ifs _ (gb s H C cl fp) kb h6) (fun s H C cl fp => (snd_E elt _ pe _ (gb s H C cl fp) kb h7).1) (set_of h3 _)
      rw [← toLc (ownP_snd c own)] at he
      exact ⟨he, t_truth g.hK he fun _ => rfl⟩
    · cases h
  | .dct ks es, c, p, X, g, kd, h => by
    unfold ckE at h
    split at h
    · rename_i keys values pos
      simp only [Bool.and_eq_true, decide_eq_true_eq] at h
      obtain ⟨h1, h2⟩ := h
      have hd := snd_D es ks c keys values X pos g kd h2
      have he : PE X (.Dict keys values pos) (tE G (evE cal (.dct ks es))) := by
        by_cases h0 : keys = []
        · subst h0
          cases es with
          | nil =>
            simp only [ckD, Bool.and_eq_true, List.isEmpty_iff] at h2
            obtain ⟨⟨rfl, _⟩, rfl⟩ := h2
            exact ev_dct0
          | cons a es => cases ks <;> simp [ckD] at h2
        · exact ev_dct hd h0 h1
      exact ⟨he, t_truth g.hK he fun _ => rfl⟩
    · cases h
  | .fld _ _, c, p, X, g, kd, h => by unfold ckE at h; cases h
theorem snd_L : ∀ (es : List E) (c : Ck) (ps : List Expr) (X : Cx), Good X G cal c → X.env.scope.kind = .function → ckL es c ps = true → PA X ps (tA G (evL cal es))
  | [], c, ps, X, g, kd, h => by
    simp only [ckL, List.isEmpty_iff] at h
    subst h
    exact a_nil
  | a :: es, c, [], X, g, kd, h => by simp [ckL] at h
  | a :: es, c, p :: ps, X, g, kd, h => by
    simp only [ckL, Bool.and_eq_true, Bool.not_eq_true'] at h
    obtain ⟨⟨h0, h1⟩, h2⟩ := h
    exact a_cons (snd_E a c p X g kd h1).1 (snd_L es c ps X g kd h2) (star_one h0 ps X.env)
theorem snd_An : ∀ (es : List E) (c : Ck) (ps : List Expr) (X : Cx) (pos : Pos), Good X G cal c → X.env.scope.kind = .function → es.isEmpty = false → ckL es c ps = true → PE X (.BoolOp .And ps pos) (tE G (evAn cal es)) ∧ PW X (.BoolOp .And ps pos) (tT G (evAn cal es))
  | [], c, ps, X, pos, g, kd, h0, h => by cases h0
  | [a], c, [], X, pos, g, kd, h0, h => by simp [ckL] at h
  | [a], c, p :: q :: ps, X, pos, g, kd, h0, h => by simp [ckL] at h
  | [a], c, [p], X, pos, g, kd, h0, h => by
    simp only [ckL, Bool.and_eq_true, Bool.not_eq_true'] at h
    have ha := snd_E a c p X g kd h.1.2
    exact ⟨e_one ha.1, w_and1 ha.2⟩
  | a :: b :: es, c, [], X, pos, g, kd, h0, h => by simp [ckL] at h
  | a :: b :: es, c, [p], X, pos, g, kd, h0, h => by simp [ckL] at h
  | a :: b :: es, c, p :: q :: ps, X, pos, g, kd, h0, h => by
    unfold ckL at h
    simp only [Bool.and_eq_true, Bool.not_eq_true'] at h
    obtain ⟨⟨h1, h2⟩, h3⟩ := h
    have ha := snd_E a c p X g kd h2
    have hb := snd_An (b :: es) c (q :: ps) X pos g kd rfl h3
    exact ⟨e_and g.hK ha.1 hb.1, w_and ha.2 hb.2⟩
theorem snd_Or : ∀ (es : List E) (c : Ck) (ps : List Expr) (X : Cx) (pos : Pos), Good X G cal c → X.env.scope.kind = .function → es.isEmpty = false → ckL es c ps = true → PE X (.BoolOp .Or ps pos) (tE G (evOr cal es)) ∧ PW X (.BoolOp .Or ps pos) (tT G (evOr cal es))
  | [], c, ps, X, pos, g, kd, h0, h => by cases h0
  | [a], c, [], X, pos, g, kd, h0, h => by simp [ckL] at h
  | [a], c, p :: q :: ps, X, pos, g, kd, h0, h => by simp [ckL] at h
  | [a], c, [p], X, pos, g, kd, h0, h => by
    simp only [ckL, Bool.and_eq_true, Bool.not_eq_true'] at h
    have ha := snd_E a c p X g kd h.1.2
    exact ⟨e_one ha.1, w_or1 ha.2⟩
  | a :: b :: es, c, [], X, pos, g, kd, h0, h => by simp [ckL] at h
  | a :: b :: es, c, [p], X, pos, g, kd, h0, h => by simp [ckL] at h
  | a :: b :: es, c, p :: q :: ps, X, pos, g, kd, h0, h => by
    unfold ckL at h
    simp only [Bool.and_eq_true, Bool.not_eq_true'] at h
    obtain ⟨⟨h1, h2⟩, h3⟩ := h
    have ha := snd_E a c p X g kd h2
    have hb := snd_Or (b :: es) c (q :: ps) X pos g kd rfl h3
    exact ⟨e_or g.hK ha.1 hb.1, w_or ha.2 hb.2⟩
theorem snd_P : ∀ (es : List E) (c : Ck) (o : Option Expr) (X : Cx), Good X G cal c → X.env.scope.kind = .function → ckP es c o = true → PO X o (tO G (evP cal es))
  | [], c, o, X, g, kd, h => by
    simp only [ckP, Option.isNone_iff_eq_none] at h
    subst h
    exact o_none
  | [a], c, o, X, g, kd, h => by
    unfold ckP at h
    cases o with
    | none => simp at h
    | some p =>
      simp only [Bool.and_eq_true] at h
      exact o_some (snd_E a c p X g kd h.2).1
  | a :: b :: es, c, o, X, g, kd, h => by simp [ckP] at h
theorem snd_Cs : ∀ (es : List E) (c : Ck) (ps : List Expr) (X : Cx), Good X G cal c → X.env.scope.kind = .function → ckCs es c ps = true → PTs X ps (tCs G (evCs cal es))
  | [], c, ps, X, g, kd, h => by
    simp only [ckCs, List.isEmpty_iff] at h
    subst h
    exact c_nil
  | [a], c, ps, X, g, kd, h => by
    unfold ckCs at h
    simp only [Bool.and_eq_true] at h
    have h := h.2
    split at h
    · exact c_one (snd_E a c _ X g kd h).2
    · cases h
  | a :: b :: es, c, o, X, g, kd, h => by simp [ckCs] at h
theorem snd_D : ∀ (es : List E) (ks : List Key) (c : Ck) (keys : List (Option Expr)) (values : List Expr) (X : Cx) (pos : Pos), Good X G cal c → X.env.scope.kind = .function → ckD es ks c keys values = true → DPr X G pos keys values ks (evL cal es)
  | [], ks, c, keys, values, X, pos, g, kd, h => by
    simp only [ckD, Bool.and_eq_true, List.isEmpty_iff] at h
    obtain ⟨⟨rfl, rfl⟩, rfl⟩ := h
    exact d_nil
  | a :: es, ks, c, keys, values, X, pos, g, kd, h => by
    unfold ckD at h
    split at h
    · simp only [Bool.and_eq_true] at h
      obtain ⟨⟨h1, h2⟩, h3⟩ := h
      exact d_cons (ck_const h1) (snd_E a c _ X g kd h2).1 (snd_D es _ c _ _ X pos g kd h3)
    · cases h
theorem snd_Sr : ∀ (s : Sr) (c : Ck) (t p : Expr) (X : Cx), Good X G cal c → X.env.scope.kind = .function → ckSr s c t p = true → PI X t p (tI G (evSr cal s))
  | .sq e, c, t, p, X, g, kd, h => by
    unfold ckSr at h
    exact i_sq g.hK (snd_E e c p X g kd h).1
  | .r1 a, c, t, p, X, g, kd, h => by
    unfold ckSr at h
    split at h
    · simp only [Bool.and_eq_true, Bool.not_eq_true'] at h
      obtain ⟨⟨h1, h2⟩, h3⟩ := h
      obtain ⟨rfl, a1, a2⟩ := g.b h1
      exact i_r1 a1 a2 (snd_E a c _ X g kd h3).1 (star_one h2 [] _)
    · cases h
  | .r2 a b, c, t, p, X, g, kd, h => by
    unfold ckSr at h
    split at h
    · simp only [Bool.and_eq_true, Bool.not_eq_true'] at h
      obtain ⟨⟨⟨⟨h1, h2⟩, h3⟩, h4⟩, h5⟩ := h
      obtain ⟨rfl, a1, a2⟩ := g.b h1
      exact i_r2 a1 a2 (snd_E a c _ X g kd h4).1 (snd_E b c _ X g kd h5).1 (star_one h2 _ _) (star_one h3 [] _)
    · cases h
  | .en e, c, t, p, X, g, kd, h => by
    unfold ckSr at h
    split at h
    · split at h
      · simp only [Bool.and_eq_true, Bool.not_eq_true'] at h
        obtain ⟨⟨h1, h2⟩, h3⟩ := h
        obtain ⟨rfl, a1, a2⟩ := g.b h1
        exact i_en g.hK a1 a2 (snd_E e c _ X g kd h3).1 (star_one h2 [] _)
      · cases h
    · cases h
  | .zp _ _, c, t, p, X, g, kd, h => by unfold ckSr at h; cases h
end
end
end TV

namespace TV
open PySem L2 PySem.Spec PyProof.Rows

/-! ### statements -/
def notLoc (c : Ck) : Expr → Bool
  | .Name x _ => !decide (c.sc.names.lookup x = some .local)
  | _ => true
def swNone (c : Ck) (pt pe : Expr) : Bool := match pt, pe with
  | .Tuple ts _ _, .Tuple vs _ _ => ts.any (notLoc c) || vs.all (foldedForSure 8)
  | .List _ _, .Tuple _ _ _ => false
  | _, _ => true
def okComp : Expr → Bool
  | .SetComp .. => false
  | .DictComp .. => false
  | _ => true
/-- name = [..] where the name's own place is used -/
def swC (c : Ck) (pt pe : Expr) : Bool := match pe with
  | .ListComp _ _ scope pos => (match pt with
    | .Name t p => decide (c.sc.names.lookup t = some .local) && p.line == pos.line && !(scope.names.any fun (n, k) => n == t && (k == .local || k == .cell))
    | _ => false)
  | _ => false
mutual
def ckTt : Tt → Ck → Expr → Bool
  | .nm i, c, p => match p with
    | .Name x _ => decide (c.N[i]? = some x) && ckLoc c x
    | _ => false
  | .sub o i, c, p => match p with
    | .Subscript po pi _ => !isSlice pi && ckE o c po && ckE i c pi
    | _ => false
  | .fld _ _, _, _ => false
  | .tp ts, c, p => match p with
    | .Tuple ps _ _ => ckTts ts c ps
    | _ => false
def ckTts : List Tt → Ck → List Expr → Bool
  | [], _, ps => ps.isEmpty
  | t :: ts, c, ps => match ps with
    | p :: ps => !isStar p && ckTt t c p && ckTts ts c ps
    | [] => false
end
def parOk (vs : List Expr) : Bool := !(vs.all (foldedForSure 8)) && !(vs.all (constantsAlone 8)) && vs.all fun v => !isStar v
def isLocal (c : Ck) (i : Nat) (x : Str) : Bool := decide (c.N[i]? = some x) && decide (c.sc.names.lookup x = some .local)
def ckPar (is : List Nat) (c : Ck) (pts pes : List Expr) : Bool := parOk pes && (match is, pts, pes with
  | [i, j], [.Name x px, .Name y py], [_, _] => isLocal c i x && isLocal c j y && decide (x ≠ y) && decide (py.line = px.line)
  | [i, j, l], [.Name x px, .Name y py, .Name z pz], [_, _, _] => isLocal c i x && isLocal c j y && isLocal c l z && decide (x ≠ y) && decide (x ≠ z) && decide (y ≠ z) && decide (py.line = px.line) && decide (pz.line = px.line)
  | _, _, _ => false)
mutual
def ckS : S → Ck → Stmt → Bool
  | .asg t e, c, p => match p with
    | .Assign [pt] pe _ => ckTt t c pt && !isStar pt && ckE e c pe && swNone c pt pe
    | _ => false
  | .par is es, c, p => match p with
    | .Assign [.Tuple pts _ _] (.Tuple pes _ _) _ => ckPar is c pts pes && ckL es c pes
    | _ => false
  | .ife d a b, c, p => match p with
    | .If pd pa pb _ => ckE d c pd && ckSs a c pa && ckSs b c pb
    | _ => false
  | .for_ t src body, c, p => match p with
    | .For pt pi pb [] _ => ckSr src c pt pi && ckTg t c pt && ckSs body c pb && !isSet pi
    | _ => false
  | .whl d body, c, p => match p with
    | .While pd pb [] _ => ckE d c pd && ckSs body c pb
    | _ => false
  | .ret e, c, p => match p with
    | .Return (some q) _ => ckE e c q
    | _ => false
  | .retN, _, p => match p with
    | .Return none _ => true
    | _ => false
  | .ex e, c, p => match p with
    | .Expr q _ => ckE e c q && !isComp q
    | _ => false
  | .never, _, _ => true
  | .brk, _, p => match p with
    | .Break _ => true
    | _ => false
  | .cnt, _, p => match p with
    | .Continue _ => true
    | _ => false
  | .pass, _, p => match p with
    | .Pass _ => true
    | .Expr (.Constant (.str _) _ _) _ => true
    | _ => false
def ckSs : List S → Ck → List Stmt → Bool
  | [], _, ps => ps.isEmpty
  | s :: ss, c, ps => match ps with
    | p :: ps => ckS s c p && ckSs ss c ps
    | [] => false
end
theorem filterMap_lt {α β : Type} {f : α → Option β} : ∀ {l : List α}, (∃ t ∈ l, f t = none) → (l.filterMap f).length < l.length
  | [], h => by obtain ⟨_, h, _⟩ := h; cases h
  | a :: l, h => by
    rw [List.filterMap_cons]
    split
    · exact Nat.lt_succ_of_le (List.length_filterMap_le _ _)
    · rename_i b hb
      obtain ⟨t, ht, e⟩ := h
      rcases List.mem_cons.mp ht with rfl | ht
      · rw [e] at hb; cases hb
      · exact Nat.succ_lt_succ (filterMap_lt ⟨t, ht, e⟩)
theorem swNone_of {c : Ck} {pt pe : Expr} {env : Env} (he : env.scope = c.sc) (h : swNone c pt pe = true) : swappedStores [pt] pe env = pure none := by
  unfold swNone at h
  split at h
  · rename_i ts k1 p1 vs k2 p2
    unfold swappedStores
    dsimp only
    split
    · rfl
    · split
      · rfl
      · split
        · rfl
        · rename_i h1 h2 h3
          rw [Bool.or_eq_true] at h
          rcases h with h | h
          · exfalso
            simp only [Bool.not_eq_true, Bool.or_eq_false_iff, bne_eq_false_iff_eq] at h3
            rw [List.any_eq_true] at h
            obtain ⟨t, ht, e⟩ := h
            have := filterMap_lt (f := fun (t : Expr) => match t with
              | .Name id pos => if env.kindOf id == some NameKind.local && pos.line == (ts.head?.map (·.pos.line)).getD 0 then some id else none
              | _ => none) ⟨t, ht, by
                cases t <;> try rfl
                rename_i id pos
                simp only [notLoc, Bool.not_eq_true', decide_eq_false_iff_not] at e
                have : (env.kindOf id == some NameKind.local) = false := by
                  show (env.scope.names.lookup id == some NameKind.local) = false
                  rw [he]
                  exact beq_eq_false_iff_ne.mpr e
                simp only [this, Bool.false_and, Bool.false_eq_true, if_false]⟩
            exact absurd h3.1 (Nat.ne_of_lt this)
          · rw [if_pos h]
  · cases h
  · rename_i h1 h2
    cases pt <;> first | rfl | skip
    · cases pe <;> first | rfl | exact (h2 _ _ _ _ _ rfl rfl).elim
    · cases pe <;> first | rfl | exact (h1 _ _ _ _ _ _ rfl rfl).elim
theorem swC_false {c : Ck} {pt pe : Expr} {env : Env} {l : Nat} (he : env.scope = c.sc) (hk : c.sc.kind = .function) (hp : okComp pe = true) (h : swC c pt pe = false) : swapsWith pe (some pt) l env = pure false := by
  cases pe <;> first | rfl | (simp [okComp] at hp; done) | skip
  rename_i elt gs scope pos
  have hb : env.blockKind = .function := by unfold Env.blockKind; rw [he, hk]; rfl
  cases pt <;> first | rfl | skip
  rename_i t p
  unfold swapsWith
  unfold swC at h
  dsimp only at h ⊢
  have e1 : (env.kindOf t == some NameKind.local) = decide (c.sc.names.lookup t = some NameKind.local) := by
    show (env.scope.names.lookup t == some NameKind.local) = _
    rw [he]
    cases c.sc.names.lookup t with
    | none => rfl
    | some k => cases k <;> rfl
  have : (env.blockKind == ScopeKind.function && env.kindOf t == some NameKind.local && p.line == (Expr.ListComp elt gs scope pos).pos.line && !(scope.names.any fun (n, k) => n == t && (k == .local || k == .cell))) = false := by
    rw [hb, e1]
    exact h
  rw [this]
theorem par2_of {c : Ck} {X : Cx} {x y : Str} {px py pt p2 : Pos} {a b : Expr} {k k2 : Nat} (he : X.env.scope = c.sc) (hk : c.sc.kind = .function) (hx : c.sc.names.lookup x = some .local) (hy : c.sc.names.lookup y = some .local) (hxy : x ≠ y) (hl : py.line = px.line) (hp : parOk [a, b] = true) :
    swappedStores [.Tuple [.Name x px, .Name y py] k pt] (.Tuple [a, b] k2 p2) X.env = pure (some [x, y]) := by
  have hb : X.env.blockKind = .function := by unfold Env.blockKind; rw [he, hk]; rfl
  have e1 : X.env.kindOf x = some .local := by show X.env.scope.names.lookup x = _; rw [he, hx]
  have e2 : X.env.kindOf y = some .local := by show X.env.scope.names.lookup y = _; rw [he, hy]
  simp only [parOk, Bool.and_eq_true, Bool.not_eq_true', List.all_cons, List.all_nil, Bool.and_true] at hp
  obtain ⟨⟨h1, h2⟩, h3, h4⟩ := hp
  unfold swappedStores
  dsimp only
  split
  · rename_i h
    simp [hb] at h
  · split
    · rename_i h
      exfalso
      rw [List.any_eq_true] at h
      obtain ⟨z, hz, e⟩ := h
      have hz' : isStar z = false := by
        rcases List.mem_cons.mp hz with rfl | hz
        · exact h3
        · rw [List.mem_singleton] at hz; rw [hz]; exact h4
      cases z <;> first | (simp [isStar] at hz'; done) | (simp at e)
    · simp only [List.filterMap_cons, List.filterMap_nil, e1, e2, Expr.pos, List.head?_cons, Option.map_some, Option.getD_some, hl, beq_self_eq_true, Bool.and_true, if_true]
      have yx : (y == x) = false := beq_eq_false_iff_ne.mpr (Ne.symm hxy)
      have er : [x, y].eraseDups = [x, y] := by simp [List.eraseDups_cons, yx]
      rw [er]
      rw [if_neg (by simp), if_neg (by simp [h1]), if_neg (by simp [h2])]
theorem par3_of {c : Ck} {X : Cx} {x y z : Str} {px py pz pt p2 : Pos} {a b d : Expr} {k k2 : Nat} (he : X.env.scope = c.sc) (hk : c.sc.kind = .function) (hx : c.sc.names.lookup x = some .local) (hy : c.sc.names.lookup y = some .local) (hz : c.sc.names.lookup z = some .local) (hxy : x ≠ y) (hxz : x ≠ z) (hyz : y ≠ z)
    (hl : py.line = px.line) (hl2 : pz.line = px.line) (hp : parOk [a, b, d] = true) :
    swappedStores [.Tuple [.Name x px, .Name y py, .Name z pz] k pt] (.Tuple [a, b, d] k2 p2) X.env = pure (some [x, y, z]) := by
  have hb : X.env.blockKind = .function := by unfold Env.blockKind; rw [he, hk]; rfl
  have e1 : X.env.kindOf x = some .local := by show X.env.scope.names.lookup x = _; rw [he, hx]
  have e2 : X.env.kindOf y = some .local := by show X.env.scope.names.lookup y = _; rw [he, hy]
  have e3 : X.env.kindOf z = some .local := by show X.env.scope.names.lookup z = _; rw [he, hz]
  simp only [parOk, Bool.and_eq_true, Bool.not_eq_true', List.all_cons, List.all_nil, Bool.and_true] at hp
  obtain ⟨⟨h1, h2⟩, h3, h4, h5⟩ := hp
  unfold swappedStores
  dsimp only
  split
  · rename_i h
    simp [hb] at h
  · split
    · rename_i h
      exfalso
      rw [List.any_eq_true] at h
      obtain ⟨q, hq, e⟩ := h
      have hz' : isStar q = false := by
        rcases List.mem_cons.mp hq with rfl | hq
        · exact h3
        · rcases List.mem_cons.mp hq with rfl | hq
          · exact h4
          · rw [List.mem_singleton] at hq; rw [hq]; exact h5
      cases q <;> first | (simp [isStar] at hz'; done) | (simp at e)
    · simp only [List.filterMap_cons, List.filterMap_nil, e1, e2, e3, Expr.pos, List.head?_cons, Option.map_some, Option.getD_some, hl, hl2, beq_self_eq_true, Bool.and_true, if_true]
      have yx : (y == x) = false := beq_eq_false_iff_ne.mpr (Ne.symm hxy)
      have zx : (z == x) = false := beq_eq_false_iff_ne.mpr (Ne.symm hxz)
      have zy : (z == y) = false := beq_eq_false_iff_ne.mpr (Ne.symm hyz)
      have er : [x, y, z].eraseDups = [x, y, z] := by simp [List.eraseDups_cons, yx, zx, zy]
      rw [er]
      rw [if_neg (by simp), if_neg (by simp [h1]), if_neg (by simp [h2])]
section
variable {G : Gam} {cal : Nat → List U → OH → R U}
/-! ### targets -/
theorem ttEs_len : ∀ (ts : List Tt) (us : List U) (e : Env') (h : OH) {as rs : List Addr} {H : Hp} {k}, out G as rs H (ttEs cal ts us e h) k → us.length = ts.length
  | [], [], _, _, _, _, _, _, _ => rfl
  | [], _ :: _, _, _, _, _, _, _, o => o.elim
  | _ :: _, [], _, _, _, _, _, _, o => o.elim
  | t :: ts, u :: us, e, h, as, rs, H, k, o => by
    unfold ttEs at o
    cases ht : ttE cal t u e h with
    | bad => rw [ht] at o; exact o.elim
    | exc _ _ _ => rw [ht] at o; exact o.elim
    | ok e1 h1 =>
      rw [ht] at o
      rw [List.length_cons, List.length_cons, ttEs_len ts us e1 h1 (show out G as rs H (ttEs cal ts us e1 h1) k from o)]
mutual
theorem snd_Tt : ∀ (t : Tt) (c : Ck) (p : Expr) (X : Cx), Good X G cal c → X.env.scope.kind = .function → ckTt t c p = true → PG X p (tTt G (ttE cal t))
  | .nm i, c, p, X, g, kd, h => by
    unfold ckTt at h
    split at h
    · simp only [Bool.and_eq_true, decide_eq_true_eq] at h
      obtain ⟨l1, l2⟩ := g.loc h.2
      exact tt_name (by rw [g.hN]; exact g.nd) (by rw [g.hN]; exact h.1) l1 l2
    · cases h
  | .sub o i, c, p, X, g, kd, h => by
    unfold ckTt at h
    split at h
    · simp only [Bool.and_eq_true, Bool.not_eq_true'] at h
      obtain ⟨⟨h1, h2⟩, h3⟩ := h
      exact tt_sub (by have := g.un; omega) (snd_E o c _ X g kd h2).1 (snd_E i c _ X g kd h3).1 (sub_of h1)
    · cases h
  | .fld _ _, c, p, X, g, kd, h => by unfold ckTt at h; cases h
  | .tp ts, c, p, X, g, kd, h => by
    unfold ckTt at h
    split at h
    · obtain ⟨h1, h2, h3⟩ := snd_Tts ts c _ X g kd h
      refine pg_weak (tt_tup (n := ts.length) g.hK g.calm h1 h2 h3) ?_
      rintro v σ H Q ⟨as, rs, e, u, h, r, q, ru, o⟩
      refine ⟨as, rs, e, u, h, r, q, ru, ?_⟩
      cases u with
      | tup us =>
        have o1 : out G as rs H (ttEs cal ts us e h) (fun as' H' e' _ => ∀ σ', RSt G as' rs H' e' σ' → Q σ' H') := o
        dsimp only
        rw [if_pos (ttEs_len ts us e h o1)]
        exact o1
      | _ => exact o.elim
    · cases h
theorem snd_Tts : ∀ (ts : List Tt) (c : Ck) (ps : List Expr) (X : Cx), Good X G cal c → X.env.scope.kind = .function → ckTts ts c ps = true → PGs X ps (tTts G (ttEs cal ts)) ∧ (assignEach ps X.env).length = ts.length ∧ (assignEach ps X.env).findIdx? (·.1) = none
  | [], c, ps, X, g, kd, h => by
    simp only [ckTts, List.isEmpty_iff] at h
    subst h
    refine ⟨pgs_weak (tts_nil (G := G)) ?_, rfl, rfl⟩
    rintro v σ H Q ⟨as, rs, e, us, h, r, q, ru, o⟩
    refine ⟨as, rs, e, us, h, r, q, ru, ?_⟩
    cases us with
    | nil => exact o
    | cons _ _ => exact o.elim
  | t :: ts, c, [], X, g, kd, h => by simp [ckTts] at h
  | t :: ts, c, p :: ps, X, g, kd, h => by
    simp only [ckTts, Bool.and_eq_true, Bool.not_eq_true'] at h
    obtain ⟨⟨h0, h1⟩, h2⟩ := h
    obtain ⟨k1, k2, k3⟩ := snd_Tts ts c ps X g kd h2
    have e := asg_one h0 ps X.env
    refine ⟨pgs_weak (tts_cons (snd_Tt t c p X g kd h1) k1 (by rw [e]; rfl)) ?_, by rw [e, List.length_cons, List.length_cons, k2], ?_⟩
    · rintro v σ H Q ⟨as, rs, e, us, h, r, q, ru, o⟩
      refine ⟨as, rs, e, us, h, r, q, ru, ?_⟩
      cases us with
      | nil => exact o.elim
      | cons _ _ => exact o
    · rw [e, List.findIdx?_cons]
      simp only [k3]
      rfl
end
end
end TV

namespace TV
open PySem L2 PySem.Spec PyProof.Rows

section
variable {G : Gam} {cal : Nat → List U → OH → R U} {fu : Nat}
theorem ckE_form {e : E} {c : Ck} {p : Expr} (h : ckE e c p = true) : okComp p = true := by
  cases p <;> first | rfl | (cases e <;> simp [ckE, ckK] at h)
theorem asg1 {p : Expr} (h : isStar p = false) (env : Env) : (assignEach [p] env).map (·.2) = [assign p env] := by
  rw [asg_one h]; rfl
theorem snd_asg (t : Tt) (e : E) (c : Ck) (p : Stmt) (X : Cx) (g : Good X G cal c) (kd : X.env.scope.kind = .function) (h : ckS (.asg t e) c p = true) : PS X p (tS G (evS cal fu (.asg t e))) := by
  unfold ckS at h
  split at h
  · rename_i pt pe pos
    simp only [Bool.and_eq_true, Bool.not_eq_true'] at h
    obtain ⟨⟨⟨h1, h2⟩, h3⟩, h4⟩ := h
    have kc : c.sc.kind = .function := by rw [← g.sc]; exact kd
    cases hw : swC c pt pe with
    | false =>
      have hs : swapsWith pe (some pt) pos.line X.env = pure false := swC_false g.sc kc (ckE_form h3) hw
      exact s_asg (snd_E e c pe X g kd h3).1 (snd_Tt t c pt X g kd h1) hs (swNone_of g.sc h4) (asg1 h2 _)
    | true =>
      unfold swC at hw
      split at hw
      · rename_i elt gs scope pos2
        split at hw
        · rename_i y py
          simp only [Bool.and_eq_true, decide_eq_true_eq, Bool.not_eq_true'] at hw
          obtain ⟨⟨w1, w2⟩, w3⟩ := hw
          cases t with
          | nm i =>
            cases e with
            | lc m el tg src cs own =>
              simp only [ckTt, Bool.and_eq_true, decide_eq_true_eq] at h1
              unfold ckE at h3
              split at h3
              · rename_i pe' pt' pi ifs scope' pos' eq
                cases eq
                simp only [Bool.and_eq_true, Bool.not_eq_true', List.all_eq_true] at h3
                obtain ⟨⟨⟨⟨⟨⟨k1, k2⟩, k3⟩, k4⟩, k5⟩, k6⟩, k7⟩ := h3
                have ok : BlkOk X.N X.env.scope scope (ownP c own) := by rw [g.hN, g.sc]; exact blkOk_by k1
                have gb := fun s H C cl fp => g.sub kd scope s H C cl fp
                have kb : (relabel scope X.env).kind = .function := ok.kind
                have hy : X.env.scope.names.lookup y = some .local := by rw [g.sc]; exact w1
                have hsw := sw_true (elt := elt) (gs := [⟨pt', pi, ifs, 0⟩]) (scope := scope) (pos := pos2) (py := py) (y := y) (l := pos.line) (env := X.env) kd hy w2 w3
                have he := s_setLc (G := G) (m := m) (tgt := tg) (i := i) (by rw [g.hN]; exact h1.1) hy hsw (fun i hi => by rw [ownP_snd]; exact List.contains_iff_mem.mp (k2 i hi)) g.calm (by rw [g.hN]; exact g.nd) (snd_Sr src c pt' pi X g kd k4) ok (fun s H C cl fp => snd_Tg tg _ pt' _ (gb s H C cl fp) k5)
                  (fun s H C cl fp => snd_Cs cs _ ifs _ (gb s H C cl fp) kb k6) (fun s H C cl fp => (snd_E el _ elt _ (gb s H C cl fp) kb k7).1) (set_of k3 _)
                rw [← toLc (ownP_snd c own)] at he
                exact he
              · cases h3
            | k u => simp [ckE, ckK] at h3
            | _ => simp [ckE] at h3
          | _ => simp [ckTt] at h1
        · cases hw
      · cases hw
  · cases h
theorem snd_par (is : List Nat) (es : List E) (c : Ck) (p : Stmt) (X : Cx) (g : Good X G cal c) (kd : X.env.scope.kind = .function) (h : ckS (.par is es) c p = true) : PS X p (tS G (evS cal fu (.par is es))) := by
  unfold ckS at h
  split at h
  · rename_i pts k1 p1 pes k2 p2 pos
    rw [Bool.and_eq_true] at h
    obtain ⟨h1, h2⟩ := h
    unfold ckPar at h1
    rw [Bool.and_eq_true] at h1
    obtain ⟨h0, h1⟩ := h1
    have kc : c.sc.kind = .function := by rw [← g.sc]; exact kd
    have nd : X.N.Nodup := by rw [g.hN]; exact g.nd
    split at h1
    · rename_i i j x px y py a b
      simp only [isLocal, Bool.and_eq_true, decide_eq_true_eq] at h1
      obtain ⟨⟨⟨⟨a1, a2⟩, b1, b2⟩, h3⟩, h4⟩ := h1
      have hij : i ≠ j := fun z => by
        subst z
        rw [a1] at b1
        exact h3 (Option.some.inj b1)
      exact s_par g.calm nd (by rw [g.hN]; exact a1) (by rw [g.hN]; exact b1) hij (by rw [g.sc]; exact a2) (by rw [g.sc]; exact b2) (snd_L es c _ X g kd h2) (par2_of g.sc kc a2 b2 h3 h4 h0) rfl
    · rename_i i j l x px y py z pz a b d
      simp only [isLocal, Bool.and_eq_true, decide_eq_true_eq] at h1
      obtain ⟨⟨⟨⟨⟨⟨⟨⟨a1, a2⟩, b1, b2⟩, c1, c2⟩, h3⟩, h4⟩, h5⟩, h6⟩, h7⟩ := h1
      have hij : i ≠ j := fun z => by subst z; rw [a1] at b1; exact h3 (Option.some.inj b1)
      have hil : i ≠ l := fun z => by subst z; rw [a1] at c1; exact h4 (Option.some.inj c1)
      have hjl : j ≠ l := fun z => by subst z; rw [b1] at c1; exact h5 (Option.some.inj c1)
      exact s_par3 g.calm nd (by rw [g.hN]; exact a1) (by rw [g.hN]; exact b1) (by rw [g.hN]; exact c1) hij hil hjl (by rw [g.sc]; exact a2) (by rw [g.sc]; exact b2) (by rw [g.sc]; exact c2) (snd_L es c _ X g kd h2) (par3_of g.sc kc a2 b2 c2 h3 h4 h5 h6 h7 h0) rfl
    · cases h1
  · cases h
mutual
theorem snd_S : ∀ (s : S) (c : Ck) (p : Stmt) (X : Cx), Good X G cal c → X.env.scope.kind = .function → PassesOwn (model X.prog X.w) X.A X.env X.xe → ckS s c p = true → PS X p (tS G (evS cal fu s))
  | .asg t e, c, p, X, g, kd, hp, h => snd_asg t e c p X g kd h
  | .par is es, c, p, X, g, kd, hp, h => snd_par is es c p X g kd h
  | .ife d a b, c, p, X, g, kd, hp, h => by
    unfold ckS at h
    split at h
    · simp only [Bool.and_eq_true] at h
      obtain ⟨⟨h1, h2⟩, h3⟩ := h
      exact s_if (snd_E d c _ X g kd h1).2 (snd_Ss a c _ X g kd hp h2) (snd_Ss b c _ X g kd hp h3)
    · cases h
  | .for_ t src body, c, p, X, g, kd, hp, h => by
    unfold ckS at h
    split at h
    · simp only [Bool.and_eq_true, Bool.not_eq_true'] at h
      obtain ⟨⟨⟨h1, h2⟩, h3⟩, h4⟩ := h
      exact s_for hp g.calm (snd_Sr src c _ _ X g kd h1) (snd_Tg t c _ X g h2) (snd_Ss body c _ X g kd hp h3) (set_of h4 _)
    · cases h
  | .whl d body, c, p, X, g, kd, hp, h => by
    unfold ckS at h
    split at h
    · simp only [Bool.and_eq_true] at h
      obtain ⟨h1, h2⟩ := h
      exact s_whl fu hp (snd_E d c _ X g kd h1).2 (snd_Ss body c _ X g kd hp h2)
    · cases h
  | .ret e, c, p, X, g, kd, hp, h => by
    unfold ckS at h
    split at h
    · exact s_ret (snd_E e c _ X g kd h).1
    · cases h
  | .retN, c, p, X, g, kd, hp, h => by
    unfold ckS at h
    split at h
    · exact s_retN
    · cases h
  | .ex e, c, p, X, g, kd, hp, h => by
    unfold ckS at h
    split at h
    · simp only [Bool.and_eq_true, Bool.not_eq_true'] at h
      exact s_ex (snd_E e c _ X g kd h.1).1 (swN_of h.2 _ _ _)
    · cases h
  | .never, c, p, X, g, kd, hp, h => s_never
  | .brk, c, p, X, g, kd, hp, h => by
    unfold ckS at h
    split at h
    · exact s_brk
    · cases h
  | .cnt, c, p, X, g, kd, hp, h => by
    unfold ckS at h
    split at h
    · exact s_cnt
    · cases h
  | .pass, c, p, X, g, kd, hp, h => by
    unfold ckS at h
    split at h
    · exact s_pass
    · exact s_doc
    · cases h
theorem snd_Ss : ∀ (ss : List S) (c : Ck) (ps : List Stmt) (X : Cx), Good X G cal c → X.env.scope.kind = .function → PassesOwn (model X.prog X.w) X.A X.env X.xe → ckSs ss c ps = true → PSs X ps (tS G (evSs cal fu ss))
  | [], c, ps, X, g, kd, hp, h => by
    simp only [ckSs, List.isEmpty_iff] at h
    subst h
    exact ss_nil
  | s :: ss, c, [], X, g, kd, hp, h => by simp [ckSs] at h
  | s :: ss, c, p :: ps, X, g, kd, hp, h => by
    simp only [ckSs, Bool.and_eq_true] at h
    exact ss_cons (snd_S s c p X g kd hp h.1) (snd_Ss ss c ps X g kd hp h.2)
end
end
end TV

namespace TV
open PySem L2 PySem.Spec PyProof.Rows

/-! ### a def's end: what is forgotten -/
section
variable {G : Gam} {as rs : List Addr} {H : Hp} {h : OH}
mutual
theorem RU.bel {n : Nat} : ∀ {u : U} {v : V}, RU G as rs H u v → U.bel n u = true → RU G (as.take n) rs H u v
  | _, _, .non, _ => .non
  | _, _, .bl b, _ => .bl b
  | _, _, .int i, _ => .int i
  | _, _, .str s, _ => .str s
  | _, _, .tupH m r l, e => .tupH (mem_take m) r (RL.bel l (by simpa [U.bel] using e))
  | _, _, .tupK r l, e => .tupK r (RL.bel l (by simpa [U.bel] using e))
  | _, _, .fls m k r l, e => .fls (mem_take m) k r (RL.bel l (by simpa [U.bel] using e))
  | .ref j, _, .ref q, e => .ref (by
      have : j < n := by simpa [U.bel] using e
      rw [List.getElem?_take_of_lt this]; exact q)
  | _, _, .rlsH m r, _ => .rlsH (mem_take m) r
  | _, _, .rlsK r, _ => .rlsK r
theorem RL.bel {n : Nat} : ∀ {u : List U} {v : List V}, RL G as rs H u v → U.bels n u = true → RL G (as.take n) rs H u v
  | _, _, .nil, _ => .nil
  | _, _, .cons r l, e => by
    simp only [U.bels, Bool.and_eq_true] at e
    exact .cons (RU.bel r e.1) (RL.bel l e.2)
end
theorem RP.bel {κ : Type} {n : Nat} {k : List (κ × U)} {l : List (κ × V)} (r : RP G as rs H k l) (e : U.bels n (k.map (·.2)) = true) : RP G (as.take n) rs H k l := by
  induction r with
  | nil => exact .nil
  | cons r l ih =>
    rw [List.map_cons] at e
    simp only [U.bels, Bool.and_eq_true] at e
    exact .cons ⟨r.1, r.2.bel e.1⟩ (ih e.2)
theorem RH.trim (r : RH G as rs H h) {n : Nat} (e : OH.bel n (h.take n) = true) : RH G (as.take n) rs H (h.take n) := by
  refine ⟨by rw [List.length_take, List.length_take, r.len], r.nd.sublist (List.take_sublist _ _), fun i o q => ?_, fun a ha => r.here a (List.mem_of_mem_take ha), fun p hp => let ⟨n1, n2⟩ := r.rsv p hp; ⟨mem_take n1, n2⟩⟩
  have hi : i < n := by
    have := (List.getElem?_eq_some_iff.mp q).1
    rw [List.length_take] at this
    omega
  have ob : OO.bel n o = true := List.all_eq_true.mp e o (List.mem_of_getElem? q)
  rw [List.getElem?_take_of_lt hi] at q
  obtain ⟨a, ea, z⟩ := r.ob i o q
  refine ⟨a, by rw [List.getElem?_take_of_lt hi]; exact ea, ?_⟩
  cases o with
  | lst us => obtain ⟨vs, k, l⟩ := z; exact ⟨vs, k, l.bel ob⟩
  | rol us => obtain ⟨vs, k, l⟩ := z; exact ⟨vs, k, l.bel ob⟩
  | dct kvs => obtain ⟨kv, k, l⟩ := z; exact ⟨kv, k, RP.bel l ob⟩
  | ins c fs => obtain ⟨C, dx, fv, ec, k, l⟩ := z; exact ⟨C, dx, fv, ec, k, RP.bel l ob⟩
theorem fin_ok {as' : List Addr} {H' : Hp} {h' : OH} {u : U} {v : V} {trim : Bool} {Q : VK} (r0 : RH G as rs H h) (o : out G as rs H (finE trim h.length u h') (kE G rs Q)) (x : Ext as H as' H') (r : RH G as' rs H' h') (ru : RU G as' rs H' u v) : Q v H' := by
  unfold finE at o
  cases trim with
  | false => exact o as' H' x r v ru
  | true =>
    rw [if_pos rfl] at o
    split at o
    · rename_i u' hu
      split at o
      · rename_i hb
        have et : as'.take h.length = as := by
          refine List.ext_getElem? fun i => ?_
          rw [List.getElem?_take]
          split
          · rename_i hi
            have hi' : i < as.length := by rw [r0.len]; exact hi
            have e := List.getElem?_eq_getElem hi'
            rw [e]
            exact x.pre i _ e
          · rename_i hi
            exact (List.getElem?_eq_none_iff.mpr (by rw [r0.len]; omega)).symm
        have r1 := r.trim hb
        have q1 := frz_ok r h.length 2 u u' v ru hu
        rw [et] at r1 q1
        exact o as H' ⟨fun _ _ e => e, fun p ob n e => ⟨(x.keep p ob n e).1, n⟩⟩ r1 v q1
      · exact o as' H' x r v ru
    · exact o as' H' x r v ru
end
/-! ### defs -/
def ckScope (N P : List Str) (sc : Scope) : Bool :=
  (match sc.kind with | .function => true | _ => false) && !sc.isCoroutine && !sc.isGenerator && decide N.Nodup && decide (N.take P.length = P) && (P.all fun x => match sc.names.lookup x with | some .local => true | some .cell => true | _ => false) && (sc.names.all fun y => match y.2 with | .free => false | _ => true)
theorem scope_of {N P : List Str} {sc : Scope} (h : ckScope N P sc = true) : FnScope N P sc := by
  simp only [ckScope, Bool.and_eq_true, Bool.not_eq_true', decide_eq_true_eq, List.all_eq_true] at h
  obtain ⟨⟨⟨⟨⟨⟨h1, h2⟩, h3⟩, h4⟩, h5⟩, h6⟩, h7⟩ := h
  refine ⟨?_, h2, h3, h4, h5, fun x hx => ?_, fun y hy e => ?_⟩
  · split at h1
    · assumption
    · cases h1
  · have := h6 x hx
    split at this
    · rename_i e; exact .inl e
    · rename_i e; exact .inr e
    · cases this
  · have := h7 y hy
    rw [e] at this
    cases this
/-- a def of the text: its name, its form in the small language, its place, its names, its parameters -/
structure DefC where
  x : Str
  F : Fn
  st : Stmt
  N : List Str
  ps : List Str
def ckFn (T B : List Str) (D : DefC) : Bool := decide (D.F.ps = D.ps.length) && decide (D.F.ns = D.N.length) && ckScope D.N D.ps (defScope D.st) && ckSs D.F.body ⟨D.N, defScope D.st, none, T, B⟩ (defBody D.st)
/-- what stands behind the top -/
def TopF (K : PySem.W.Frag) (mg : Str → Option Value) (D : DefC) : Prop := ∃ (f : Addr) (fd : FuncData), Fun K D.x D.x D.st f fd ∧ mg D.x = some (.ref f) ∧ L2.Binds K fd D.ps []
section
variable {P : Program} {w : World} {K : PySem.W.Frag} {mg : Str → Option Value} {base : Heap} {cls : Nat → Option Addr}
theorem start_ok {G : Gam} {as rs : List Addr} {H : Hp} {N : List Str} : ∀ {us : List U} {vs : List V}, RL G as rs H us vs → RSt G as rs H (us.map some ++ List.replicate (N.length - us.length) none) (L2.start N vs) := fun {us vs} l => by
  have hl := l.length
  refine ⟨?_, fun i u e => ?_⟩
  · unfold L2.start
    simp only [List.length_append, List.length_map, List.length_replicate, hl]
  · unfold L2.start
    by_cases hi : i < us.length
    · rw [List.getElem?_append_left (by simpa using hi), List.getElem?_map] at e
      rw [List.getElem?_append_left (by simpa [← hl] using hi), List.getElem?_map]
      cases e1 : us[i]? with
      | none => rw [e1] at e; cases e
      | some z =>
        rw [e1] at e
        cases e
        obtain ⟨v, ev, rv⟩ := l.get e1
        exact ⟨v, by rw [ev]; rfl, rv⟩
    · rw [List.getElem?_append_right (by simpa using hi), List.getElem?_replicate] at e
      split at e <;> cases e
theorem fn_ok {T B : List Str} {D : DefC} {k fu : Nat} {f : Addr} {fd : FuncData} {cal : Nat → List U → OH → R U} (Fu : Fun K D.x D.x D.st f fd) (hc : ckFn T B D = true)
    (fns : ∀ g y, T[g]? = some y → ∃ (f : Addr) (fd : FuncData) (ps : List Str), FnOk P w K mg base CX0 k f fd ps (spEv ⟨K, cls⟩ (cal g)) ∧ mg y = some (.ref f) ∧ PySem.W.keepIn K (.ref f) = true ∧ L2.Binds K fd ps [])
    (bl : ∀ x, B.contains x = true → mg x = none) : FnOk P w K mg base CX0 (k + 1) f fd D.ps (spEv ⟨K, cls⟩ (runF cal fu D.F)) := by
  simp only [ckFn, Bool.and_eq_true, decide_eq_true_eq] at hc
  obtain ⟨⟨⟨h1, h2⟩, h3⟩, h4⟩ := hc
  have S := scope_of h3
  refine Fu.ok S (fun vs H Q E h => ?_) (fun cdv A outer s H vs Q E hr h => ?_)
  · obtain ⟨as, rs, us, h, r, l, o⟩ := h
    unfold runF at o
    split at o
    · rename_i e
      rw [← l.length, e, h1]
    · exact o.elim
  · obtain ⟨as, rs, us, h, r, l, o⟩ := h
    have g : Good (cxOf CX0 P w K mg base D.N D.x (defScope D.st) f cdv A outer s H E).nox ⟨K, cls⟩ cal ⟨D.N, defScope D.st, none, T, B⟩ :=
      { hK := rfl, hN := rfl, sc := rfl, nd := S.nd, calm := rfl, un := by have := hr.un; show (A.deeper (envOfC D.x (defScope D.st) s.heap.objs.size f cdv)).units + 65 < cLine; omega, bl := bl,
        fns := fun i y e => by
          obtain ⟨f', fd', ps', F', m', k', b'⟩ := fns i y e
          exact ⟨k, f', fd', ps', F', hr, m', k', b'⟩,
        fn0 := fun _ _ => rfl, fn1 := fun _ e => by cases e }
    refine ⟨_, snd_Ss (fu := fu) D.F.body _ _ _ g S.kind PassesOwn.never h4, as, rs, us.map some ++ List.replicate (D.N.length - us.length) none, h, r, start_ok l, ?_⟩
    unfold runF at o
    split at o
    · rename_i e
      have e2 : D.F.ns - D.F.ps = D.N.length - us.length := by rw [h2, e]
      rw [e2] at o
      revert o
      cases evSs cal fu D.F.body (us.map some ++ List.replicate (D.N.length - us.length) none) h with
      | nx e1 h1 => exact fun o as' H' x r' σ' q' => fin_ok r o x r' .non
      | rt u h1 => exact fun o as' H' x r' v rv => fin_ok r o x r' rv
      | bk e1 h1 => exact fun o => o.elim
      | ct e1 h1 => exact fun o => o.elim
      | exc c us e1 h1 => exact fun o => o.elim
      | bad => exact fun o => o.elim
    · exact o.elim
def tabP (tab : List DefC) : Nat → Option Fn := fun i => (tab[i]?).map (·.F)
theorem tab_ok {tab : List DefC} {B : List Str} {fu : Nat} (top : ∀ D ∈ tab, TopF K mg D) (ck : (tab.all (ckFn (tab.map (·.x)) B)) = true) (bl : ∀ x, B.contains x = true → mg x = none) :
    ∀ (d i : Nat) (D : DefC), tab[i]? = some D → ∀ (f : Addr) (fd : FuncData), Fun K D.x D.x D.st f fd → FnOk P w K mg base CX0 d f fd D.ps (spEv ⟨K, cls⟩ (evC (tabP tab) fu d i))
  | 0, i, D, e, f, fd, Fu => ⟨fun vs H Q E h => by obtain ⟨as, rs, us, h, r, l, o⟩ := h; exact o.elim, fun A outer s H args us vs Q E hr e0 hb rv h => by obtain ⟨as, rs, us, h, r, l, o⟩ := h; exact o.elim⟩
  | d + 1, i, D, e, f, fd, Fu => by
    have F := fn_ok (P := P) (w := w) (base := base) (cls := cls) (fu := fu) (cal := evC (tabP tab) fu d) (k := d) Fu (List.all_eq_true.mp ck D (List.mem_of_getElem? e)) (fun g y q => by
      rw [List.getElem?_map] at q
      cases q1 : tab[g]? with
      | none => rw [q1] at q; cases q
      | some D' =>
        rw [q1] at q
        cases q
        obtain ⟨f', fd', Fu', m', b'⟩ := top D' (List.mem_of_getElem? q1)
        exact ⟨f', fd', D'.ps, tab_ok top ck bl d g D' q1 f' fd' Fu', m', Fu'.kp, b'⟩) bl
    have e2 : (fun us h => evC (tabP tab) fu (d + 1) i us h) = runF (evC (tabP tab) fu d) fu D.F := by
      funext us h
      show (match tabP tab i with | some F => runF (evC (tabP tab) fu d) fu F us h | none => .bad) = _
      unfold tabP
      rw [e]
      rfl
    show FnOk P w K mg base CX0 (d + 1) f fd D.ps (spEv ⟨K, cls⟩ fun us h => evC (tabP tab) fu (d + 1) i us h)
    rw [e2]
    exact F
/-! ### the law -/
def spLaw (K : PySem.W.Frag) : Sp := fun vs H Q _ => ∃ (a : Addr) (ns : List Int), vs = [.ref a] ∧ Only H ∧ SqL K H a (ns.map V.int) ∧ ns.length ≤ 63 ∧ ∀ H', Q (.bl true) H'
theorem law_ok {tab : List DefC} {fu d i : Nat} {ps : List Str} {f : Addr} {fd : FuncData} (F : FnOk P w K mg base CX0 d f fd ps (spEv ⟨K, cls⟩ (evC (tabP tab) fu d i))) (plain : ∀ ns : List Int, ns.length ≤ 63 → ∃ h, evC (tabP tab) fu d i [.rls ns] [] = .ok (.bl true) h) :
    FnOk P w K mg base CX0 d f fd ps (spLaw K) := F.imp fun vs H Q E h => by
  obtain ⟨a, ns, rfl, hO, hS, hl, q⟩ := h
  obtain ⟨h', e⟩ := plain ns hl
  refine ⟨[], [], [.rls ns], [], ⟨rfl, .nil, fun i o e => (by simp at e), fun a ha => (by cases ha), fun p hp => (by cases hp)⟩, .cons ?_ .nil, ?_⟩
  · rcases hS with (hS | ⟨o, hS⟩) | hS
    · rcases hO a with z | ⟨o, xs, z⟩
      · rw [z] at hS; cases hS
      · rw [z] at hS; cases hS
    · exact .rlsH (by simp) hS
    · exact .rlsK fun H' => .inr hS
  · rw [e]
    intro as' H' x r v rv
    cases rv
    exact q H'
end
end TV

namespace TV
open L2

/-! ### what an evaluation reaches -/
section
variable {α β : Type}
@[irreducible] def wpR (m : R α) (Q : α → OH → Prop) : Prop := match m with
  | .ok a h => Q a h
  | _ => False
structure WS where
  nx : Env' → OH → Prop
  rt : U → OH → Prop
  bk : Env' → OH → Prop := fun _ _ => False
  ct : Env' → OH → Prop := fun _ _ => False
@[irreducible] def wpS (m : RS) (D : WS) : Prop := match m with
  | .nx e h => D.nx e h
  | .rt u h => D.rt u h
  | .bk e h => D.bk e h
  | .ct e h => D.ct e h
  | _ => False
@[simp] theorem bind_ok (a : α) (h : OH) (f : α → OH → R β) : (R.ok a h).bind f = f a h := rfl
@[simp] theorem bind_bad (f : α → OH → R β) : (R.bad : R α).bind f = .bad := rfl
@[simp] theorem bindS_ok (a : α) (h : OH) (e : Env') (f : α → OH → RS) : (R.ok a h).bindS e f = f a h := rfl
@[simp] theorem bindS_bad (e : Env') (f : α → OH → RS) : (R.bad : R α).bindS e f = .bad := rfl
@[simp] theorem then_nx (e : Env') (h : OH) (f : Env' → OH → RS) : (RS.nx e h).then f = f e h := rfl
@[simp] theorem then_rt (u : U) (h : OH) (f : Env' → OH → RS) : (RS.rt u h).then f = .rt u h := rfl
@[simp] theorem then_bk (e : Env') (h : OH) (f : Env' → OH → RS) : (RS.bk e h).then f = .bk e h := rfl
@[simp] theorem then_ct (e : Env') (h : OH) (f : Env' → OH → RS) : (RS.ct e h).then f = .ct e h := rfl
@[simp] theorem then_bad (f : Env' → OH → RS) : RS.bad.then f = .bad := rfl
@[simp] theorem wpR_ok (a : α) (h : OH) (Q : α → OH → Prop) : wpR (.ok a h) Q = Q a h := by unfold wpR; rfl
@[simp] theorem wpR_bad (Q : α → OH → Prop) : wpR (.bad : R α) Q = False := by unfold wpR; rfl
@[simp] theorem wpS_nx (e : Env') (h : OH) (D : WS) : wpS (.nx e h) D = D.nx e h := by unfold wpS; rfl
@[simp] theorem wpS_rt (u : U) (h : OH) (D : WS) : wpS (.rt u h) D = D.rt u h := by unfold wpS; rfl
@[simp] theorem wpS_bk (e : Env') (h : OH) (D : WS) : wpS (.bk e h) D = D.bk e h := by unfold wpS; rfl
@[simp] theorem wpS_ct (e : Env') (h : OH) (D : WS) : wpS (.ct e h) D = D.ct e h := by unfold wpS; rfl
@[simp] theorem wpS_bad (D : WS) : wpS .bad D = False := by unfold wpS; rfl
theorem wpR_exc (c : Nat) (us : List U) (h : OH) (Q : α → OH → Prop) : wpR (.exc c us h : R α) Q = False := by unfold wpR; rfl
theorem wpS_exc (c : Nat) (us : List U) (e : Env') (h : OH) (D : WS) : wpS (.exc c us e h) D = False := by unfold wpS; rfl
theorem wpR_bind {m : R α} {f : α → OH → R β} {Q : β → OH → Prop} : wpR (m.bind f) Q = wpR m fun a h => wpR (f a h) Q := by
  cases m with
  | ok a h => rw [wpR_ok]; rfl
  | exc c us h => rw [wpR_exc]; exact wpR_exc _ _ _ _
  | bad => rw [wpR_bad]; exact wpR_bad _
theorem wpS_bind {m : R α} {e : Env'} {f : α → OH → RS} {D : WS} : wpS (m.bindS e f) D = wpR m fun a h => wpS (f a h) D := by
  cases m with
  | ok a h => rw [wpR_ok]; rfl
  | exc c us h => rw [wpR_exc]; exact wpS_exc _ _ _ _ _
  | bad => rw [wpR_bad]; exact wpS_bad _
theorem wpS_then {m : RS} {f : Env' → OH → RS} {D : WS} : wpS (m.then f) D = wpS m { D with nx := fun e h => wpS (f e h) D } := by
  cases m with
  | nx e h => rw [wpS_nx]; rfl
  | rt u h => rw [wpS_rt]; exact wpS_rt _ _ _
  | bk e h => rw [wpS_bk]; exact wpS_bk _ _ _
  | ct e h => rw [wpS_ct]; exact wpS_ct _ _ _
  | exc c us e h => rw [wpS_exc]; exact wpS_exc _ _ _ _ _
  | bad => rw [wpS_bad]; exact wpS_bad _
theorem wpR_mono {m : R α} {Q Q' : α → OH → Prop} (h : wpR m Q) (f : ∀ a h, Q a h → Q' a h) : wpR m Q' := by
  cases m with
  | ok a h' => rw [wpR_ok] at h ⊢; exact f a h' h
  | exc _ _ _ => rw [wpR_exc] at h; exact h.elim
  | bad => rw [wpR_bad] at h; exact h.elim
theorem wpS_mono {m : RS} {D D' : WS} (h : wpS m D) (f1 : ∀ e h, D.nx e h → D'.nx e h) (f2 : ∀ u h, D.rt u h → D'.rt u h) (f3 : ∀ e h, D.bk e h → D'.bk e h) (f4 : ∀ e h, D.ct e h → D'.ct e h) : wpS m D' := by
  cases m with
  | nx e h' => rw [wpS_nx] at h ⊢; exact f1 _ _ h
  | rt u h' => rw [wpS_rt] at h ⊢; exact f2 _ _ h
  | bk e h' => rw [wpS_bk] at h ⊢; exact f3 _ _ h
  | ct e h' => rw [wpS_ct] at h ⊢; exact f4 _ _ h
  | exc _ _ _ _ => rw [wpS_exc] at h; exact h.elim
  | bad => rw [wpS_bad] at h; exact h.elim
theorem wpR_of {m : R α} {a : α} {h : OH} {Q : α → OH → Prop} (e : m = .ok a h) (q : Q a h) : wpR m Q := by rw [e, wpR_ok]; exact q
theorem wpR_ex {m : R α} {Q : α → OH → Prop} (w : wpR m Q) : ∃ a h, m = .ok a h ∧ Q a h := by
  cases m with
  | ok a h => rw [wpR_ok] at w; exact ⟨a, h, rfl, w⟩
  | exc _ _ _ => rw [wpR_exc] at w; exact w.elim
  | bad => rw [wpR_bad] at w; exact w.elim
end
/-! ### loops -/
theorem forL_wp {tg : Tg} {body : Env' → OH → RS} {g : Gd} {D : WS} (I : List U → Env' → OH → Prop)
    (step : ∀ u us e h, I (u :: us) e h → ∃ e1, tgE tg u e = some e1 ∧ wpS (body e1 h) { nx := fun e2 h2 => gdOk g h2 = true ∧ I us e2 h2, ct := fun e2 h2 => gdOk g h2 = true ∧ I us e2 h2, bk := D.nx, rt := D.rt })
    (done : ∀ e h, I [] e h → D.nx e h) : ∀ us e h, I us e h → wpS (forL tg body g us e h) D
  | [], e, h, i => by unfold forL; rw [wpS_nx]; exact done e h i
  | u :: us, e, h, i => by
    obtain ⟨e1, h1, w⟩ := step u us e h i
    unfold forL
    rw [h1]
    dsimp only
    cases hb : body e1 h with
    | nx e2 h2 =>
      rw [hb, wpS_nx] at w
      dsimp only
      rw [if_pos w.1]
      exact forL_wp I step done us e2 h2 w.2
    | ct e2 h2 =>
      rw [hb, wpS_ct] at w
      dsimp only
      rw [if_pos w.1]
      exact forL_wp I step done us e2 h2 w.2
    | bk e2 h2 => rw [hb, wpS_bk] at w; dsimp only; rw [wpS_nx]; exact w
    | rt u h2 => rw [hb, wpS_rt] at w; dsimp only; rw [wpS_rt]; exact w
    | exc _ _ _ _ => rw [hb, wpS_exc] at w; exact w.elim
    | bad => rw [hb, wpS_bad] at w; exact w.elim
theorem lcL_wp {step : U → OH → R (Option U)} {g : Gd} {Q : List U → OH → Prop} (I : List U → List U → OH → Prop)
    (hs : ∀ u us acc h, I (u :: us) acc h → wpR (step u h) fun o h1 => gdOk g h1 = true ∧ match o with
      | some x => acc.length < LIM ∧ I us (acc ++ [x]) h1
      | none => I us acc h1)
    (done : ∀ acc h, I [] acc h → Q acc h) : ∀ us acc h, I us acc h → wpR (lcL step g us acc h) Q
  | [], acc, h, i => by unfold lcL; rw [wpR_ok]; exact done acc h i
  | u :: us, acc, h, i => by
    have w := hs u us acc h i
    unfold lcL
    cases hb : step u h with
    | ok o h1 =>
      rw [hb, wpR_ok] at w
      obtain ⟨w1, w2⟩ := w
      rw [bind_ok, if_pos w1]
      cases o with
      | some x =>
        dsimp only at w2 ⊢
        rw [if_pos w2.1]
        exact lcL_wp I hs done us _ h1 w2.2
      | none => exact lcL_wp I hs done us acc h1 w2
    | exc _ _ _ => rw [hb, wpR_exc] at w; exact w.elim
    | bad => rw [hb, wpR_bad] at w; exact w.elim
/-- a comprehension whose turns change nothing -/
theorem lcL_pure {step : U → OH → R (Option U)} {g : Gd} (f : U → Option U) {h : OH} (hg : gdOk g h = true) : ∀ (us acc : List U), (∀ u ∈ us, step u h = .ok (f u) h) → acc.length + us.length ≤ LIM → lcL step g us acc h = .ok (acc ++ us.filterMap f) h
  | [], acc, _, _ => by simp [lcL]
  | u :: us, acc, hs, hl => by
    unfold lcL
    rw [hs u List.mem_cons_self, bind_ok, if_pos hg]
    have hl' : acc.length + us.length + 1 ≤ LIM := by rw [List.length_cons] at hl; omega
    cases e : f u with
    | some x =>
      dsimp only
      rw [if_pos (by omega), lcL_pure f hg us (acc ++ [x]) (fun z hz => hs z (List.mem_cons_of_mem _ hz)) (by rw [List.length_append, List.length_singleton]; omega)]
      simp [List.filterMap_cons, e]
    | none =>
      dsimp only
      rw [lcL_pure f hg us acc (fun z hz => hs z (List.mem_cons_of_mem _ hz)) (by omega)]
      simp [List.filterMap_cons, e]
theorem whlL_wp {c : Env' → OH → R U} {body : Env' → OH → RS} {D : WS} (I : Nat → Env' → OH → Prop)
    (step : ∀ m e h, I m e h → wpR (c e h) fun u h1 => ∃ b, truO h1 u = some b ∧ match b with
      | false => D.nx e h1
      | true => wpS (body e h1) { nx := fun e2 h2 => ∃ m', m' < m ∧ I m' e2 h2, ct := fun e2 h2 => ∃ m', m' < m ∧ I m' e2 h2, bk := D.nx, rt := D.rt }) : ∀ (k m : Nat) (e : Env') (h : OH), m < k → I m e h → wpS (whlL c body k e h) D
  | 0, m, e, h, hm, i => by omega
  | k + 1, m, e, h, hm, i => by
    have w := step m e h i
    unfold whlL
    cases hc : c e h with
    | ok u h1 =>
      rw [hc, wpR_ok] at w
      obtain ⟨b, e1, w⟩ := w
      rw [bindS_ok, e1]
      cases b with
      | false => dsimp only; rw [wpS_nx]; exact w
      | true =>
        dsimp only at w ⊢
        cases hb : body e h1 with
        | nx e2 h2 =>
          rw [hb, wpS_nx] at w
          obtain ⟨m', l, i'⟩ := w
          exact whlL_wp I step k m' e2 h2 (by omega) i'
        | ct e2 h2 =>
          rw [hb, wpS_ct] at w
          obtain ⟨m', l, i'⟩ := w
          exact whlL_wp I step k m' e2 h2 (by omega) i'
        | bk e2 h2 => rw [hb, wpS_bk] at w; dsimp only; rw [wpS_nx]; exact w
        | rt u h2 => rw [hb, wpS_rt] at w; dsimp only; rw [wpS_rt]; exact w
        | exc _ _ _ _ => rw [hb, wpS_exc] at w; exact w.elim
        | bad => rw [hb, wpS_bad] at w; exact w.elim
    | exc _ _ _ => rw [hc, wpR_exc] at w; exact w.elim
    | bad => rw [hc, wpR_bad] at w; exact w.elim
/-! ### a call -/
theorem evC_run {P : Nat → Option Fn} {fu d f : Nat} {F : Fn} (e : P f = some F) (us : List U) (h : OH) : evC P fu (d + 1) f us h = runF (evC P fu d) fu F us h := by
  show (match P f with | some F => runF (evC P fu d) fu F us h | none => .bad) = _
  rw [e]
/-- a call whose answer holds nothing of the heap, and that leaves the older part -/
theorem run_wp {cal : Nat → List U → OH → R U} {fu : Nat} {F : Fn} {us : List U} {h : OH} {Q : U → OH → Prop} (hl : us.length = F.ps)
    (w : wpS (evSs cal fu F.body (us.map some ++ List.replicate (F.ns - F.ps) none) h) { nx := fun _ h1 => wpR (finE F.trim h.length .non h1) Q, rt := fun u h1 => wpR (finE F.trim h.length u h1) Q }) : wpR (runF cal fu F us h) Q := by
  unfold runF
  rw [if_pos hl]
  cases hb : evSs cal fu F.body (us.map some ++ List.replicate (F.ns - F.ps) none) h with
  | nx e h1 => rw [hb, wpS_nx] at w; exact w
  | rt u h1 => rw [hb, wpS_rt] at w; exact w
  | bk _ _ => rw [hb, wpS_bk] at w; exact w.elim
  | ct _ _ => rw [hb, wpS_ct] at w; exact w.elim
  | exc _ _ _ _ => rw [hb, wpS_exc] at w; exact w.elim
  | bad => rw [hb, wpS_bad] at w; exact w.elim
/-! trees without references: nothing to be replaced -/
mutual
def U.cl : U → Bool
  | .tup us => U.cls us
  | .fls us => U.cls us
  | .ref _ => false
  | _ => true
def U.cls : List U → Bool
  | [] => true
  | u :: us => U.cl u && U.cls us
end
mutual
theorem rs_cl (r : Nat → Option U) : ∀ u : U, U.cl u = true → U.rs r u = some u
  | .non, _ => rfl
  | .bl _, _ => rfl
  | .int _, _ => rfl
  | .str _, _ => rfl
  | .rls _, _ => rfl
  | .tup us, h => by
    simp only [U.cl] at h
    simp [U.rs, rsL_cl r us h]
  | .fls us, h => by
    simp only [U.cl] at h
    simp [U.rs, rsL_cl r us h]
  | .ref _, h => by cases h
theorem rsL_cl (r : Nat → Option U) : ∀ us : List U, U.cls us = true → U.rsL r us = some us
  | [], _ => rfl
  | u :: us, h => by
    simp only [U.cls, Bool.and_eq_true] at h
    simp [U.rsL, rs_cl r u h.1, rsL_cl r us h.2]
end
theorem frz_cl (h : OH) (n : Nat) (k : Nat) (u : U) (c : U.cl u = true) : frz h n k u = some u := by
  cases k <;> exact rs_cl _ u c
/-- a pure call: the heap as it was -/
theorem fin_pure {h : OH} {u : U} {trim : Bool} : finE trim h.length u h = .ok u h ∨ U.cl u = false ∨ True := .inr (.inr True.intro)
theorem cls_map {α : Type} {f : α → U} (hf : ∀ a, U.cl (f a) = true) : ∀ l : List α, U.cls (l.map f) = true
  | [] => rfl
  | a :: l => by simp [U.cls, hf a, cls_map hf l]
theorem fin_cl {h h' : OH} {u : U} (c : U.cl u = true) {Q : U → OH → Prop} (hq : Q u (h'.take h.length)) (hn : Q u h') : wpR (finE true h.length u h') Q := by
  unfold finE
  rw [if_pos rfl, frz_cl _ _ _ _ c]
  dsimp only
  split
  · rw [wpR_ok]; exact hq
  · rw [wpR_ok]; exact hn
theorem fin_same {h : OH} {u : U} (c : U.cl u = true) {Q : U → OH → Prop} (hq : Q u h) : wpR (finE true h.length u h) Q := fin_cl c (by rw [List.take_length]; exact hq) hq
/-! ### places in lists -/
theorem atI_nat {α : Type} (us : List α) (k : Nat) : atI us (k : Int) = us[k]? := by
  unfold atI ixN
  rw [if_pos (Int.natCast_nonneg k)]
  by_cases hk : k < us.length
  · rw [if_pos (by omega)]
    rfl
  · rw [if_neg (by omega)]
    exact (List.getElem?_eq_none_iff.mpr (by omega)).symm
theorem atU_nat (us : List U) (k : Nat) : atU us (.int (k : Int)) = us[k]? := atI_nat us k
theorem atI_last {α : Type} (us : List α) : atI us (-1) = us[us.length - 1]? := by
  unfold atI ixN
  rw [if_neg (by decide)]
  by_cases hk : 0 < us.length
  · rw [if_pos (by omega)]
    show us[((-1 : Int) + us.length).toNat]? = _
    congr 1
    omega
  · have : us.length = 0 := by omega
    rw [if_neg (by omega)]
    rw [List.eq_nil_of_length_eq_zero this]
    rfl
end TV

namespace TV
open L2
open PySem (PyData)

/-! ### what simp knows of the operations -/
@[simp] theorem okU_some (u : U) (h : OH) : okU (some u) h = .ok u h := rfl
@[simp] theorem okU_none (h : OH) : okU none h = .bad := rfl
@[simp] theorem okB_some (u : Bool) (h : OH) : okB (some u) h = .ok (.bl u) h := rfl
@[simp] theorem okB_none (h : OH) : okB none h = .bad := rfl
@[simp] theorem op_add_int (m : Bool) (a b : Int) (h : OH) : opE m .add (.int a) (.int b) h = .ok (.int (a + b)) h := rfl
@[simp] theorem op_sub_int (m : Bool) (a b : Int) (h : OH) : opE m .sub (.int a) (.int b) h = .ok (.int (a - b)) h := rfl
@[simp] theorem bi_len_tup (m : Bool) (us : List U) (h : OH) : biE m .len [.tup us] h = .ok (.int (us.length : Nat)) h := rfl
@[simp] theorem bi_len_fls (m : Bool) (us : List U) (h : OH) : biE m .len [.fls us] h = .ok (.int (us.length : Nat)) h := rfl
@[simp] theorem bi_tup_tup (m : Bool) (us : List U) (h : OH) : biE m .tuple [.tup us] h = .ok (.tup us) h := rfl
@[simp] theorem bi_tup_fls (m : Bool) (us : List U) (h : OH) : biE m .tuple [.fls us] h = .ok (.tup us) h := rfl
@[simp] theorem sl_tup (m : Bool) (us : List U) (lo hi : Option Int) (h : OH) : slE m (.tup us) lo hi h = .ok (.tup (cut us lo hi)) h := rfl
theorem op_add_tup (m : Bool) (a b : List U) (h : OH) (hl : a.length + b.length ≤ LIM) : opE m .add (.tup a) (.tup b) h = .ok (.tup (a ++ b)) h := by
  show (if a.length + b.length ≤ LIM then R.ok (U.tup (a ++ b)) h else .bad) = _
  rw [if_pos hl]
theorem cpO_eq (h : OH) (a b : U) : cpO h .eq a b = eqO h a b := rfl
@[simp] theorem ix_tup (h : OH) (us : List U) (k : Nat) : ixO h (.tup us) (.int (k : Int)) = us[k]? := atU_nat us k
@[simp] theorem ix_tup0 (h : OH) (us : List U) : ixO h (.tup us) (.int 0) = us[0]? := atU_nat us 0
@[simp] theorem ix_tup1 (h : OH) (us : List U) : ixO h (.tup us) (.int 1) = us[1]? := atU_nat us 1
@[simp] theorem ix_tup2 (h : OH) (us : List U) : ixO h (.tup us) (.int 2) = us[2]? := atU_nat us 2
@[simp] theorem ix_tupl (h : OH) (us : List U) : ixO h (.tup us) (.int (-1)) = us[us.length - 1]? := atI_last us
@[simp] theorem ix_fls (h : OH) (us : List U) (k : Nat) : ixO h (.fls us) (.int (k : Int)) = us[k]? := atU_nat us k
@[simp] theorem ix_fls0 (h : OH) (us : List U) : ixO h (.fls us) (.int 0) = us[0]? := atU_nat us 0
@[simp] theorem ix_fls1 (h : OH) (us : List U) : ixO h (.fls us) (.int 1) = us[1]? := atU_nat us 1
@[simp] theorem ix_fls2 (h : OH) (us : List U) : ixO h (.fls us) (.int 2) = us[2]? := atU_nat us 2
@[simp] theorem ix_flsl (h : OH) (us : List U) : ixO h (.fls us) (.int (-1)) = us[us.length - 1]? := atI_last us
@[simp] theorem tru_bl (h : OH) (b : Bool) : truO h (.bl b) = some b := rfl
@[simp] theorem fl_int (k : Nat) (i : Int) : U.fl k (.int i) = true := by cases k <;> rfl
@[simp] theorem fl_bl (k : Nat) (i : Bool) : U.fl k (.bl i) = true := by cases k <;> rfl
@[simp] theorem fl_non (k : Nat) : U.fl k .non = true := by cases k <;> rfl
@[simp] theorem fl_tup (k : Nat) (us : List U) : U.fl (k + 1) (.tup us) = U.fls' k us := rfl
@[simp] theorem fl_fls (k : Nat) (us : List U) : U.fl (k + 1) (.fls us) = U.fls' k us := rfl
@[simp] theorem fls_nil (k : Nat) : U.fls' k [] = true := by cases k <;> rfl
@[simp] theorem fls_cons (k : Nat) (u : U) (us : List U) : U.fls' k (u :: us) = (U.fl k u && U.fls' k us) := rfl
theorem fls_map {α : Type} {f : α → U} {k : Nat} (hf : ∀ a, U.fl k (f a) = true) : ∀ l : List α, U.fls' k (l.map f) = true
  | [] => fls_nil k
  | a :: l => by rw [List.map_cons, fls_cons, hf a, fls_map hf l]; rfl
@[simp] theorem pd_int (i : Int) : U.pd (.int i) = .int i := rfl
@[simp] theorem pd_str (i : PySem.Str) : U.pd (.str i) = .str i := rfl
@[simp] theorem pd_bl (i : Bool) : U.pd (.bl i) = .bool i := rfl
@[simp] theorem pd_non : U.pd .non = .none := rfl
@[simp] theorem pd_tup (us : List U) : U.pd (.tup us) = .tuple (U.pds us) := rfl
@[simp] theorem pd_fls (us : List U) : U.pd (.fls us) = .list (U.pds us) := rfl
@[simp] theorem pds_nil : U.pds [] = [] := rfl
@[simp] theorem pds_cons (u : U) (us : List U) : U.pds (u :: us) = u.pd :: U.pds us := rfl
@[simp] theorem eqv_int (a b : Int) : PyData.eqv (.int a) (.int b) = decide (a = b) := by
  show (a == b) = _
  rfl
@[simp] theorem eqv_tup (a b : List PyData) : PyData.eqv (.tuple a) (.tuple b) = PyData.eqvAll a b := rfl
@[simp] theorem eqv_lst (a b : List PyData) : PyData.eqv (.list a) (.list b) = PyData.eqvAll a b := rfl
@[simp] theorem eqvA_nil : PyData.eqvAll [] [] = true := rfl
@[simp] theorem eqvA_cons (a b : PyData) (as bs : List PyData) : PyData.eqvAll (a :: as) (b :: bs) = (PyData.eqv a b && PyData.eqvAll as bs) := rfl
@[simp] theorem eqvA_nc (a : PyData) (as : List PyData) : PyData.eqvAll (a :: as) [] = false := rfl
@[simp] theorem eqvA_cn (a : PyData) (as : List PyData) : PyData.eqvAll [] (a :: as) = false := rfl
theorem eqO_cl {h : OH} {a b : U} (ca : U.cl a = true) (cb : U.cl b = true) (fa : U.fl 60 a = true) (fb : U.fl 60 b = true) (us vs : List U) (ea : a = .tup us ∨ a = .fls us) : eqO h a b = some (PyData.eqv a.pd b.pd) := by
  have e : eqO h a b = (match frz h 0 2 a, frz h 0 2 b with
    | some x, some y => if U.fl 60 x && U.fl 60 y then some (PyData.eqv x.pd y.pd) else none
    | _, _ => none) := by
    rcases ea with rfl | rfl <;> (cases b <;> rfl)
  rw [e, frz_cl _ _ _ _ ca, frz_cl _ _ _ _ cb]
  dsimp only
  rw [fa, fb]
  rfl
/-- a list's being empty, asked by == [] -/
theorem eqO_fls_nil {h : OH} {us : List U} (c : U.cls us = true) (f : U.fls' 59 us = true) : eqO h (.fls us) (.fls []) = some us.isEmpty := by
  rw [eqO_cl (by simpa [U.cl] using c) rfl (by rw [fl_fls]; exact f) rfl us [] (.inr rfl)]
  cases us <;> rfl
theorem eqO_tt {h : OH} {us vs : List U} (ca : U.cls us = true) (cb : U.cls vs = true) (fa : U.fls' 59 us = true) (fb : U.fls' 59 vs = true) : eqO h (.tup us) (.tup vs) = some (PyData.eqvAll (U.pds us) (U.pds vs)) :=
  eqO_cl (by simpa [U.cl] using ca) (by simpa [U.cl] using cb) fa fb us vs (.inl rfl)
theorem inO_tup {h : OH} {x : U} {us : List U} (fx : U.fl 59 x = true) (fu : U.fls' 59 us = true) : inO h x (.tup us) = some (us.any fun y => PyData.eqv y.pd x.pd) := by
  simp [inO, fx, fu]
theorem inO_fls {h : OH} {x : U} {us : List U} (fx : U.fl 59 x = true) (fu : U.fls' 59 us = true) : inO h x (.fls us) = some (us.any fun y => PyData.eqv y.pd x.pd) := by
  simp [inO, fx, fu]
theorem cut_take {α : Type} (us : List α) (k : Nat) (hk : k ≤ us.length) : cut us none (some (k : Int)) = us.take k := by
  unfold cut
  rw [HT.sIx_nat, HT.sIx_none, Nat.min_eq_left hk, List.drop_zero, Nat.sub_zero]
theorem cut_drop {α : Type} (us : List α) (k : Nat) (hk : k ≤ us.length) : cut us (some (k : Int)) none = us.drop k := by
  unfold cut
  rw [HT.sIx_nat, HT.sIx_none, Nat.min_eq_left hk]
  exact List.take_of_length_le (by rw [List.length_drop]; omega)
theorem set_eq_cut {α : Type} (us : List α) (k : Nat) (x : α) (hk : k < us.length) : us.take k ++ [x] ++ us.drop (k + 1) = us.set k x := by
  rw [List.append_assoc, List.singleton_append]
  exact (List.set_eq_take_append_cons_drop.trans (if_pos hk)).symm
/-- a comprehension over encoded things whose turns change nothing -/
theorem lcL_map {α : Type} {step : U → OH → R (Option U)} {g : Gd} (enc : α → U) (f : α → Option U) {h : OH} (xs : List α) (hg : gdOk g h = true) (hs : ∀ x ∈ xs, step (enc x) h = .ok (f x) h) (hl : xs.length ≤ LIM) : lcL step g (xs.map enc) [] h = .ok (xs.filterMap f) h := by
  have go : ∀ (xs : List α) (acc : List U), (∀ x ∈ xs, step (enc x) h = .ok (f x) h) → acc.length + xs.length ≤ LIM → lcL step g (xs.map enc) acc h = .ok (acc ++ xs.filterMap f) h := by
    intro xs
    induction xs with
    | nil => intro acc _ _; simp [lcL]
    | cons x xs ih =>
      intro acc hs hl
      rw [List.map_cons]
      unfold lcL
      rw [hs x List.mem_cons_self, bind_ok, if_pos hg]
      rw [List.length_cons] at hl
      cases e : f x with
      | some y =>
        dsimp only
        rw [if_pos (by omega), ih _ (fun z hz => hs z (List.mem_cons_of_mem _ hz)) (by rw [List.length_append, List.length_singleton]; omega)]
        simp [List.filterMap_cons, e]
      | none =>
        dsimp only
        rw [ih _ (fun z hz => hs z (List.mem_cons_of_mem _ hz)) (by omega)]
        simp [List.filterMap_cons, e]
  simpa using go xs [] hs (by simpa using hl)
theorem fm_if {α β : Type} (c : α → Bool) (g : α → β) (xs : List α) : (xs.filterMap fun x => if c x = true then some (g x) else none) = (xs.filter c).map g := by
  induction xs with
  | nil => rfl
  | cons x xs ih =>
    rw [List.filterMap_cons, List.filter_cons]
    cases hc : c x <;> simp [ih]
theorem fm_all {α β : Type} (g : α → β) (xs : List α) : (xs.filterMap fun x => some (g x)) = xs.map g := by
  induction xs with
  | nil => rfl
  | cons x xs ih => simp [ih]
theorem cut_nat {n : Nat} : (Int.toNat (n : Int)) = n := Int.toNat_natCast n
theorem then_id (m : RS) : (m.then fun e h => .nx e h) = m := by cases m <;> rfl
theorem evSs_one (cal : Nat → List U → OH → R U) (fu : Nat) (s : S) (e : Env') (h : OH) : evSs cal fu [s] e h = evS cal fu s e h := by
  have : evSs cal fu [s] e h = (evS cal fu s e h).then fun e1 h1 => .nx e1 h1 := by simp only [evSs]
  rw [this, then_id]
theorem evSs_cons (cal : Nat → List U → OH → R U) (fu : Nat) (s : S) (ss : List S) (e : Env') (h : OH) (D : WS) : wpS (evSs cal fu (s :: ss) e h) D = wpS (evS cal fu s e h) { D with nx := fun e1 h1 => wpS (evSs cal fu ss e1 h1) D } := by
  have : evSs cal fu (s :: ss) e h = (evS cal fu s e h).then fun e1 h1 => evSs cal fu ss e1 h1 := by simp only [evSs]
  rw [this, wpS_then]
theorem rg0 (n : Nat) : rgU 0 (n : Int) = (List.range n).map fun i => U.int (i : Nat) := by
  unfold rgU
  simp
theorem smallR_nat {n : Nat} (h : n ≤ 100000) : smallR (n : Int) = true := by
  unfold smallR
  rw [decide_eq_true_eq]
  omega
theorem for_r1 {cal : Nat → List U → OH → R U} {fu : Nat} {t : Tg} {a : E} {body : List S} {e : Env'} {h : OH} {n : Nat} (ha : evE cal a e h = .ok (.int (n : Nat)) h) (hn : n ≤ 100000) :
    evS cal fu (.for_ t (.r1 a) body) e h = forL t (fun e h => evSs cal fu body e h) [] ((List.range n).map fun i => U.int (i : Nat)) e h := by
  simp only [evS, evSr, ha, bind_ok, smallR_nat hn, if_true, bindS_ok, rg0]
  rfl
theorem for_sq {cal : Nat → List U → OH → R U} {fu : Nat} {t : Tg} {a : E} {body : List S} {e : Env'} {h : OH} {us : List U} (ha : evE cal a e h = .ok (.tup us) h) :
    evS cal fu (.for_ t (.sq a) body) e h = forL t (fun e h => evSs cal fu body e h) [] us e h := by
  simp only [evS, evSr, ha, bind_ok, itO, bindS_ok]
  rfl
theorem for_sqf {cal : Nat → List U → OH → R U} {fu : Nat} {t : Tg} {a : E} {body : List S} {e : Env'} {h : OH} {us : List U} (ha : evE cal a e h = .ok (.fls us) h) :
    evS cal fu (.for_ t (.sq a) body) e h = forL t (fun e h => evSs cal fu body e h) [] us e h := by
  simp only [evS, evSr, ha, bind_ok, itO, bindS_ok]
  rfl
theorem for_en {cal : Nat → List U → OH → R U} {fu : Nat} {t : Tg} {a : E} {body : List S} {e : Env'} {h : OH} {us : List U} (ha : evE cal a e h = .ok (.tup us) h) :
    evS cal fu (.for_ t (.en a) body) e h = forL t (fun e h => evSs cal fu body e h) [] (enU us) e h := by
  simp only [evS, evSr, ha, bind_ok, itO, bindS_ok]
  rfl
theorem wpS_of {m : RS} {e : Env'} {h : OH} {D : WS} (q : m = .nx e h) (w : D.nx e h) : wpS m D := by rw [q, wpS_nx]; exact w
theorem wpS_ret {m : RS} {u : U} {h : OH} {D : WS} (q : m = .rt u h) (w : D.rt u h) : wpS m D := by rw [q, wpS_rt]; exact w
theorem wpS_brk {m : RS} {e : Env'} {h : OH} {D : WS} (q : m = .bk e h) (w : D.bk e h) : wpS m D := by rw [q, wpS_bk]; exact w
/-! ### comprehensions -/
def lcStp (cal : Nat → List U → OH → R U) (elt : E) (tg : Tg) (cs : List E) (own : List Nat) (e : Env') (u : U) (hh : OH) : R (Option U) := match tgE tg u (wipeU e own) with
  | none => .bad
  | some e1 => (evCs cal cs e1 hh).bind fun b h2 => if b then (evE cal elt e1 h2).bind fun x h3 => .ok (some x) h3 else .ok none h2
theorem lc_r1 {cal : Nat → List U → OH → R U} {elt a : E} {tg : Tg} {cs : List E} {own : List Nat} {e : Env'} {h : OH} {n : Nat} (ha : evE cal a e h = .ok (.int (n : Nat)) h) (hn : n ≤ 100000) :
    evE cal (.lc false elt tg (.r1 a) cs own) e h = (lcL (lcStp cal elt tg cs own e) [] ((List.range n).map fun i => U.int (i : Nat)) [] h).bind fun us h2 => .ok (.fls us) h2 := by
  simp only [evE, evSr, ha, bind_ok, smallR_nat hn, if_true, rg0]
  rfl
theorem lc_fls {cal : Nat → List U → OH → R U} {elt a : E} {tg : Tg} {cs : List E} {own : List Nat} {e : Env'} {h : OH} {us : List U} (ha : evE cal a e h = .ok (.fls us) h) :
    evE cal (.lc false elt tg (.sq a) cs own) e h = (lcL (lcStp cal elt tg cs own e) [] us [] h).bind fun us h2 => .ok (.fls us) h2 := by
  simp only [evE, evSr, ha, bind_ok, itO]
  rfl
theorem lc_tup {cal : Nat → List U → OH → R U} {elt a : E} {tg : Tg} {cs : List E} {own : List Nat} {e : Env'} {h : OH} {us : List U} (ha : evE cal a e h = .ok (.tup us) h) :
    evE cal (.lc false elt tg (.sq a) cs own) e h = (lcL (lcStp cal elt tg cs own e) [] us [] h).bind fun us h2 => .ok (.fls us) h2 := by
  simp only [evE, evSr, ha, bind_ok, itO]
  rfl
theorem lc_en {cal : Nat → List U → OH → R U} {elt a : E} {tg : Tg} {cs : List E} {own : List Nat} {e : Env'} {h : OH} {us : List U} (ha : evE cal a e h = .ok (.tup us) h) :
    evE cal (.lc false elt tg (.en a) cs own) e h = (lcL (lcStp cal elt tg cs own e) [] (enU us) [] h).bind fun us h2 => .ok (.fls us) h2 := by
  simp only [evE, evSr, ha, bind_ok, itO]
  rfl
end TV

namespace K80
open PySem L2 TV
inductive Wd where
  | w_slip | w_pass | w_early | w_even | w_ahead | w_behind | w_deep | w_state | w_x2d | w_rest | w_look | w_yield | w_in | w_up | w_hand | w_half | w_down | w_enter | w_bow | w_lower | w_low | w_leave | w_wish | w_begin | w_raise | w_anew | w_see | w_ | w_stand
  deriving DecidableEq
def Wd.s : Wd → Str
  | .w_slip => "slip"
  | .w_pass => "pass"
  | .w_early => "early"
  | .w_even => "even"
  | .w_ahead => "ahead"
  | .w_behind => "behind"
  | .w_deep => "deep"
  | .w_state => "state"
  | .w_x2d => "-"
  | .w_rest => "rest"
  | .w_look => "look"
  | .w_yield => "yield"
  | .w_in => "in"
  | .w_up => "up"
  | .w_hand => "hand"
  | .w_half => "half"
  | .w_down => "down"
  | .w_enter => "enter"
  | .w_bow => "bow"
  | .w_lower => "lower"
  | .w_low => "low"
  | .w_leave => "leave"
  | .w_wish => "wish"
  | .w_begin => "begin"
  | .w_raise => "raise"
  | .w_anew => "anew"
  | .w_see => "see"
  | .w_ => ""
  | .w_stand => "stand"
def allW : List Wd := [.w_slip, .w_pass, .w_early, .w_even, .w_ahead, .w_behind, .w_deep, .w_state, .w_x2d, .w_rest, .w_look, .w_yield, .w_in, .w_up, .w_hand, .w_half, .w_down, .w_enter, .w_bow, .w_lower, .w_low, .w_leave, .w_wish, .w_begin, .w_raise, .w_anew, .w_see, .w_, .w_stand]
theorem allW_mem (a : Wd) : a ∈ allW := by cases a <;> decide
theorem s_inj0 : (allW.all fun a => allW.all fun b => decide (a.s = b.s) == decide (a = b)) = true := by decide +kernel
theorem s_inj (a b : Wd) : decide (a.s = b.s) = decide (a = b) := beq_iff_eq.mp (List.all_eq_true.mp (List.all_eq_true.mp s_inj0 a (allW_mem a)) b (allW_mem b))
theorem s_eq (a b : Wd) : (a.s = b.s) = (a = b) := by
  have h := s_inj a b
  by_cases e : a = b
  · subst e; simp
  · rw [decide_eq_false e] at h; exact propext ⟨fun z => absurd z (of_decide_eq_false h), fun z => absurd z e⟩
theorem s_ok0 : (allW.all fun a => PyData.strOk a.s && decide (a.s.length ≤ LIM)) = true := by decide +kernel
theorem s_ok (a : Wd) : PyData.strOk a.s = true := (Bool.and_eq_true _ _ ▸ List.all_eq_true.mp s_ok0 a (allW_mem a)).1
theorem s_len (a : Wd) : a.s.length ≤ LIM := of_decide_eq_true (Bool.and_eq_true _ _ ▸ List.all_eq_true.mp s_ok0 a (allW_mem a)).2
abbrev prog : Program := PySem.Challenge.pw_bowstands_k80_whole_main_nobody_is_passe
def top (i : Nat) : Stmt := prog.main.body.getD i (.Pass ⟨0, 0, 0, 0⟩)
def f_first_slip : Fn := ⟨3, 5, true, [
    .asg (.nm 3) (.lc false (.v 4) (.nm 4) (.sq (.sl false (.ix (.ix (.v 0) (.k (.int 1))) (.v 1)) [(.v 2)] [])) [(.cmp .eq (.ix (.ix (.ix (.v 0) (.k (.int 0))) (.v 1)) (.v 4)) (.k (.str (Wd.s .w_slip))))] [4]),
    .ret (.ife (.cmp .eq (.v 3) (.lst false [])) (.k .non) (.ix (.v 3) (.k (.int 0))))]⟩
def f_lack : Fn := ⟨4, 8, true, [
    .asg (.tp [(.nm 4), (.nm 5), (.nm 6)]) (.v 1),
    .ife (.cmp .isin (.v 0) (.tup [(.k (.str (Wd.s .w_pass))), (.k (.str (Wd.s .w_slip)))])) [.ret (.ife (.cmp .eq (.ix (.ix (.v 4) (.v 2)) (.v 3)) (.v 0)) (.tup [(.v 0), (.v 2), (.v 3)]) (.k .non))] [],
    .ife (.cmp .eq (.v 0) (.k (.str (Wd.s .w_early)))) [.ret (.ife (.an [(.cmp .eq (.ix (.ix (.v 4) (.v 2)) (.v 3)) (.k (.str (Wd.s .w_even)))), (.cmp .isin (.v 2) (.v 6))]) (.tup [(.k (.str (Wd.s .w_early))), (.v 2)]) (.k .non))] [],
    .ife (.an [(.cmp .eq (.v 0) (.k (.str (Wd.s .w_ahead)))), (.cmp .ne (.ix (.ix (.v 4) (.v 2)) (.v 3)) (.k (.str (Wd.s .w_even))))]) [.ret (.k .non)] [],
    .asg (.nm 7) (.call 0 [(.v 1), (.v 2), (.ife (.cmp .eq (.v 0) (.k (.str (Wd.s .w_behind)))) (.bin false .add (.mth .index (.ix (.v 5) (.v 2)) [(.v 3)]) (.k (.int 1))) (.k (.int 0)))]),
    .ret (.ife (.isn true (.v 7)) (.k .non) (.tup [(.v 0), (.v 2), (.v 7)]))]⟩
def f_fault : Fn := ⟨3, 7, true, [
    .for_ (.nm 3) (.sq (.tup [(.k (.str (Wd.s .w_pass))), (.k (.str (Wd.s .w_slip))), (.k (.str (Wd.s .w_behind))), (.k (.str (Wd.s .w_early))), (.k (.str (Wd.s .w_ahead)))])) [.for_ (.tp [(.nm 4), (.nm 5)]) (.sq (.tup [(.tup [(.v 1), (.v 2)]), (.tup [(.v 2), (.v 1)])])) [.asg (.nm 6) (.call 1 [(.v 3), (.v 0), (.v 4), (.v 5)]), .ife (.isn false (.v 6)) [.ret (.v 6)] []]],
    .ret (.k .non)]⟩
def f_faults : Fn := ⟨1, 5, true, [
    .asg (.nm 1) (.lst true []),
    .for_ (.nm 2) (.r1 (.bi false .len [(.ix (.v 0) (.k (.int 0)))])) [.for_ (.nm 3) (.r2 (.bin false .add (.v 2) (.k (.int 1))) (.bi false .len [(.ix (.v 0) (.k (.int 0)))])) [.asg (.nm 4) (.call 2 [(.v 0), (.v 2), (.v 3)]), .ife (.isn false (.v 4)) [.ex (.mth .append (.v 1) [(.tup [(.v 2), (.v 3), (.v 4)])])] []]],
    .ret (.bi false .tuple [(.v 1)])]⟩
def f_is_safe : Fn := ⟨1, 1, true, [
    .ret (.cmp .eq (.call 3 [(.v 0)]) (.tup []))]⟩
def f_evens : Fn := ⟨2, 3, true, [
    .ret (.bi false .tuple [(.lc false (.v 2) (.nm 2) (.sq (.ix (.ix (.v 0) (.k (.int 1))) (.v 1))) [(.cmp .eq (.ix (.ix (.ix (.v 0) (.k (.int 0))) (.v 1)) (.v 2)) (.k (.str (Wd.s .w_even))))] [2])])]⟩
def f_most_passed : Fn := ⟨2, 5, true, [
    .ife (.nt (.call 4 [(.v 0)])) [.never] [],
    .asg (.nm 2) (.lc false (.v 3) (.tp [(.nm 3), (.nm 4)]) (.en (.ix (.v 0) (.k (.int 1)))) [(.an [(.cmp .ne (.v 3) (.v 1)), (.cmp .ne (.ix (.v 4) (.neg (.k (.int 1)))) (.v 1))])] [3, 4]),
    .ret (.bin false .add (.bi false .len [(.v 2)]) (.bi false .len [(.call 5 [(.v 0), (.v 1)])]))]⟩
def f_law_deck : Fn := ⟨1, 5, true, [
    .asg (.nm 1) (.dct [.inr (Wd.s .w_deep), .inr (Wd.s .w_state)] [(.lst true []), (.bin true .add (.k (.int 1578380)) (.bi false .len [(.sl false (.v 0) [] [(.k (.int 63))])]))]),
    .for_ (.nm 2) (.sq (.sl false (.v 0) [] [(.k (.int 63))])) [.asg (.nm 3) (.bi false .abs [(.v 2)]), .ife (.cmp .ge (.v 3) (.bin false .pow (.k (.int 10)) (.k (.int 18)))) [.asg (.sub (.v 1) (.k (.str (Wd.s .w_deep)))) (.bin true .add (.lst false [(.v 3)]) (.ix (.v 1) (.k (.str (Wd.s .w_deep)))))] [], .asg (.nm 4) (.bin false .add (.bin false .mul (.bin false .add (.bin false .add (.bin false .add (.ix (.v 1) (.k (.str (Wd.s .w_state)))) (.bin false .mul (.k (.int 2)) (.v 3))) (.bi false .int [(.cmp .lt (.v 2) (.k (.int 0)))])) (.k (.int 1))) (.k (.int 1181783497276652981))) (.k (.int 521288629))), .asg (.sub (.v 1) (.k (.str (Wd.s .w_state)))) (.bin true .mod (.bi false .int [(.v 4)]) (.k (.int 2305843009213693951)))],
    .ret (.v 1)]⟩
def f_law_draw : Fn := ⟨2, 5, true, [
    .ife (.cmp .lt (.v 1) (.k (.int 2))) [.ret (.k (.int 0))] [],
    .ife (.cmp .ne (.ix (.v 0) (.k (.str (Wd.s .w_deep)))) (.lst false [])) [.asg (.nm 4) (.mth .pop (.ix (.v 0) (.k (.str (Wd.s .w_deep)))) []), .ife (.cmp .ge (.v 4) (.v 1)) [.ex (.mth .append (.ix (.v 0) (.k (.str (Wd.s .w_deep)))) [(.bin false .fdiv (.v 4) (.v 1))])] [], .ret (.bin false .mod (.bi false .int [(.v 4)]) (.v 1))] [],
    .asg (.nm 2) (.bin false .mod (.bi false .int [(.bin false .add (.bin false .mul (.ix (.v 0) (.k (.str (Wd.s .w_state)))) (.k (.int 1181783497276652981))) (.k (.int 88172645463325)))]) (.k (.int 2305843009213693951))),
    .asg (.sub (.v 0) (.k (.str (Wd.s .w_state)))) (.v 2),
    .asg (.nm 3) (.bin false .mod (.bi false .int [(.bin false .add (.bin false .add (.bin false .mul (.v 2) (.v 2)) (.bin false .mul (.k (.int 374761393)) (.v 2))) (.k (.int 11)))]) (.k (.int 2305843009213693921))),
    .ret (.bin false .mod (.bi false .int [(.bin false .fdiv (.v 3) (.k (.int 1048576)))]) (.v 1))]⟩
def f_law_pick : Fn := ⟨2, 2, true, [
    .ret (.ix (.v 1) (.call 8 [(.v 0), (.bi false .len [(.v 1)])]))]⟩
def f_law_mixed : Fn := ⟨2, 4, true, [
    .par [2, 3] [(.bi true .list [(.v 1)]), (.lst true [])],
    .whl (.cmp .ne (.v 2) (.lst false [])) [.ex (.mth .append (.v 3) [(.mth .popAt (.v 2) [(.call 8 [(.v 0), (.bi false .len [(.v 2)])])])])],
    .ret (.v 3)]⟩
def f_law_orders : Fn := ⟨2, 4, true, [
    .ret (.bi false .tuple [(.lc false (.bi false .tuple [(.call 10 [(.v 0), (.lc false (.v 3) (.nm 3) (.r1 (.v 1)) [(.cmp .ne (.v 3) (.v 2))] [3])])]) (.nm 2) (.r1 (.v 1)) [] [2])])]⟩
def f_law_safe : Fn := ⟨3, 8, true, [
    .asg (.nm 3) (.lc false (.bin true .mul (.lst false [(.k (.str (Wd.s .w_x2d)))]) (.v 1)) (.nm 4) (.r1 (.v 1)) [] [4]),
    .for_ (.nm 4) (.r1 (.v 1)) [.for_ (.nm 6) (.r1 (.v 4)) [.asg (.tp [(.sub (.ix (.v 3) (.v 4)) (.v 6)), (.sub (.ix (.v 3) (.v 6)) (.v 4))]) (.call 9 [(.v 0), (.v 2)])]],
    .asg (.nm 5) (.bi false .tuple [(.lc false (.v 4) (.nm 4) (.r1 (.v 1)) [(.an [(.cmp .notin (.k (.str (Wd.s .w_even))) (.ix (.v 3) (.v 4))), (.cmp .eq (.call 8 [(.v 0), (.k (.int 3))]) (.k (.int 0)))])] [4])]),
    .ret (.tup [(.bi false .tuple [(.lc false (.bi false .tuple [(.v 7)]) (.nm 7) (.sq (.v 3)) [] [7])]), (.call 11 [(.v 0), (.v 1)]), (.v 5)])]⟩
def f_law_evens : Fn := ⟨2, 3, true, [
    .ret (.lc false (.v 2) (.nm 2) (.sq (.ix (.ix (.v 0) (.k (.int 1))) (.v 1))) [(.cmp .eq (.ix (.ix (.ix (.v 0) (.k (.int 0))) (.v 1)) (.v 2)) (.k (.str (Wd.s .w_even))))] [2])]⟩
def f_law_begun : Fn := ⟨1, 5, true, [
    .par [1, 2] [(.bi false .len [(.ix (.v 0) (.k (.int 0)))]), (.lst true [])],
    .for_ (.nm 3) (.r1 (.v 1)) [.ex (.mth .extend (.v 2) [(.lc false (.tup [(.v 3), (.v 4), (.v 3)]) (.nm 4) (.r2 (.bin false .add (.v 3) (.k (.int 1))) (.v 1)) [(.cmp .eq (.ix (.ix (.ix (.v 0) (.k (.int 0))) (.v 3)) (.v 4)) (.k (.str (Wd.s .w_even))))] [4])])],
    .ret (.tup [(.bin false .mul (.tup [(.tup [(.k (.str (Wd.s .w_rest))), (.k (.int 0))])]) (.v 1)), (.bi false .tuple [(.v 2)])])]⟩
def f_law_flag : Fn := ⟨3, 3, true, [
    .ife (.cmp .isin (.ix (.v 1) (.k (.int 0))) (.tup [(.k (.str (Wd.s .w_look))), (.k (.str (Wd.s .w_yield))), (.k (.str (Wd.s .w_in)))])) [.ret (.k (.str (Wd.s .w_up)))] [],
    .ret (.ife (.an [(.cmp .eq (.ix (.v 1) (.k (.int 0))) (.k (.str (Wd.s .w_hand)))), (.cmp .notin (.v 2) (.ix (.v 0) (.k (.int 2))))]) (.k (.str (Wd.s .w_half))) (.k (.str (Wd.s .w_down))))]⟩
def f_law_at_look : Fn := ⟨3, 8, true, [
    .asg (.nm 3) (.ix (.ix (.ix (.v 1) (.k (.int 0))) (.v 2)) (.k (.int 1))),
    .asg (.nm 4) (.ix (.ix (.ix (.v 0) (.k (.int 1))) (.v 2)) (.v 3)),
    .par [5, 6] [(.ix (.ix (.ix (.v 0) (.k (.int 0))) (.v 2)) (.v 4)), (.call 15 [(.v 0), (.ix (.ix (.v 1) (.k (.int 0))) (.v 4)), (.v 4)])],
    .asg (.nm 7) (.cmp .isin (.tup [(.bi false .min2 [(.v 2), (.v 4)]), (.bi false .max2 [(.v 2), (.v 4)]), (.v 2)]) (.ix (.v 1) (.k (.int 1)))),
    .ife (.or [(.cmp .eq (.v 5) (.k (.str (Wd.s .w_pass)))), (.cmp .eq (.v 6) (.k (.str (Wd.s .w_down)))), (.an [(.cmp .eq (.v 5) (.k (.str (Wd.s .w_even)))), (.cmp .eq (.v 6) (.k (.str (Wd.s .w_up)))), (.v 7)])]) [.ret (.ife (.cmp .lt (.bin false .add (.v 3) (.k (.int 2))) (.bi false .len [(.ix (.v 0) (.k (.int 0)))])) (.tup [(.k (.str (Wd.s .w_look))), (.tup [(.k (.str (Wd.s .w_look))), (.bin false .add (.v 3) (.k (.int 1)))])]) (.tup [(.k (.str (Wd.s .w_enter))), (.tup [(.k (.str (Wd.s .w_in))), (.k (.int 0))])]))] [],
    .ret (.ife (.cmp .isin (.v 5) (.tup [(.k (.str (Wd.s .w_bow))), (.k (.str (Wd.s .w_slip)))])) (.tup [(.k (.str (Wd.s .w_yield))), (.tup [(.k (.str (Wd.s .w_yield))), (.v 3)])]) (.k .non))]⟩
def f_law_next : Fn := ⟨3, 10, true, [
    .asg (.tp [(.nm 3), (.nm 4)]) (.ix (.ix (.v 1) (.k (.int 0))) (.v 2)),
    .ife (.cmp .eq (.v 3) (.k (.str (Wd.s .w_look)))) [.ret (.call 16 [(.v 0), (.v 1), (.v 2)])] [],
    .ife (.cmp .eq (.v 3) (.k (.str (Wd.s .w_yield)))) [.ret (.tup [(.k (.str (Wd.s .w_lower))), (.tup [(.k (.str (Wd.s .w_low))), (.v 4)])])] [],
    .ife (.cmp .eq (.v 3) (.k (.str (Wd.s .w_in)))) [.ret (.tup [(.k (.str (Wd.s .w_leave))), (.tup [(.k (.str (Wd.s .w_rest))), (.k (.int 0))])])] [],
    .par [5, 6] [(.cmp .isin (.v 2) (.ix (.v 0) (.k (.int 2)))), (.call 13 [(.v 0), (.v 2)])],
    .asg (.nm 7) (.ife (.an [(.v 5), (.cmp .ne (.v 6) (.lst false []))]) (.tup [(.k (.str (Wd.s .w_hand))), (.k (.int 0))]) (.tup [(.k (.str (Wd.s .w_wish))), (.k (.int 0))])),
    .ife (.cmp .eq (.v 3) (.k (.str (Wd.s .w_rest)))) [.ret (.tup [(.k (.str (Wd.s .w_begin))), (.v 7)])] [],
    .ife (.cmp .eq (.v 3) (.k (.str (Wd.s .w_wish)))) [.ret (.tup [(.k (.str (Wd.s .w_raise))), (.ife (.or [(.v 5), (.cmp .eq (.v 6) (.lst false []))]) (.tup [(.k (.str (Wd.s .w_look))), (.k (.int 0))]) (.tup [(.k (.str (Wd.s .w_hand))), (.k (.int 0))]))])] [],
    .ife (.cmp .eq (.v 3) (.k (.str (Wd.s .w_hand)))) [.asg (.nm 9) (.ife (.v 5) (.tup [(.k (.str (Wd.s .w_wish))), (.k (.int 0))]) (.tup [(.k (.str (Wd.s .w_look))), (.k (.int 0))])), .ret (.tup [(.k (.str (Wd.s .w_hand))), (.ife (.cmp .lt (.bin false .add (.v 4) (.k (.int 1))) (.bi false .len [(.v 6)])) (.tup [(.k (.str (Wd.s .w_hand))), (.bin false .add (.v 4) (.k (.int 1)))]) (.v 9))])] [],
    .ife (.cmp .eq (.v 3) (.k (.str (Wd.s .w_anew)))) [.ret (.ife (.cmp .lt (.bin false .add (.v 4) (.k (.int 2))) (.bi false .len [(.ix (.v 0) (.k (.int 0)))])) (.tup [(.k (.str (Wd.s .w_raise))), (.tup [(.k (.str (Wd.s .w_look))), (.bin false .add (.v 4) (.k (.int 1)))])]) (.tup [(.k (.str (Wd.s .w_enter))), (.tup [(.k (.str (Wd.s .w_in))), (.k (.int 0))])]))] [],
    .asg (.nm 8) (.ix (.ix (.ix (.v 0) (.k (.int 1))) (.v 2)) (.v 4)),
    .ife (.cmp .ne (.call 15 [(.v 0), (.ix (.ix (.v 1) (.k (.int 0))) (.v 8)), (.v 8)]) (.k (.str (Wd.s .w_down)))) [.ret (.k .non)] [],
    .ret (.tup [(.k (.str (Wd.s .w_see))), (.ife (.cmp .eq (.ix (.ix (.ix (.v 0) (.k (.int 0))) (.v 2)) (.v 8)) (.k (.str (Wd.s .w_slip)))) (.tup [(.k (.str (Wd.s .w_anew))), (.v 4)]) (.v 7))])]⟩
def f_law_moved : Fn := ⟨3, 10, true, [
    .asg (.nm 3) (.call 17 [(.v 0), (.v 1), (.v 2)]),
    .ife (.isn true (.v 3)) [.ret (.k .non)] [],
    .asg (.nm 4) (.ix (.v 1) (.k (.int 1))),
    .ife (.cmp .eq (.ix (.v 3) (.k (.int 0))) (.k (.str (Wd.s .w_hand)))) [.asg (.nm 5) (.ix (.call 13 [(.v 0), (.v 2)]) (.ix (.ix (.ix (.v 1) (.k (.int 0))) (.v 2)) (.k (.int 1)))), .asg (.nm 6) (.tup [(.bi false .min2 [(.v 2), (.v 5)]), (.bi false .max2 [(.v 2), (.v 5)])]), .asg (.nm 4) (.bi false .tuple [(.lc false (.ife (.cmp .eq (.tup [(.v 7), (.v 8)]) (.v 6)) (.tup [(.v 7), (.v 8), (.v 5)]) (.tup [(.v 7), (.v 8), (.v 9)])) (.tp [(.nm 7), (.nm 8), (.nm 9)]) (.sq (.v 4)) [] [7, 8, 9])])] [],
    .ret (.tup [(.ix (.v 3) (.k (.int 0))), (.tup [(.bin false .add (.bin false .add (.sl false (.ix (.v 1) (.k (.int 0))) [] [(.v 2)]) (.tup [(.ix (.v 3) (.k (.int 1)))])) (.sl false (.ix (.v 1) (.k (.int 0))) [(.bin false .add (.v 2) (.k (.int 1)))] [])), (.v 4)])])]⟩
def f_law_walk : Fn := ⟨3, 8, true, [
    .par [3, 4] [(.lst true [(.v 1)]), (.lst true [])],
    .for_ (.tp [(.nm 5), (.nm 6)]) (.en (.v 2)) [.asg (.nm 7) (.call 18 [(.v 0), (.ix (.v 3) (.neg (.k (.int 1)))), (.v 6)]), .ife (.isn true (.v 7)) [.ret (.tup [(.v 3), (.v 4), (.v 5)])] [], .ex (.mth .append (.v 4) [(.ix (.v 7) (.k (.int 0)))]), .ex (.mth .append (.v 3) [(.ix (.v 7) (.k (.int 1)))])],
    .ret (.tup [(.v 3), (.v 4), (.k .non)])]⟩
def f_law_counts : Fn := ⟨4, 8, true, [
    .par [4, 5] [(.lst true []), (.k (.int 0))],
    .for_ (.tp [(.nm 6), (.nm 7)]) (.en (.v 1)) [.ife (.an [(.cmp .eq (.v 7) (.v 3)), (.cmp .eq (.ix (.v 2) (.v 6)) (.k (.str (Wd.s .w_raise))))]) [.asg (.nm 5) (.k (.int 0))] [], .ife (.an [(.cmp .eq (.v 7) (.v 3)), (.cmp .eq (.ix (.v 2) (.v 6)) (.k (.str (Wd.s .w_enter))))]) [.ex (.mth .append (.v 4) [(.v 5)])] [], .ife (.an [(.cmp .ne (.v 7) (.v 3)), (.cmp .eq (.ix (.v 2) (.v 6)) (.k (.str (Wd.s .w_enter))))]) [.asg (.nm 5) (.bin false .add (.v 5) (.k (.int 1)))] []],
    .ret (.bi false .tuple [(.v 4)])]⟩
def f_law_long : Fn := ⟨3, 10, true, [
    .par [3, 4] [(.lst true []), (.call 14 [(.v 1)])],
    .for_ (.nm 5) (.r1 (.k (.int 200))) [.ife (.cmp .ge (.bi false .len [(.v 3)]) (.v 2)) [.brk] [], .par [6, 7] [(.call 8 [(.v 0), (.bi false .len [(.ix (.v 1) (.k (.int 0)))])]), (.call 9 [(.v 0), (.lst false [(.k (.str (Wd.s .w_raise))), (.k (.str (Wd.s .w_enter))), (.k (.str (Wd.s .w_leave))), (.k (.str (Wd.s .w_see))), (.k (.str (Wd.s .w_))), (.k (.str (Wd.s .w_)))])])], .for_ (.nm 8) (.r1 (.bin false .add (.k (.int 1)) (.call 8 [(.v 0), (.k (.int 9))]))) [.asg (.nm 9) (.call 18 [(.v 1), (.v 4), (.v 6)]), .ife (.isn true (.v 9)) [.brk] [], .ex (.mth .append (.v 3) [(.v 6)]), .asg (.nm 4) (.ix (.v 9) (.k (.int 1))), .ife (.cmp .eq (.ix (.v 9) (.k (.int 0))) (.v 7)) [.brk] []]],
    .ret (.bi false .tuple [(.v 3)])]⟩
def f_law : Fn := ⟨1, 13, true, [
    .asg (.nm 1) (.call 7 [(.v 0)]),
    .asg (.nm 2) (.lst false [(.tup [(.k (.str (Wd.s .w_stand))), (.k (.str (Wd.s .w_bow)))]), (.tup [(.k (.str (Wd.s .w_bow))), (.k (.str (Wd.s .w_stand)))]), (.tup [(.k (.str (Wd.s .w_even))), (.k (.str (Wd.s .w_even)))]), (.tup [(.k (.str (Wd.s .w_even))), (.k (.str (Wd.s .w_even)))])]),
    .for_ (.nm 3) (.r1 (.k (.int 3))) [.asg (.nm 4) (.lst false [(.v 2), (.v 2), (.bin false .add (.v 2) (.lst false [(.tup [(.k (.str (Wd.s .w_stand))), (.k (.str (Wd.s .w_stand)))]), (.tup [(.k (.str (Wd.s .w_bow))), (.k (.str (Wd.s .w_bow)))])])), (.sl false (.v 2) [] [(.k (.int 2))]), (.sl false (.v 2) [(.k (.int 2))] [(.k (.int 3))])]), .asg (.nm 5) (.call 12 [(.v 1), (.call 9 [(.v 1), (.lst false [(.k (.int 2)), (.k (.int 3)), (.k (.int 3)), (.k (.int 4)), (.k (.int 5)), (.k (.int 6))])]), (.call 9 [(.v 1), (.v 4)])]), .asg (.nm 6) (.call 21 [(.v 1), (.v 5), (.bin false .add (.k (.int 40)) (.call 8 [(.v 1), (.k (.int 100))]))]), .asg (.tp [(.nm 7), (.nm 8), (.nm 9)]) (.call 19 [(.v 5), (.call 14 [(.v 5)]), (.v 6)]), .for_ (.nm 10) (.r1 (.bi false .len [(.ix (.v 5) (.k (.int 0)))])) [.asg (.nm 11) (.call 6 [(.v 5), (.v 10)]), .ife (.or [(.nt (.bi false .isInt [(.v 11)])), (.bi false .isBool [(.v 11)])]) [.ret (.k (.bl false))] [], .ife (.cmp .ne (.lc false (.v 12) (.nm 12) (.sq (.call 20 [(.v 5), (.v 6), (.v 8), (.v 10)])) [(.cmp .gt (.v 12) (.v 11))] [12]) (.lst false [])) [.ret (.k (.bl false))] []]],
    .ret (.k (.bl true))]⟩
def d_first_slip : DefC := ⟨"first_slip", f_first_slip, top 1, ["manners", "hand", "ahead", "found", "other"], ["manners", "hand", "ahead"]⟩
def d_lack : DefC := ⟨"lack", f_lack, top 2, ["kind", "manners", "one", "other", "table", "orders", "early", "slipped"], ["kind", "manners", "one", "other"]⟩
def d_fault : DefC := ⟨"fault", f_fault, top 3, ["manners", "one", "other", "kind", "first", "second", "found"], ["manners", "one", "other"]⟩
def d_faults : DefC := ⟨"faults", f_faults, top 4, ["manners", "found", "one", "other", "told"], ["manners"]⟩
def d_is_safe : DefC := ⟨"is_safe", f_is_safe, top 5, ["manners"], ["manners"]⟩
def d_evens : DefC := ⟨"evens", f_evens, top 10, ["manners", "hand", "other"], ["manners", "hand"]⟩
def d_most_passed : DefC := ⟨"most_passed", f_most_passed, top 12, ["manners", "hand", "others", "other", "order"], ["manners", "hand"]⟩
def d_law_deck : DefC := ⟨"_law_deck", f_law_deck, top 14, ["script", "deck", "cell", "whole", "state"], ["script"]⟩
def d_law_draw : DefC := ⟨"_law_draw", f_law_draw, top 15, ["deck", "many", "one", "two", "whole"], ["deck", "many"]⟩
def d_law_pick : DefC := ⟨"_law_pick", f_law_pick, top 16, ["deck", "items"], ["deck", "items"]⟩
def d_law_mixed : DefC := ⟨"_law_mixed", f_law_mixed, top 17, ["deck", "items", "left", "found"], ["deck", "items"]⟩
def d_law_orders : DefC := ⟨"_law_orders", f_law_orders, top 18, ["deck", "n", "i", "j"], ["deck", "n"]⟩
def d_law_safe : DefC := ⟨"_law_safe", f_law_safe, top 19, ["deck", "n", "pairs", "table", "i", "early", "j", "row"], ["deck", "n", "pairs"]⟩
def d_law_evens : DefC := ⟨"_law_evens", f_law_evens, top 20, ["plan", "hand", "j"], ["plan", "hand"]⟩
def d_law_begun : DefC := ⟨"_law_begun", f_law_begun, top 21, ["plan", "n", "tokens", "i", "j"], ["plan"]⟩
def d_law_flag : DefC := ⟨"_law_flag", f_law_flag, top 22, ["plan", "place", "hand"], ["plan", "place", "hand"]⟩
def d_law_at_look : DefC := ⟨"_law_at_look", f_law_at_look, top 23, ["plan", "now", "hand", "spot", "j", "word", "seen", "has"], ["plan", "now", "hand"]⟩
def d_law_next : DefC := ⟨"_law_next", f_law_next, top 24, ["plan", "now", "hand", "word", "spot", "is_early", "own", "begun", "j", "after"], ["plan", "now", "hand"]⟩
def d_law_moved : DefC := ⟨"_law_moved", f_law_moved, top 25, ["plan", "now", "hand", "found", "tokens", "j", "pair", "a", "b", "who"], ["plan", "now", "hand"]⟩
def d_law_walk : DefC := ⟨"_law_walk", f_law_walk, top 26, ["plan", "now", "run", "seen", "said", "k", "hand", "found"], ["plan", "now", "run"]⟩
def d_law_counts : DefC := ⟨"_law_counts", f_law_counts, top 27, ["plan", "run", "said", "hand", "found", "count", "k", "one"], ["plan", "run", "said", "hand"]⟩
def d_law_long : DefC := ⟨"_law_long", f_law_long, top 28, ["deck", "plan", "most", "run", "now", "turn", "hand", "word", "again", "found"], ["deck", "plan", "most"]⟩
def d_law : DefC := ⟨"law", f_law, top 29, ["script", "deck", "words_of", "turn", "menus", "plan", "run", "seen", "said", "spot", "hand", "most", "count"], ["script"]⟩
def tab : List DefC := [d_first_slip, d_lack, d_fault, d_faults, d_is_safe, d_evens, d_most_passed, d_law_deck, d_law_draw, d_law_pick, d_law_mixed, d_law_orders, d_law_safe, d_law_evens, d_law_begun, d_law_flag, d_law_at_look, d_law_next, d_law_moved, d_law_walk, d_law_counts, d_law_long, d_law]
def blt : List Str := ["abs", "bool", "enumerate", "int", "isinstance", "len", "list", "max", "min", "range", "tuple"]
theorem ck : (tab.all (ckFn (tab.map (·.x)) blt)) = true := by decide +kernel
end K80

namespace K80
open L2 TV
open PySem (PyData)
abbrev wU (w : Wd) : U := .str w.s
abbrev iU (i : Nat) : U := .int (i : Int)
@[simp] theorem cp_eq_str (h : OH) (a b : Wd) : cpO h .eq (.str a.s) (.str b.s) = some (decide (a = b)) := by
  show some (decide (a.s = b.s)) = _
  rw [s_inj]
@[simp] theorem cp_ne_str (h : OH) (a b : Wd) : cpO h .ne (.str a.s) (.str b.s) = some (!decide (a = b)) := by
  show some (!decide (a.s = b.s)) = _
  rw [s_inj]
@[simp] theorem cp_eq_int (h : OH) (a b : Int) : cpO h .eq (.int a) (.int b) = some (decide (a = b)) := rfl
@[simp] theorem cp_ne_int (h : OH) (a b : Int) : cpO h .ne (.int a) (.int b) = some (!decide (a = b)) := rfl
@[simp] theorem cp_lt_int (h : OH) (a b : Int) : cpO h .lt (.int a) (.int b) = some (decide (a < b)) := rfl
@[simp] theorem cp_in (h : OH) (a b : U) : cpO h .isin a b = inO h a b := rfl
@[simp] theorem cp_notin (h : OH) (a b : U) : cpO h .notin a b = (inO h a b).map (!·) := rfl
@[simp] theorem fl_str (k : Nat) (a : Wd) : U.fl k (.str a.s) = true := by cases k <;> exact s_ok a
@[simp] theorem eqv_str (a b : Wd) : PyData.eqv (.str a.s) (.str b.s) = decide (a = b) := by
  show (a.s == b.s) = _
  rw [← s_inj]
  by_cases e : a.s = b.s
  · rw [decide_eq_true e, e]; exact beq_self_eq_true _
  · rw [decide_eq_false e]; exact beq_eq_false_iff_ne.mpr e
structure Plan where
  tbl : List (List Wd)
  ord : List (List Nat)
  early : List Nat
def pU (p : Plan) : U := .tup [.tup (p.tbl.map fun r => .tup (r.map wU)), .tup (p.ord.map fun o => .tup (o.map iU)), .tup (p.early.map iU)]
def Plan.row (p : Plan) (i : Nat) : List Wd := (p.tbl[i]?).getD []
def Plan.w (p : Plan) (i j : Nat) : Wd := ((p.row i)[j]?).getD .w_x2d
def Plan.o (p : Plan) (i : Nat) : List Nat := (p.ord[i]?).getD []
/-- the k-th hand in its order -/
def Plan.kth (p : Plan) (i k : Nat) : Nat := ((p.o i)[k]?).getD 0
structure Ok (p : Plan) (n : Nat) : Prop where
  n2 : 2 ≤ n
  n6 : n ≤ 6
  tl : p.tbl.length = n
  ol : p.ord.length = n
  rl : ∀ i, i < n → (p.row i).length = n
  wd : ∀ i j, i < n → j < n → i ≠ j → p.w i j = .w_stand ∨ p.w i j = .w_bow ∨ p.w i j = .w_even
  sy : ∀ i j, i < n → j < n → i ≠ j → p.w i j = .w_even → p.w j i = .w_even
  sf : ∀ i, i < n → p.w i i = .w_x2d
  od : ∀ i, i < n → (p.o i).Nodup ∧ (p.o i).length = n - 1 ∧ ∀ j, j ∈ p.o i ↔ j < n ∧ j ≠ i
  ea : ∀ i, i ∈ p.early → ∀ j, j < n → p.w i j ≠ .w_even
  el : p.early.length ≤ n
def evs (p : Plan) (h : Nat) : List Nat := (p.o h).filter fun j => decide (p.w h j = .w_even)
section
variable {p : Plan} {n : Nat} (ok : Ok p n)
include ok
theorem Ok.rowU {i : Nat} (hi : i < n) : p.tbl[i]? = some (p.row i) := by
  have h : i < p.tbl.length := by rw [ok.tl]; exact hi
  unfold Plan.row
  rw [List.getElem?_eq_getElem h]
  rfl
theorem Ok.wU {i j : Nat} (hi : i < n) (hj : j < n) : (p.row i)[j]? = some (p.w i j) := by
  have h : j < (p.row i).length := by rw [ok.rl i hi]; exact hj
  unfold Plan.w
  rw [List.getElem?_eq_getElem h]
  rfl
theorem Ok.oU {i : Nat} (hi : i < n) : p.ord[i]? = some (p.o i) := by
  have h : i < p.ord.length := by rw [ok.ol]; exact hi
  unfold Plan.o
  rw [List.getElem?_eq_getElem h]
  rfl
theorem Ok.kU {i k : Nat} (hi : i < n) (hk : k < n - 1) : (p.o i)[k]? = some (p.kth i k) := by
  have h : k < (p.o i).length := by rw [(ok.od i hi).2.1]; exact hk
  unfold Plan.kth
  rw [List.getElem?_eq_getElem h]
  rfl
theorem Ok.kmem {i k : Nat} (hi : i < n) (hk : k < n - 1) : p.kth i k ∈ p.o i := by
  have h : k < (p.o i).length := by rw [(ok.od i hi).2.1]; exact hk
  unfold Plan.kth
  rw [List.getElem?_eq_getElem h]
  exact List.getElem_mem h
theorem Ok.klt {i k : Nat} (hi : i < n) (hk : k < n - 1) : p.kth i k < n ∧ p.kth i k ≠ i := ((ok.od i hi).2.2 _).mp (ok.kmem hi hk)
theorem Ok.olen {i : Nat} (hi : i < n) : (p.o i).length ≤ LIM := by
  rw [(ok.od i hi).2.1]; have := ok.n6; show n - 1 ≤ 16777216; omega
theorem Ok.evlen {i : Nat} (hi : i < n) : (evs p i).length ≤ n - 1 := by
  unfold evs
  refine Nat.le_trans (List.length_filter_le _ _) ?_
  rw [(ok.od i hi).2.1]; exact Nat.le_refl _
theorem Ok.evmem {i j : Nat} (hi : i < n) : j ∈ evs p i ↔ j < n ∧ j ≠ i ∧ p.w i j = .w_even := by
  unfold evs
  rw [List.mem_filter, (ok.od i hi).2.2, decide_eq_true_eq]
  exact and_assoc
end
theorem pU_0 (p : Plan) (h : OH) : ixO h (pU p) (.int 0) = some (.tup (p.tbl.map fun r => .tup (r.map wU))) := by simp [pU]
theorem pU_1 (p : Plan) (h : OH) : ixO h (pU p) (.int 1) = some (.tup (p.ord.map fun o => .tup (o.map iU))) := by simp [pU]
theorem pU_2 (p : Plan) (h : OH) : ixO h (pU p) (.int 2) = some (.tup (p.early.map iU)) := by simp [pU]
theorem any_ints (i : Nat) : ∀ l : List Nat, ((l.map iU).any fun y => PyData.eqv y.pd (iU i).pd) = decide (i ∈ l)
  | [] => rfl
  | a :: l => by
    rw [List.map_cons, List.any_cons, any_ints i l, pd_int, pd_int, eqv_int]
    by_cases e : a = i
    · subst e
      rw [decide_eq_true rfl, decide_eq_true List.mem_cons_self]
      rfl
    · have e1 : ¬ ((a : Int) = (i : Int)) := by omega
      rw [decide_eq_false e1, Bool.false_or]
      exact decide_eq_decide.mpr ⟨fun z => List.mem_cons_of_mem _ z, fun z => (List.mem_cons.mp z).elim (fun q => absurd q.symm e) id⟩
theorem in_ints {h : OH} (i : Nat) (l : List Nat) : inO h (iU i) (.tup (l.map iU)) = some (decide (i ∈ l)) := by
  rw [inO_tup (fl_int _ _) (fls_map (fun a => fl_int _ _) l), any_ints]
theorem lc_evens {p : Plan} {n : Nat} (ok : Ok p n) {i : Nat} (hi : i < n) (h : OH) (cal : Nat → List U → OH → R U) :
    evE cal (.lc false (.v 2) (.nm 2) (.sq (.ix (.ix (.v 0) (.k (.int 1))) (.v 1))) [(.cmp .eq (.ix (.ix (.ix (.v 0) (.k (.int 0))) (.v 1)) (.v 2)) (.k (.str (Wd.s .w_even))))] [2]) [some (pU p), some (iU i), none] h = .ok (.fls ((evs p i).map iU)) h := by
  simp [evE, evSr, evCs, pU_0, pU_1, ok.oU hi, itO, gdOk, tgE, wipeU]

  rw [lcL_map iU (fun j => if decide (p.w i j = .w_even) = true then some (iU j) else none) (p.o i) rfl (fun j hj => ?_) (ok.olen hi)]
  · rw [fm_if]
    rfl
  · have hj' := (((ok.od i hi).2.2 j).mp hj).1
    simp [pU_0, ok.rowU hi, ok.wU hi hj']
    split <;> rfl
theorem cls_ints (l : List Nat) : U.cls (l.map iU) = true := cls_map (fun _ => rfl) l
theorem fl_ints (k : Nat) (l : List Nat) : U.fls' k (l.map iU) = true := fls_map (fun a => by simp) l
theorem c_evens {p : Plan} {n : Nat} (ok : Ok p n) {i : Nat} (hi : i < n) (h : OH) (d fu : Nat) : evC (tabP tab) fu (d + 1) 5 [pU p, iU i] h = .ok (.tup ((evs p i).map iU)) h := by
  rw [evC_run (F := f_evens) rfl]
  have e := lc_evens ok hi h (evC (tabP tab) fu d)
  obtain ⟨a, h', e1, rfl, rfl⟩ := wpR_ex (run_wp (cal := evC (tabP tab) fu d) (fu := fu) (F := f_evens) (us := [pU p, iU i]) (h := h) (Q := fun u h1 => u = .tup ((evs p i).map iU) ∧ h1 = h) rfl (by
    simp [f_evens, evSs, evS]
    unfold evE
    simp [evL, e, biE, un1, tupleE, lsO]
    exact fin_same (by simp [U.cl, cls_ints]) ⟨rfl, rfl⟩))
  exact e1
theorem c_lawevens {p : Plan} {n : Nat} (ok : Ok p n) {i : Nat} (hi : i < n) (h : OH) (d fu : Nat) : evC (tabP tab) fu (d + 1) 13 [pU p, iU i] h = .ok (.fls ((evs p i).map iU)) h := by
  rw [evC_run (F := f_law_evens) rfl]
  have e := lc_evens ok hi h (evC (tabP tab) fu d)
  obtain ⟨a, h', e1, rfl, rfl⟩ := wpR_ex (run_wp (cal := evC (tabP tab) fu d) (fu := fu) (F := f_law_evens) (us := [pU p, iU i]) (h := h) (Q := fun u h1 => u = .fls ((evs p i).map iU) ∧ h1 = h) rfl (by
    simp [f_law_evens, evSs, evS, e]
    exact fin_same (by simp [U.cl, cls_ints]) ⟨rfl, rfl⟩))
  exact e1
end K80

namespace K80
open L2 TV
open PySem (PyData)
abbrev Pl := Wd × Nat
def plU (a : Pl) : U := .tup [wU a.1, iU a.2]
structure Now where
  pl : List Pl
  tk : List (Nat × Nat × Nat)
def tkU (t : Nat × Nat × Nat) : U := .tup [iU t.1, iU t.2.1, iU t.2.2]
def nU (s : Now) : U := .tup [.tup (s.pl.map plU), .tup (s.tk.map tkU)]
def Now.at_ (s : Now) (i : Nat) : Pl := (s.pl[i]?).getD (.w_rest, 0)
theorem Now.get {s : Now} {i n : Nat} (hl : s.pl.length = n) (hi : i < n) : s.pl[i]? = some (s.at_ i) := by
  unfold Now.at_
  rw [List.getElem?_eq_getElem (by omega)]
  rfl
theorem nU_0 (s : Now) (h : OH) : ixO h (nU s) (.int 0) = some (.tup (s.pl.map plU)) := by simp [nU]
theorem nU_1 (s : Now) (h : OH) : ixO h (nU s) (.int 1) = some (.tup (s.tk.map tkU)) := by simp [nU]
theorem plU_0 (a : Pl) (h : OH) : ixO h (plU a) (.int 0) = some (wU a.1) := by simp [plU]
theorem plU_1 (a : Pl) (h : OH) : ixO h (plU a) (.int 1) = some (iU a.2) := by simp [plU]
theorem cls_pl (l : List Pl) : U.cls (l.map plU) = true := cls_map (fun _ => rfl) l
theorem cls_tk (l : List (Nat × Nat × Nat)) : U.cls (l.map tkU) = true := cls_map (fun _ => rfl) l
theorem fl_plU (k : Nat) (a : Pl) : U.fl (k + 1) (plU a) = true := by simp [plU]
theorem fl_tkU (k : Nat) (a : Nat × Nat × Nat) : U.fl (k + 1) (tkU a) = true := by simp [tkU]
def isUp : Wd → Bool
  | .w_look => true | .w_yield => true | .w_in => true | _ => false
def flag (p : Plan) (a : Pl) (h : Nat) : Wd := if isUp a.1 = true then .w_up else if a.1 = .w_hand ∧ h ∉ p.early then .w_half else .w_down
theorem pure_of {F : Fn} {d fu f : Nat} {us : List U} {h : OH} {v : U} (e : tabP tab f = some F) (hl : us.length = F.ps) (ht : F.trim = true) (c : U.cl v = true) (w : evSs (evC (tabP tab) fu d) fu F.body (us.map some ++ List.replicate (F.ns - F.ps) none) h = .rt v h) : evC (tabP tab) fu (d + 1) f us h = .ok v h := by
  rw [evC_run e]
  obtain ⟨a, h', e1, rfl, rfl⟩ := wpR_ex (run_wp (cal := evC (tabP tab) fu d) (fu := fu) (F := F) (us := us) (h := h) (Q := fun u h1 => u = v ∧ h1 = h) hl (by
    rw [w, ht, wpS_rt]
    exact fin_same c ⟨rfl, rfl⟩))
  exact e1
theorem ww (a : Wd) : ∀ {h : OH}, inO h (.str a.s) (.tup [wU .w_look, wU .w_yield, wU .w_in]) = some (isUp a) := by
  intro h
  rw [inO_tup (fl_str _ _) (by simp)]
  congr 1
  cases a <;> decide
theorem c_flag (p : Plan) (a : Pl) (hd : Nat) (h : OH) (d fu : Nat) : evC (tabP tab) fu (d + 1) 15 [pU p, plU a, iU hd] h = .ok (wU (flag p a hd)) h := by
  refine pure_of (F := f_law_flag) rfl rfl rfl rfl ?_
  simp only [f_law_flag]
  unfold flag
  by_cases h1 : isUp a.1 = true
  · simp [evSs, evS, evE, evL, evAn, plU_0, ww, in_ints, pU_2, LIM, h1]
  · by_cases h2 : a.1 = .w_hand
    · by_cases h3 : hd ∈ p.early <;> simp [evSs, evS, evE, evL, evAn, plU_0, ww, in_ints, pU_2, LIM, h1, h2, h3, isUp]
    · simp [evSs, evS, evE, evL, evAn, plU_0, ww, in_ints, pU_2, LIM, h1, h2]
end K80

namespace K80
open L2 TV
open PySem (PyData)
def mvU : Option (Wd × Pl) → U
  | none => .non
  | some m => .tup [wU m.1, plU m.2]
def hasT (l : List (Nat × Nat × Nat)) (t : Nat × Nat × Nat) : Bool := decide (t ∈ l)
theorem eqv_tk (a b : Nat × Nat × Nat) : PyData.eqv (tkU a).pd (tkU b).pd = decide (a = b) := by
  obtain ⟨a1, a2, a3⟩ := a
  obtain ⟨b1, b2, b3⟩ := b
  simp only [tkU, pd_tup, pds_cons, pds_nil, eqv_tup, eqvA_cons, eqvA_nil, pd_int, eqv_int, Bool.and_true, Prod.mk.injEq]
  rw [Bool.eq_iff_iff]
  simp only [Bool.and_eq_true, decide_eq_true_eq]
  omega
theorem any_tk (t : Nat × Nat × Nat) : ∀ l : List (Nat × Nat × Nat), ((l.map tkU).any fun y => PyData.eqv y.pd (tkU t).pd) = hasT l t
  | [] => rfl
  | a :: l => by
    rw [List.map_cons, List.any_cons, any_tk t l, eqv_tk]
    unfold hasT
    by_cases e : a = t
    · subst e
      rw [decide_eq_true rfl, decide_eq_true List.mem_cons_self]
      rfl
    · rw [decide_eq_false e, Bool.false_or]
      exact decide_eq_decide.mpr ⟨fun z => List.mem_cons_of_mem _ z, fun z => (List.mem_cons.mp z).elim (fun q => absurd q.symm e) id⟩
theorem in_toks {h : OH} (t : Nat × Nat × Nat) (l : List (Nat × Nat × Nat)) : inO h (tkU t) (.tup (l.map tkU)) = some (hasT l t) := by
  rw [inO_tup (fl_tkU _ _) (fls_map (fun a => fl_tkU _ _) l), any_tk]
theorem bi_min (m : Bool) (a b : Nat) (h : OH) : biE m .min2 [iU a, iU b] h = .ok (iU (min a b)) h := by
  simp only [biE, un2, intE]
  congr 2
  split <;> omega
theorem bi_max (m : Bool) (a b : Nat) (h : OH) : biE m .max2 [iU a, iU b] h = .ok (iU (max a b)) h := by
  simp only [biE, un2, intE]
  congr 2
  split <;> omega
def isBS : Wd → Bool
  | .w_bow => true | .w_slip => true | _ => false
theorem bs (a : Wd) : ∀ {h : OH}, inO h (.str a.s) (.tup [wU .w_bow, wU .w_slip]) = some (isBS a) := by
  intro h
  rw [inO_tup (fl_str _ _) (by simp)]
  congr 1
  cases a <;> decide
/-- the look passes -/
def passB (w f : Wd) (t : Bool) : Bool := decide (w = .w_pass) || decide (f = .w_down) || (decide (w = .w_even) && decide (f = .w_up) && t)
def atLook (p : Plan) (n : Nat) (s : Now) (hd k : Nat) : Option (Wd × Pl) :=
  if passB (p.w hd (p.kth hd k)) (flag p (s.at_ (p.kth hd k)) (p.kth hd k)) (hasT s.tk (min hd (p.kth hd k), max hd (p.kth hd k), hd)) = true then
    (if k + 2 < n then some (.w_look, (.w_look, k + 1)) else some (.w_enter, (.w_in, 0)))
  else if isBS (p.w hd (p.kth hd k)) = true then some (.w_yield, (.w_yield, k)) else none
theorem c_atlook {p : Plan} {n : Nat} (ok : Ok p n) {s : Now} (hl : s.pl.length = n) {hd : Nat} (hh : hd < n) (hk : (s.at_ hd).2 < n - 1) (h : OH) (d fu : Nat) :
    evC (tabP tab) fu (d + 2) 16 [pU p, nU s, iU hd] h = .ok (mvU (atLook p n s hd (s.at_ hd).2)) h := by
  refine pure_of (F := f_law_at_look) rfl rfl rfl (by unfold atLook; split; (split <;> rfl); (split <;> rfl)) ?_
  simp only [f_law_at_look]
  obtain ⟨j1, j2⟩ := ok.klt hh hk
  have e1 := Now.get hl hh
  have e2 := Now.get hl j1
  have e3 := ok.kU hh hk
  generalize hkk : (s.at_ hd).2 = k at *
  generalize hj : p.kth hd k = j at *
  have e4 : ∀ h, ixO h (nU s) (.int 0) = some (.tup (s.pl.map plU)) := nU_0 s
  have c15 := fun h => c_flag p (s.at_ j) j h d fu
  have t3 : ∀ h : OH, inO h (.tup [iU (min hd j), iU (max hd j), iU hd]) (.tup (s.tk.map tkU)) = some (hasT s.tk (min hd j, max hd j, hd)) := fun h => in_toks (min hd j, max hd j, hd) s.tk
  unfold atLook
  simp only [hj]
  generalize flag p (s.at_ j) j = f at *
  generalize hasT s.tk (min hd j, max hd j, hd) = t at *
  have e5 := ok.wU hh j1
  generalize p.w hd j = w at *
  simp [evSs, evS, evE, evL, nU_0, nU_1, e1, plU_1, hkk, ttE, pU_0, pU_1, ok.oU hh, e3, ok.rowU hh, e5, e2, c15, setAll, bi_min, bi_max, t3, LIM, ok.tl]
  have hn : (k + 2 < n ∧ (k : Int) + 2 < (n : Int)) ∨ (¬ k + 2 < n ∧ ¬ (k : Int) + 2 < (n : Int)) := by omega
  by_cases q1 : w = .w_pass
  · rcases hn with ⟨h1, h2⟩ | ⟨h1, h2⟩ <;> simp [evOr, evE, evL, q1, passB, h1, h2, mvU, plU]
  · by_cases q2 : f = .w_down
    · rcases hn with ⟨h1, h2⟩ | ⟨h1, h2⟩ <;> simp [evOr, evE, evL, q1, q2, passB, h1, h2, mvU, plU]
    · by_cases q3 : w = .w_even
      · by_cases q4 : f = .w_up
        · cases t
          · simp [evOr, evAn, evE, evL, q3, q4, passB, bs, isBS, mvU, plU]
          · rcases hn with ⟨h1, h2⟩ | ⟨h1, h2⟩ <;> simp [evOr, evAn, evE, evL, q3, q4, passB, h1, h2, mvU, plU]
        · simp [evOr, evAn, evE, evL, q2, q3, q4, passB, bs, isBS, mvU, plU]
      · by_cases q5 : isBS w = true <;> simp [evOr, evAn, evE, evL, q1, q2, q3, q5, passB, bs, mvU, plU]
end K80

namespace K80
open L2 TV
open PySem (PyData)
def begun (p : Plan) (h : Nat) : Pl := if h ∈ p.early ∧ evs p h ≠ [] then (.w_hand, 0) else (.w_wish, 0)
def nextP (p : Plan) (n : Nat) (s : Now) (h : Nat) : Option (Wd × Pl) :=
  if (s.at_ h).1 = .w_look then atLook p n s h (s.at_ h).2
  else if (s.at_ h).1 = .w_yield then some (.w_lower, (.w_low, (s.at_ h).2))
  else if (s.at_ h).1 = .w_in then some (.w_leave, (.w_rest, 0))
  else if (s.at_ h).1 = .w_rest then some (.w_begin, begun p h)
  else if (s.at_ h).1 = .w_wish then some (.w_raise, if h ∈ p.early ∨ evs p h = [] then (.w_look, 0) else (.w_hand, 0))
  else if (s.at_ h).1 = .w_hand then some (.w_hand, if (s.at_ h).2 + 1 < (evs p h).length then (.w_hand, (s.at_ h).2 + 1) else if h ∈ p.early then (.w_wish, 0) else (.w_look, 0))
  else if (s.at_ h).1 = .w_anew then (if (s.at_ h).2 + 2 < n then some (.w_raise, (.w_look, (s.at_ h).2 + 1)) else some (.w_enter, (.w_in, 0)))
  else if flag p (s.at_ (p.kth h (s.at_ h).2)) (p.kth h (s.at_ h).2) ≠ .w_down then none
  else some (.w_see, if p.w h (p.kth h (s.at_ h).2) = .w_slip then (.w_anew, (s.at_ h).2) else begun p h)
def usesK (w : Wd) : Bool := match w with
  | .w_look => true | .w_yield => true | .w_low => true | _ => false
def okW (w : Wd) : Bool := match w with
  | .w_look => true | .w_yield => true | .w_low => true | .w_in => true | .w_rest => true | .w_wish => true | .w_hand => true | _ => false
/-- the standing is one by these manners -/
structure Ns (p : Plan) (n : Nat) (s : Now) : Prop where
  len : s.pl.length = n
  wd : ∀ i, i < n → okW (s.at_ i).1 = true
  k : ∀ i, i < n → usesK (s.at_ i).1 = true → (s.at_ i).2 < n - 1
  hk : ∀ i, i < n → (s.at_ i).1 = .w_hand → (s.at_ i).2 < (evs p i).length ∧ i ∉ p.early
  tl : s.tk.length ≤ 100
theorem cl_mv (m : Option (Wd × Pl)) : U.cl (mvU m) = true := by cases m <;> rfl
theorem eq_evs_nil {h : OH} (l : List Nat) : eqO h (.fls (l.map iU)) (.fls []) = some (decide (l = [])) := by
  rw [eqO_fls_nil (cls_ints l) (fl_ints 59 l)]
  cases l <;> rfl
theorem cp_evs_eq {h : OH} (l : List Nat) : cpO h .eq (.fls (l.map iU)) (.fls []) = some (decide (l = [])) := eq_evs_nil l
theorem cp_evs_ne {h : OH} (l : List Nat) : cpO h .ne (.fls (l.map iU)) (.fls []) = some (!decide (l = [])) := by
  show (eqO h _ _).map _ = _
  rw [eq_evs_nil]; rfl
theorem plU_mk (w : Wd) (k : Nat) : plU (w, k) = .tup [wU w, iU k] := rfl
theorem cp_nil_eq {h : OH} : cpO h .eq (.fls []) (.fls []) = some true := cp_evs_eq []
theorem cp_nil_ne {h : OH} : cpO h .ne (.fls []) (.fls []) = some false := cp_evs_ne []
theorem newL0 (h : OH) : newL false [] h = .ok (.fls []) h := rfl
theorem c_next {p : Plan} {n : Nat} (ok : Ok p n) {s : Now} (ns : Ns p n s) {hd : Nat} (hh : hd < n) (h : OH) (d fu : Nat) :
    evC (tabP tab) fu (d + 3) 17 [pU p, nU s, iU hd] h = .ok (mvU (nextP p n s hd)) h := by
  refine pure_of (F := f_law_next) rfl rfl rfl (cl_mv _) ?_
  simp only [f_law_next]
  have e1 := Now.get ns.len hh
  have hw := ns.wd hd hh
  have hk := ns.k hd hh
  have c16 : usesK (s.at_ hd).1 = true → ∀ h, evC (tabP tab) fu (d + 2) 16 [pU p, nU s, iU hd] h = .ok (mvU (atLook p n s hd (s.at_ hd).2)) h := fun u h => c_atlook ok ns.len hh (hk u) h d fu
  have c13 : ∀ h, evC (tabP tab) fu (d + 2) 13 [pU p, iU hd] h = .ok (.fls ((evs p hd).map iU)) h := fun h => c_lawevens ok hh h (d + 1) fu
  have c15 : ∀ a j h, evC (tabP tab) fu (d + 2) 15 [pU p, plU a, iU j] h = .ok (wU (flag p a j)) h := fun a j h => c_flag p a j h (d + 1) fu
  have e3 : usesK (s.at_ hd).1 = true → (p.o hd)[(s.at_ hd).2]? = some (p.kth hd (s.at_ hd).2) := fun u => ok.kU hh (hk u)
  have e4 : usesK (s.at_ hd).1 = true → s.pl[p.kth hd (s.at_ hd).2]? = some (s.at_ (p.kth hd (s.at_ hd).2)) := fun u => Now.get ns.len (ok.klt hh (hk u)).1
  have e5 : usesK (s.at_ hd).1 = true → (p.row hd)[p.kth hd (s.at_ hd).2]? = some (p.w hd (p.kth hd (s.at_ hd).2)) := fun u => ok.wU hh (ok.klt hh (hk u)).1
  have e6 := ok.rowU hh
  have e7 := ok.oU hh
  have hhk := ns.hk hd hh
  unfold nextP
  generalize s.at_ hd = a at *
  obtain ⟨w, k⟩ := a
  dsimp only at *
  have b1 : ∀ h, ixO h (nU s) (.int 0) = some (.tup (s.pl.map plU)) := nU_0 s
  cases w <;> first | (cases hw; done) | skip
  case w_rest =>
    by_cases hE : hd ∈ p.early <;> by_cases hV : evs p hd = [] <;>
      simp [evSs, evS, evE, evL, evAn, evOr, nU_0, nU_1, e1, plU_mk, ttE, ttEs, pU_0, pU_1, pU_2, in_ints, c13, cp_evs_ne, cp_evs_eq, cp_nil_eq, cp_nil_ne, newL0, setAll, LIM, hE, hV, mvU, begun]
  case w_look =>
    simp [evSs, evS, evE, evL, evAn, evOr, nU_0, nU_1, e1, plU_mk, ttE, ttEs, c16 rfl]
  case w_yield =>
    simp [evSs, evS, evE, evL, evAn, evOr, nU_0, nU_1, e1, plU_mk, ttE, ttEs, LIM, mvU]
  case w_in =>
    simp [evSs, evS, evE, evL, evAn, evOr, nU_0, nU_1, e1, plU_mk, ttE, ttEs, LIM, mvU]
  case w_wish =>
    by_cases hE : hd ∈ p.early <;> by_cases hV : evs p hd = [] <;>
      simp [evSs, evS, evE, evL, evAn, evOr, nU_0, nU_1, e1, plU_mk, ttE, ttEs, pU_0, pU_1, pU_2, in_ints, c13, cp_evs_ne, cp_evs_eq, cp_nil_eq, cp_nil_ne, newL0, setAll, LIM, hE, hV, mvU, begun]
  case w_hand =>
    have hn : (k + 1 < (evs p hd).length ∧ (k : Int) + 1 < ((evs p hd).length : Int)) ∨ (¬ k + 1 < (evs p hd).length ∧ ¬ (k : Int) + 1 < ((evs p hd).length : Int)) := by omega
    obtain ⟨q1, hE⟩ := hhk rfl
    have hV : evs p hd ≠ [] := fun z => by rw [z] at q1; simp at q1
    rcases hn with ⟨h1, h2⟩ | ⟨h1, h2⟩ <;>
      simp [evSs, evS, evE, evL, evAn, evOr, nU_0, nU_1, e1, plU_mk, ttE, ttEs, pU_0, pU_1, pU_2, in_ints, c13, cp_evs_ne, cp_evs_eq, newL0, setAll, LIM, hE, hV, mvU, begun, h1, h2]
  case w_low =>
    have e3 := e3 rfl
    have e4 := e4 rfl
    have e5 := e5 rfl
    generalize p.kth hd k = j at *
    replace c15 := fun h => c15 (s.at_ j) j h
    generalize flag p (s.at_ j) j = f at *
    generalize p.w hd j = w at *
    by_cases hf : f = .w_down <;> by_cases hE : hd ∈ p.early <;> by_cases hV : evs p hd = [] <;> by_cases hs : w = .w_slip <;>
      simp [evSs, evS, evE, evL, evAn, evOr, nU_0, nU_1, e1, ttE, ttEs, plU_mk, pU_0, pU_1, pU_2, in_ints, c13, cp_evs_ne, cp_evs_eq, cp_nil_eq, cp_nil_ne, newL0, setAll, LIM, hE, hV, mvU, begun, e3, e4, e5, e6, e7, hf, hs, c15]
end K80

namespace K80
open L2 TV
open PySem (PyData)
def evth (p : Plan) (h k : Nat) : Nat := ((evs p h)[k]?).getD 0
def give (p : Plan) (s : Now) (h : Nat) : List (Nat × Nat × Nat) := s.tk.map fun t => if t.1 = min h (evth p h (s.at_ h).2) ∧ t.2.1 = max h (evth p h (s.at_ h).2) then (t.1, t.2.1, evth p h (s.at_ h).2) else t
def after (p : Plan) (s : Now) (h : Nat) (m : Wd × Pl) : Now := ⟨s.pl.set h m.2, if m.1 = .w_hand then give p s h else s.tk⟩
def moved (p : Plan) (n : Nat) (s : Now) (h : Nat) : Option (Wd × Now) := (nextP p n s h).map fun m => (m.1, after p s h m)
def rsU : Option (Wd × Now) → U
  | none => .non
  | some m => .tup [wU m.1, nU m.2]
theorem cl_rs (m : Option (Wd × Now)) : U.cl (rsU m) = true := by
  cases m with
  | none => rfl
  | some m => simp [rsU, U.cl, U.cls, nU, cls_pl, cls_tk]
theorem eq_pair {h : OH} (a b c d : Nat) : cpO h .eq (.tup [iU a, iU b]) (.tup [iU c, iU d]) = some (decide (a = c ∧ b = d)) := by
  rw [cpO_eq, eqO_tt rfl rfl (by simp) (by simp)]
  simp only [pds_cons, pds_nil, pd_int, eqvA_cons, eqvA_nil, eqv_int, Bool.and_true]
  congr 1
  rw [Bool.eq_iff_iff]
  simp only [Bool.and_eq_true, decide_eq_true_eq]
  omega
theorem next_hand {p : Plan} {n : Nat} {s : Now} {h : Nat} {a : Pl} (e : nextP p n s h = some (.w_hand, a)) : (s.at_ h).1 = .w_hand := by
  unfold nextP atLook at e
  repeat' split at e
  all_goals first | (simp at e; done) | assumption
theorem put_pl (us : List U) (k : Nat) (x : U) (hk : k < us.length) (hl : us.length ≤ 100) (m : Bool) (h : OH) : ((opE m .add (.tup (cut us none (some (k : Int)))) (.tup [x]) h).bind fun b h2 => opE m .add b (.tup (cut us (some ((k : Int) + 1)) none)) h2) = .ok (.tup (us.set k x)) h := by
  have e1 : cut us none (some (k : Int)) = us.take k := cut_take us k (Nat.le_of_lt hk)
  have e2 : cut us (some ((k : Int) + 1)) none = us.drop (k + 1) := cut_drop us (k + 1) hk
  have l1 : (us.take k).length = k := by rw [List.length_take]; omega
  have l2 : (us.drop (k + 1)).length = us.length - (k + 1) := List.length_drop
  have h1 : (us.take k).length + [x].length ≤ LIM := by rw [l1, List.length_singleton]; show k + 1 ≤ 16777216; omega
  have h2 : (us.take k ++ [x]).length + (us.drop (k + 1)).length ≤ LIM := by rw [List.length_append, l1, l2, List.length_singleton]; show k + 1 + (us.length - (k + 1)) ≤ 16777216; omega
  rw [e1, e2, op_add_tup m _ _ h h1, bind_ok, op_add_tup m _ _ h h2, set_eq_cut us k x hk]
theorem c_moved {p : Plan} {n : Nat} (ok : Ok p n) {s : Now} (ns : Ns p n s) {hd : Nat} (hh : hd < n) (h : OH) (d fu : Nat) :
    evC (tabP tab) fu (d + 4) 18 [pU p, nU s, iU hd] h = .ok (rsU (moved p n s hd)) h := by
  refine pure_of (F := f_law_moved) rfl rfl rfl (cl_rs _) ?_
  simp only [f_law_moved]
  have c17 := fun h => c_next ok ns hh h d fu
  have c13 : ∀ h, evC (tabP tab) fu (d + 3) 13 [pU p, iU hd] h = .ok (.fls ((evs p hd).map iU)) h := fun h => c_lawevens ok hh h (d + 2) fu
  have e1 := Now.get ns.len hh
  have n6 := ok.n6
  unfold moved
  cases hm : nextP p n s hd with
  | none =>
    rw [hm] at c17
    simp [evSs, evS, evE, evL, c17, mvU, ttE, rsU]
  | some m =>
    rw [hm] at c17
    obtain ⟨w, a⟩ := m
    have put := fun (h : OH) => put_pl (s.pl.map plU) hd (plU a) (by rw [List.length_map, ns.len]; exact hh) (by rw [List.length_map, ns.len]; omega) false h
    by_cases hw : w = .w_hand
    · subst hw
      have q1 := next_hand hm
      obtain ⟨q2, q3⟩ := ns.hk hd hh q1
      have e2 : (evs p hd)[(s.at_ hd).2]? = some (evth p hd (s.at_ hd).2) := by
        unfold evth
        rw [List.getElem?_eq_getElem q2]; rfl
      generalize hj : evth p hd (s.at_ hd).2 = j at *
      simp [evSs, evS, evE, evL, evSr, evCs, evP, itO, gdOk, c17, mvU, ttE, rsU, nU_0, nU_1, c13, e1, plU_1, e2, bi_min, bi_max, LIM]
      rw [lcL_map tkU (fun t => some (tkU (if t.1 = min hd j ∧ t.2.1 = max hd j then (t.1, t.2.1, j) else t))) s.tk rfl (fun t ht => ?_) (by have := ns.tl; show s.tk.length ≤ 16777216; omega)]
      · simp [put, fm_all, LIM, after, give, nU, hj, List.map_set, Function.comp_def]
      · obtain ⟨t1, t2, t3⟩ := t
        simp [tkU, tgE, tgEs, wipeU, eq_pair]
        by_cases h1 : t1 = min hd j <;> by_cases h2 : t2 = max hd j <;> simp [h1, h2]
    · simp [evSs, evS, evE, evL, evP, c17, mvU, ttE, rsU, nU_0, nU_1, hw, LIM, put]
      simp [after, nU, hw]
end K80

namespace K80
/-! ### nobody is passed more often -/
def Bt (b : Prop) [Decidable b] : Nat := if b then 1 else 0
def idx (p : Plan) (i j : Nat) : Nat := List.idxOf j (p.o i)
def eix (p : Plan) (i j : Nat) : Nat := List.idxOf j (evs p i)
def bynd (p : Plan) (s : Now) (h i : Nat) : Bool := decide ((s.at_ i).1 = .w_look ∧ idx p i h < (s.at_ i).2)
def hded (p : Plan) (s : Now) (h i : Nat) : Bool := decide ((s.at_ h).1 = .w_look ∨ ((s.at_ h).1 = .w_hand ∧ eix p h i < (s.at_ h).2))
def aftr (p : Plan) (s : Now) (h i : Nat) : Bool := decide (((s.at_ i).1 = .w_hand ∧ eix p i h < (s.at_ i).2) ∨ ((s.at_ i).1 = .w_look ∧ (s.at_ i).2 ≤ idx p i h))
def toki (s : Now) (h i : Nat) : Bool := hasT s.tk (min i h, max i h, i)
def potB (ev hd by_ af tk : Bool) : Nat := match ev with
  | false => by_.toNat
  | true => match hd with
    | false => 1 + by_.toNat
    | true => match by_ with
      | true => 1
      | false => (af && tk).toNat
def pot (p : Plan) (s : Now) (h i : Nat) : Nat := potB (decide (p.w i h = .w_even)) (hded p s h i) (bynd p s h i) (aftr p s h i) (toki s h i)
/-- the hand in whose order h is not the last -/
def notLast (p : Plan) (h i : Nat) : Bool := decide ((p.o i)[(p.o i).length - 1]? ≠ some h)
def bnd (p : Plan) (h i : Nat) : Nat := (notLast p h i).toNat + (decide (p.w i h = .w_even)).toNat
def others (p : Plan) (n h : Nat) : List Nat := (List.range n).filter fun i => decide (i ≠ h) && notLast p h i
def mp (p : Plan) (n h : Nat) : Nat := (others p n h).length + (evs p h).length
def sm (n h : Nat) (f : Nat → Nat) : Nat := ((List.range n).map fun i => if i = h then 0 else f i).sum
theorem sm_succ (n h : Nat) (f : Nat → Nat) : sm (n + 1) h f = sm n h f + if n = h then 0 else f n := by
  simp [sm, List.range_succ]
theorem sm_le {h : Nat} {f g : Nat → Nat} : ∀ {n : Nat}, (∀ i, i < n → i ≠ h → f i ≤ g i) → sm n h f ≤ sm n h g
  | 0, _ => Nat.le_refl _
  | n + 1, w => by
    rw [sm_succ, sm_succ]
    have := sm_le (n := n) fun i hi => w i (Nat.lt_succ_of_lt hi)
    split
    · omega
    · rename_i e
      have := w n (Nat.lt_succ_self n) e
      omega
/-- one of them is less by e -/
theorem sm_one {h k e : Nat} {f g : Nat → Nat} (hk : k ≠ h) (w1 : f k + e ≤ g k) : ∀ {n : Nat}, k < n → (∀ i, i < n → i ≠ h → i ≠ k → f i ≤ g i) → sm n h f + e ≤ sm n h g
  | 0, hn, _ => by omega
  | n + 1, hn, w => by
    rw [sm_succ, sm_succ]
    by_cases e1 : n = k
    · subst e1
      have := sm_le (f := f) (g := g) (h := h) (n := n) fun i hi hih => w i (Nat.lt_succ_of_lt hi) hih (by omega)
      rw [if_neg hk, if_neg hk]
      omega
    · have := sm_one hk w1 (n := n) (by omega) fun i hi => w i (Nat.lt_succ_of_lt hi)
      split
      · omega
      · rename_i e2
        have := w n (Nat.lt_succ_self n) e2 e1
        omega
theorem sm_count (c : Nat → Bool) (h : Nat) : ∀ n, sm n h (fun i => (c i).toNat) = ((List.range n).filter fun i => decide (i ≠ h) && c i).length
  | 0 => rfl
  | n + 1 => by
    rw [sm_succ, sm_count c h n, List.range_succ, List.filter_append, List.length_append]
    congr 1
    by_cases e : n = h
    · simp [e]
    · cases hc : c n <;> simp [e, hc]
theorem sm_add (f g : Nat → Nat) (h : Nat) : ∀ n, sm n h (fun i => f i + g i) = sm n h f + sm n h g
  | 0 => rfl
  | n + 1 => by
    rw [sm_succ, sm_succ, sm_succ, sm_add f g h n]
    split <;> omega
theorem nodup_filter {α : Type} (f : α → Bool) : ∀ {l : List α}, l.Nodup → (l.filter f).Nodup := fun {l} h => h.sublist List.filter_sublist
section
variable {p : Plan} {n : Nat} (ok : Ok p n)
include ok
theorem bnd_le {h : Nat} (hh : h < n) : sm n h (bnd p h) ≤ mp p n h := by
  show sm n h (fun i => (notLast p h i).toNat + (decide (p.w i h = .w_even)).toNat) ≤ _
  rw [sm_add (fun i => (notLast p h i).toNat) (fun i => (decide (p.w i h = .w_even)).toNat) h n, sm_count (notLast p h) h n, sm_count (fun i => decide (p.w i h = .w_even)) h n]
  refine Nat.add_le_add_left (List.Nodup.length_le_of_subset (nodup_filter _ List.nodup_range) fun i hi => ?_) _
  simp only [List.mem_filter, List.mem_range, Bool.and_eq_true, decide_eq_true_eq] at hi
  exact (ok.evmem hh).mpr ⟨hi.1, hi.2.1, ok.sy i h hi.1 hh hi.2.1 hi.2.2⟩
theorem Ok.ev_sy {i j : Nat} (hi : i < n) (hj : j < n) (e : i ≠ j) : p.w i j = .w_even ↔ p.w j i = .w_even := ⟨ok.sy i j hi hj e, ok.sy j i hj hi (Ne.symm e)⟩
theorem Ok.ev_in {i j : Nat} (hi : i < n) (hj : j < n) (e : i ≠ j) (h : p.w i j = .w_even) : j ∈ evs p i := (ok.evmem hi).mpr ⟨hj, Ne.symm e, h⟩
theorem Ok.ea_nil {i : Nat} (hi : i < n) (h : i ∈ p.early) : evs p i = [] := by
  refine List.eq_nil_iff_forall_not_mem.mpr fun j hj => ?_
  obtain ⟨j1, _, j3⟩ := (ok.evmem hi).mp hj
  exact ok.ea i h j j1 j3
theorem Ok.begun {i : Nat} (hi : i < n) : begun p i = (.w_wish, 0) := by
  unfold K80.begun
  rw [if_neg]
  rintro ⟨h1, h2⟩
  exact h2 (ok.ea_nil hi h1)
theorem Ok.idx_lt {i j : Nat} (hi : i < n) (hj : j < n) (e : i ≠ j) : idx p i j < n - 1 := by
  unfold idx
  rw [← (ok.od i hi).2.1]
  exact List.idxOf_lt_length_iff.mpr (((ok.od i hi).2.2 j).mpr ⟨hj, Ne.symm e⟩)
theorem Ok.kth_idx {i j k : Nat} (hi : i < n) (hk : k < n - 1) : p.kth i k = j ↔ (idx p i j = k ∧ j ∈ p.o i) := by
  have hk' : k < (p.o i).length := by rw [(ok.od i hi).2.1]; exact hk
  have e0 : p.kth i k = (p.o i)[k] := by unfold Plan.kth; rw [List.getElem?_eq_getElem hk']; rfl
  rw [e0]
  refine ⟨fun e => ?_, fun e => ?_⟩
  · subst e
    exact ⟨(ok.od i hi).1.idxOf_getElem k hk', List.getElem_mem hk'⟩
  · obtain ⟨e1, e2⟩ := e
    have := List.getElem_idxOf (List.idxOf_lt_length_iff.mpr e2)
    unfold idx at e1
    simp only [e1] at this
    exact this
theorem Ok.ev_nodup {i : Nat} (hi : i < n) : (evs p i).Nodup := nodup_filter _ (ok.od i hi).1
theorem Ok.evth_eix {i j k : Nat} (hi : i < n) (hk : k < (evs p i).length) : evth p i k = j ↔ (eix p i j = k ∧ j ∈ evs p i) := by
  have e0 : evth p i k = (evs p i)[k] := by unfold evth; rw [List.getElem?_eq_getElem hk]; rfl
  rw [e0]
  refine ⟨fun e => ?_, fun e => ?_⟩
  · subst e
    exact ⟨(ok.ev_nodup hi).idxOf_getElem k hk, List.getElem_mem hk⟩
  · obtain ⟨e1, e2⟩ := e
    have := List.getElem_idxOf (List.idxOf_lt_length_iff.mpr e2)
    unfold eix at e1
    simp only [e1] at this
    exact this
theorem Ok.eix_lt {i j : Nat} (h : j ∈ evs p i) : eix p i j < (evs p i).length := List.idxOf_lt_length_iff.mpr h
end
/-! ### what a step is -/
theorem at_set {s : Now} {n i k : Nat} {a : Pl} {l : List (Nat × Nat × Nat)} (hl : s.pl.length = n) (hk : k < n) : (Now.mk (s.pl.set k a) l).at_ i = if i = k then a else s.at_ i := by
  unfold Now.at_
  by_cases e : i = k
  · subst e
    rw [if_pos rfl, List.getElem?_set_self (by omega)]
    rfl
  · rw [if_neg e, List.getElem?_set_ne (Ne.symm e)]
theorem at_after {p : Plan} {s : Now} {n i k : Nat} {m : Wd × Pl} (hl : s.pl.length = n) (hk : k < n) : (after p s k m).at_ i = if i = k then m.2 else s.at_ i := at_set hl hk
/-- the ways a hand can step, by the place where it is -/
inductive Step (p : Plan) (n : Nat) (s : Now) (i : Nat) : Wd → Pl → Prop
  | look {k : Nat} (h : s.at_ i = (.w_look, k)) (hk : k < n - 1) (g : passB (p.w i (p.kth i k)) (flag p (s.at_ (p.kth i k)) (p.kth i k)) (hasT s.tk (min i (p.kth i k), max i (p.kth i k), i)) = true) (l : k + 2 < n) : Step p n s i .w_look (.w_look, k + 1)
  | enter {k : Nat} (h : s.at_ i = (.w_look, k)) (hk : k < n - 1) (g : passB (p.w i (p.kth i k)) (flag p (s.at_ (p.kth i k)) (p.kth i k)) (hasT s.tk (min i (p.kth i k), max i (p.kth i k), i)) = true) (l : ¬ k + 2 < n) : Step p n s i .w_enter (.w_in, 0)
  | yield {k : Nat} (h : s.at_ i = (.w_look, k)) (hk : k < n - 1) : Step p n s i .w_yield (.w_yield, k)
  | lower {k : Nat} (h : s.at_ i = (.w_yield, k)) (hk : k < n - 1) : Step p n s i .w_lower (.w_low, k)
  | leave {k : Nat} (h : s.at_ i = (.w_in, k)) : Step p n s i .w_leave (.w_rest, 0)
  | begin_ {k : Nat} (h : s.at_ i = (.w_rest, k)) : Step p n s i .w_begin (.w_wish, 0)
  | raise0 {k : Nat} (h : s.at_ i = (.w_wish, k)) (e : evs p i = []) : Step p n s i .w_raise (.w_look, 0)
  | raise {k : Nat} (h : s.at_ i = (.w_wish, k)) (e : evs p i ≠ []) (ne : i ∉ p.early) : Step p n s i .w_raise (.w_hand, 0)
  | hand {k : Nat} (h : s.at_ i = (.w_hand, k)) (ne : i ∉ p.early) (l : k + 1 < (evs p i).length) : Step p n s i .w_hand (.w_hand, k + 1)
  | hand0 {k : Nat} (h : s.at_ i = (.w_hand, k)) (ne : i ∉ p.early) (hk : k < (evs p i).length) (l : ¬ k + 1 < (evs p i).length) : Step p n s i .w_hand (.w_look, 0)
  | see {k : Nat} (h : s.at_ i = (.w_low, k)) : Step p n s i .w_see (.w_wish, 0)
theorem step_of {p : Plan} {n : Nat} (ok : Ok p n) {s : Now} (ns : Ns p n s) {i : Nat} (hi : i < n) {w : Wd} {a : Pl} (e : nextP p n s i = some (w, a)) : Step p n s i w a := by
  have hw := ns.wd i hi
  have hk := ns.k i hi
  have hh := ns.hk i hi
  have hb := ok.begun hi
  unfold nextP at e
  generalize hs : s.at_ i = b at *
  obtain ⟨v, k⟩ := b
  dsimp only at *
  cases v <;> first | (cases hw; done) | skip
  case w_rest =>
    simp [hb] at e
    obtain ⟨rfl, rfl⟩ := e
    exact .begin_ hs
  case w_look =>
    simp [atLook] at e
    have hk := hk rfl
    split at e
    · rename_i g
      split at e
      · rename_i l
        cases e
        exact .look hs hk g l
      · rename_i l
        cases e
        exact .enter hs hk g l
    · split at e
      · cases e
        exact .yield hs hk
      · cases e
  case w_yield =>
    simp at e
    obtain ⟨rfl, rfl⟩ := e
    exact .lower hs (hk rfl)
  case w_in =>
    simp at e
    obtain ⟨rfl, rfl⟩ := e
    exact .leave hs
  case w_wish =>
    by_cases h1 : i ∈ p.early ∨ evs p i = []
    · simp [h1] at e
      obtain ⟨rfl, rfl⟩ := e
      exact .raise0 hs (h1.elim (ok.ea_nil hi) id)
    · simp [h1] at e
      obtain ⟨rfl, rfl⟩ := e
      exact .raise hs (fun z => h1 (.inr z)) (fun z => h1 (.inl z))
  case w_hand =>
    obtain ⟨q1, q2⟩ := hh rfl
    by_cases l : k + 1 < (evs p i).length
    · simp [l] at e
      obtain ⟨rfl, rfl⟩ := e
      exact .hand hs q2 l
    · simp [l, q2] at e
      obtain ⟨rfl, rfl⟩ := e
      exact .hand0 hs q2 q1 l
  case w_low =>
    have hk := hk rfl
    obtain ⟨j1, j2⟩ := ok.klt hi hk
    have hns : p.w i (p.kth i k) ≠ .w_slip := by
      rcases ok.wd i _ hi j1 (Ne.symm j2) with z | z | z <;> rw [z] <;> decide
    simp [hb, hns] at e
    obtain ⟨_, rfl, rfl⟩ := e
    exact .see hs
end K80

namespace K80
section
variable {p : Plan} {n : Nat} (ok : Ok p n)
include ok
theorem okW_step {s : Now} {i : Nat} {w : Wd} {a : Pl} (hi : i < n) (t : Step p n s i w a) : okW a.1 = true ∧ (usesK a.1 = true → a.2 < n - 1) ∧ (a.1 = .w_hand → a.2 < (evs p i).length ∧ i ∉ p.early) := by
  have n2 := ok.n2
  cases t with
  | look h hk g l => exact ⟨rfl, fun _ => (by show _ + 1 < n - 1; omega), fun e => (by cases e)⟩
  | enter h hk g l => exact ⟨rfl, fun e => (by cases e), fun e => (by cases e)⟩
  | yield h hk => exact ⟨rfl, fun _ => hk, fun e => (by cases e)⟩
  | lower h hk => exact ⟨rfl, fun _ => hk, fun e => (by cases e)⟩
  | leave h => exact ⟨rfl, fun e => (by cases e), fun e => (by cases e)⟩
  | begin_ h => exact ⟨rfl, fun e => (by cases e), fun e => (by cases e)⟩
  | raise0 h e => exact ⟨rfl, fun _ => (by show 0 < n - 1; omega), fun e => (by cases e)⟩
  | raise h e ne => exact ⟨rfl, fun e => (by cases e), fun _ => ⟨List.length_pos_iff.mpr e, ne⟩⟩
  | hand h ne l => exact ⟨rfl, fun e => (by cases e), fun _ => ⟨l, ne⟩⟩
  | hand0 h ne hk l => exact ⟨rfl, fun _ => (by show 0 < n - 1; omega), fun e => (by cases e)⟩
  | see h => exact ⟨rfl, fun e => (by cases e), fun e => (by cases e)⟩
theorem ns_after {s : Now} (ns : Ns p n s) {i : Nat} (hi : i < n) {w : Wd} {a : Pl} (t : Step p n s i w a) : Ns p n (after p s i (w, a)) := by
  obtain ⟨k1, k2, k3⟩ := okW_step ok hi t
  have e : ∀ j, (after p s i (w, a)).at_ j = if j = i then a else s.at_ j := fun j => at_after ns.len hi
  refine ⟨by simp [after, ns.len], fun j hj => ?_, fun j hj u => ?_, fun j hj u => ?_, ?_⟩
  · rw [e]; split
    · exact k1
    · exact ns.wd j hj
  · rw [e] at u ⊢
    split
    · rename_i z; rw [if_pos z] at u; exact k2 u
    · rename_i z; rw [if_neg z] at u; exact ns.k j hj u
  · rw [e] at u ⊢
    split
    · rename_i z; rw [if_pos z] at u; subst z; exact k3 u
    · rename_i z; rw [if_neg z] at u; exact ns.hk j hj u
  · have := ns.tl
    show (if w = .w_hand then give p s i else s.tk).length ≤ 100
    split
    · unfold give; rw [List.length_map]; exact this
    · exact this
/-! ### the tokens -/
theorem give_mine {s : Now} {i j : Nat} (hj : evth p i (s.at_ i).2 = j) (e : i ≠ j) : hasT (give p s i) (min i j, max i j, i) = false := by
  unfold hasT
  rw [decide_eq_false_iff_not]
  intro hm
  unfold give at hm
  rw [hj] at hm
  obtain ⟨t, ht, e1⟩ := List.mem_map.mp hm
  split at e1
  · have : j = i := congrArg (fun x => x.2.2) e1
    exact e this.symm
  · rename_i hc
    subst e1
    exact hc ⟨rfl, rfl⟩
theorem give_other {s : Now} {i j a b c : Nat} (hj : evth p i (s.at_ i).2 = j) (e : ¬ (a = min i j ∧ b = max i j)) : hasT (give p s i) (a, b, c) = hasT s.tk (a, b, c) := by
  unfold hasT
  refine decide_eq_decide.mpr ?_
  unfold give
  rw [hj]
  constructor
  · intro hm
    obtain ⟨t, ht, e1⟩ := List.mem_map.mp hm
    split at e1
    · rename_i hc
      obtain ⟨q1, q2⟩ := hc
      have h1 : t.1 = a := congrArg (fun x => x.1) e1
      have h2 : t.2.1 = b := congrArg (fun x => x.2.1) e1
      exact absurd ⟨h1.symm.trans q1, h2.symm.trans q2⟩ e
    · subst e1; exact ht
  · intro hm
    exact List.mem_map.mpr ⟨(a, b, c), hm, if_neg e⟩
/-! ### the others' steps -/
theorem flag_h {s : Now} (ns : Ns p n s) {h : Nat} (hh : h < n) (u : (s.at_ h).1 = .w_hand ∨ (s.at_ h).1 = .w_look) : flag p (s.at_ h) h ≠ .w_down ∧ (flag p (s.at_ h) h = .w_up → (s.at_ h).1 = .w_look) := by
  rcases u with u | u
  · have := (ns.hk h hh u).2
    unfold flag
    rw [u, if_neg (by decide), if_pos ⟨rfl, this⟩]
    exact ⟨by decide, fun z => by cases z⟩
  · unfold flag
    rw [u, if_pos (by decide)]
    exact ⟨by decide, fun _ => rfl⟩
theorem pot_step {s : Now} (ns : Ns p n s) {h : Nat} (hh : h < n) (u : (s.at_ h).1 = .w_hand ∨ (s.at_ h).1 = .w_look) {i : Nat} (hi : i < n) (e : i ≠ h) {w : Wd} {a : Pl} (t : Step p n s i w a) :
    pot p (after p s i (w, a)) h i + (decide (w = .w_enter)).toNat ≤ pot p s h i := by
  have eh : (after p s i (w, a)).at_ h = s.at_ h := by rw [at_after ns.len hi, if_neg (Ne.symm e)]
  have ei : (after p s i (w, a)).at_ i = a := by rw [at_after ns.len hi, if_pos rfl]
  have ehd : hded p (after p s i (w, a)) h i = hded p s h i := by unfold hded; rw [eh]
  have hx := ok.idx_lt hi hh e
  have tk0 : w ≠ .w_hand → toki (after p s i (w, a)) h i = toki s h i := fun z => by
    unfold toki after
    rw [if_neg z]
  -- by what is known of the place
  have key : ∀ (b' f' t' : Bool), bynd p (after p s i (w, a)) h i = b' → aftr p (after p s i (w, a)) h i = f' → toki (after p s i (w, a)) h i = t' →
      potB (decide (p.w i h = .w_even)) (hded p s h i) b' f' t' + (decide (w = .w_enter)).toNat ≤ pot p s h i → pot p (after p s i (w, a)) h i + (decide (w = .w_enter)).toNat ≤ pot p s h i := by
    intro b' f' t' e1 e2 e3 q
    unfold pot
    rw [ehd, e1, e2, e3]
    exact q
  have b_of : ∀ k, a = (.w_look, k) → bynd p (after p s i (w, a)) h i = decide (idx p i h < k) := fun k z => by
    unfold bynd
    rw [ei, z]
    simp
  have b_no : a.1 ≠ .w_look → bynd p (after p s i (w, a)) h i = false := fun z => by
    unfold bynd
    rw [ei]
    simp [z]
  have f_no : a.1 ≠ .w_look → a.1 ≠ .w_hand → aftr p (after p s i (w, a)) h i = false := fun z z2 => by
    unfold aftr
    rw [ei]
    simp [z, z2]
  cases t with
  | @look k hs hk g l =>
    have c1 : bynd p s h i = decide (idx p i h < k) := by unfold bynd; rw [hs]; simp
    have c2 : aftr p s h i = decide (k ≤ idx p i h) := by unfold aftr; rw [hs]; simp
    refine key _ _ _ (b_of _ rfl) (by unfold aftr; rw [ei]) (tk0 (by decide)) ?_
    unfold pot
    rw [c1, c2]
    by_cases hj : p.kth i k = h
    · obtain ⟨z1, _⟩ := (ok.kth_idx hi hk).mp hj
      rw [hj] at g
      obtain ⟨f1, f2⟩ := flag_h ok ns hh u
      have hp : p.w i h ≠ .w_pass := by rcases ok.wd i h hi hh e with z | z | z <;> rw [z] <;> decide
      simp [passB, f1, hp] at g
      obtain ⟨⟨g1, g2⟩, g3⟩ := g
      have g3' : toki s h i = true := g3
      have h3 : hded p s h i = true := by unfold hded; rw [decide_eq_true_eq]; exact .inl (f2 g2)
      rw [g3', h3, z1]
      simp [potB, g1]
    · have z : idx p i h ≠ k := fun z => hj ((ok.kth_idx hi hk).mpr ⟨z, ((ok.od i hi).2.2 h).mpr ⟨hh, Ne.symm e⟩⟩)
      have y1 : decide (idx p i h < k + 1) = decide (idx p i h < k) := decide_eq_decide.mpr (by omega)
      have y2 : decide ((Wd.w_look, k + 1).1 = Wd.w_hand ∧ eix p i h < (Wd.w_look, k + 1).2 ∨ (Wd.w_look, k + 1).1 = Wd.w_look ∧ (Wd.w_look, k + 1).2 ≤ idx p i h) = decide (k ≤ idx p i h) := decide_eq_decide.mpr (by
        simp
        omega)
      rw [y1, y2]
      exact Nat.le_refl _
  | @enter k hs hk g l =>
    have c1 : bynd p s h i = decide (idx p i h < k) := by unfold bynd; rw [hs]; simp
    have c2 : aftr p s h i = decide (k ≤ idx p i h) := by unfold aftr; rw [hs]; simp
    refine key _ _ _ (b_no (by simp)) (f_no (by simp) (by simp)) rfl ?_
    unfold pot
    rw [c1, c2]
    by_cases hj : p.kth i k = h
    · obtain ⟨z1, _⟩ := (ok.kth_idx hi hk).mp hj
      rw [hj] at g
      obtain ⟨f1, f2⟩ := flag_h ok ns hh u
      have hp : p.w i h ≠ .w_pass := by rcases ok.wd i h hi hh e with z | z | z <;> rw [z] <;> decide
      simp [passB, f1, hp] at g
      obtain ⟨⟨g1, g2⟩, g3⟩ := g
      have g3' : toki s h i = true := g3
      have h3 : hded p s h i = true := by unfold hded; rw [decide_eq_true_eq]; exact .inl (f2 g2)
      rw [g3', h3, z1]
      simp [potB, g1]
    · have z : idx p i h ≠ k := fun z => hj ((ok.kth_idx hi hk).mpr ⟨z, ((ok.od i hi).2.2 h).mpr ⟨hh, Ne.symm e⟩⟩)
      have y1 : decide (idx p i h < k) = true := decide_eq_true (by omega)
      rw [y1]
      cases decide (p.w i h = .w_even) <;> cases hded p s h i <;> simp [potB]
  | yield hs hk =>
    refine key _ _ _ (b_no (by simp)) (f_no (by simp) (by simp)) rfl ?_
    unfold pot
    cases decide (p.w i h = .w_even) <;> cases hded p s h i <;> cases bynd p s h i <;> simp [potB]
  | lower hs hk =>
    refine key _ _ _ (b_no (by simp)) (f_no (by simp) (by simp)) rfl ?_
    unfold pot
    cases decide (p.w i h = .w_even) <;> cases hded p s h i <;> cases bynd p s h i <;> simp [potB]
  | leave hs =>
    refine key _ _ _ (b_no (by simp)) (f_no (by simp) (by simp)) rfl ?_
    unfold pot
    cases decide (p.w i h = .w_even) <;> cases hded p s h i <;> cases bynd p s h i <;> simp [potB]
  | begin_ hs =>
    refine key _ _ _ (b_no (by simp)) (f_no (by simp) (by simp)) rfl ?_
    unfold pot
    cases decide (p.w i h = .w_even) <;> cases hded p s h i <;> cases bynd p s h i <;> simp [potB]
  | see hs =>
    refine key _ _ _ (b_no (by simp)) (f_no (by simp) (by simp)) rfl ?_
    unfold pot
    cases decide (p.w i h = .w_even) <;> cases hded p s h i <;> cases bynd p s h i <;> simp [potB]
  | raise0 hs ee =>
    have hv : p.w i h ≠ .w_even := fun z => by
      have := ok.ev_in hi hh e z
      rw [ee] at this
      cases this
    refine key _ _ _ (b_of 0 rfl) rfl rfl ?_
    unfold pot
    simp [potB, hv]
  | raise hs ee ne =>
    refine key false false _ (b_no (by simp)) (by unfold aftr; rw [ei]; simp) rfl ?_
    unfold pot
    cases decide (p.w i h = .w_even) <;> cases hded p s h i <;> cases bynd p s h i <;> simp [potB]
  | @hand k hs ne l =>
    have c1 : bynd p s h i = false := by unfold bynd; rw [hs]; simp
    have c2 : aftr p s h i = decide (eix p i h < k) := by unfold aftr; rw [hs]; simp
    have c3 : aftr p (after p s i (.w_hand, .w_hand, k + 1)) h i = decide (eix p i h < k + 1) := by unfold aftr; rw [ei]; simp
    by_cases hv : p.w i h = .w_even
    · have hin := ok.ev_in hi hh e hv
      by_cases hj : evth p i k = h
      · have t1 : toki (after p s i (.w_hand, .w_hand, k + 1)) h i = false := by
          unfold toki after
          rw [if_pos rfl]
          exact give_mine ok (by rw [hs]; exact hj) e
        refine key _ _ _ (b_no (by simp)) c3 t1 ?_
        unfold pot
        rw [c1, c2]
        cases hded p s h i <;> simp [potB, hv]
      · have z : eix p i h ≠ k := fun z => hj ((ok.evth_eix hi (by omega)).mpr ⟨z, hin⟩)
        have t1 : toki (after p s i (.w_hand, .w_hand, k + 1)) h i = toki s h i := by
          unfold toki after
          rw [if_pos rfl]
          refine give_other ok (j := evth p i k) (by rw [hs]) ?_
          rintro ⟨q1, q2⟩
          omega
        refine key _ _ _ (b_no (by simp)) c3 t1 ?_
        unfold pot
        have y : decide (eix p i h < k + 1) = decide (eix p i h < k) := decide_eq_decide.mpr (by omega)
        rw [c1, c2, y]
        exact Nat.le_refl _
    · refine key _ _ _ (b_no (by simp)) rfl rfl ?_
      unfold pot
      rw [c1]
      simp [potB, hv]
  | @hand0 k hs ne hk l =>
    have c1 : bynd p s h i = false := by unfold bynd; rw [hs]; simp
    have c2 : aftr p s h i = decide (eix p i h < k) := by unfold aftr; rw [hs]; simp
    have c3 : aftr p (after p s i (.w_hand, .w_look, 0)) h i = true := by unfold aftr; rw [ei]; simp
    have c4 : bynd p (after p s i (.w_hand, .w_look, 0)) h i = false := by rw [b_of 0 rfl]; simp
    by_cases hv : p.w i h = .w_even
    · have hin := ok.ev_in hi hh e hv
      by_cases hj : evth p i k = h
      · have t1 : toki (after p s i (.w_hand, .w_look, 0)) h i = false := by
          unfold toki after
          rw [if_pos rfl]
          exact give_mine ok (by rw [hs]; exact hj) e
        refine key _ _ _ c4 c3 t1 ?_
        unfold pot
        rw [c1, c2]
        cases hded p s h i <;> simp [potB, hv]
      · have z : eix p i h ≠ k := fun z => hj ((ok.evth_eix hi (by omega)).mpr ⟨z, hin⟩)
        have zl := ok.eix_lt hin
        have t1 : toki (after p s i (.w_hand, .w_look, 0)) h i = toki s h i := by
          unfold toki after
          rw [if_pos rfl]
          refine give_other ok (j := evth p i k) (by rw [hs]) ?_
          rintro ⟨q1, q2⟩
          omega
        refine key _ _ _ c4 c3 t1 ?_
        unfold pot
        have y : decide (eix p i h < k) = true := decide_eq_true (by omega)
        rw [c1, c2, y]
        exact Nat.le_refl _
    · refine key _ _ _ c4 rfl rfl ?_
      unfold pot
      rw [c1]
      simp [potB, hv]
end
/-! ### the count -/
/-- what is known of the hand h while it is between its last raising and its going in, others having gone in c times -/
def Inv (p : Plan) (n : Nat) (s : Now) (h c : Nat) : Prop := (s.at_ h).1 = .w_hand ∨ (s.at_ h).1 = .w_look → c + sm n h (pot p s h) ≤ mp p n h
/-- the law's count behind a step -/
def cnt (h c : Nat) (k : Nat) (w : Wd) : Nat := if k ≠ h ∧ w = .w_enter then (if k = h ∧ w = .w_raise then 0 else c) + 1 else (if k = h ∧ w = .w_raise then 0 else c)
theorem cnt_own (h c : Nat) (w : Wd) : cnt h c h w = if w = .w_raise then 0 else c := by simp [cnt]
theorem cnt_other {h c k : Nat} (e : k ≠ h) (w : Wd) : cnt h c k w = c + (decide (w = .w_enter)).toNat := by
  unfold cnt
  by_cases e2 : w = .w_enter <;> simp [e, e2]
section
variable {p : Plan} {n : Nat} (ok : Ok p n)
include ok
theorem bynd_last {s : Now} (ns : Ns p n s) {h i : Nat} (hh : h < n) (hi : i < n) (e : i ≠ h) : (bynd p s h i).toNat ≤ (notLast p h i).toNat := by
  by_cases hb : bynd p s h i = true
  · have hnl : notLast p h i = true := by
      unfold bynd at hb
      rw [decide_eq_true_eq] at hb
      obtain ⟨b1, b2⟩ := hb
      have hk := ns.k i hi (by rw [b1]; rfl)
      unfold notLast
      rw [decide_eq_true_eq]
      intro hl
      have hlen := (ok.od i hi).2.1
      have n2 := ok.n2
      have hlt : (p.o i).length - 1 < (p.o i).length := by omega
      rw [List.getElem?_eq_getElem hlt] at hl
      have hx := (ok.od i hi).1.idxOf_getElem _ hlt
      rw [Option.some.inj hl] at hx
      have : idx p i h = (p.o i).length - 1 := hx
      omega
    rw [hb, hnl]
    exact Nat.le_refl _
  · have hb' : bynd p s h i = false := by simpa using hb
    rw [hb']
    exact Nat.zero_le _
theorem inv_step {s : Now} (ns : Ns p n s) {h c : Nat} (hh : h < n) (iv : Inv p n s h c) {k : Nat} (hk : k < n) {w : Wd} {a : Pl} (t : Step p n s k w a) :
    Inv p n (after p s k (w, a)) h (cnt h c k w) ∧ (k = h → w = .w_enter → c ≤ mp p n h) := by
  by_cases e : k = h
  · subst e
    have ek : (after p s k (w, a)).at_ k = a := by rw [at_after ns.len hk, if_pos rfl]
    rw [cnt_own]
    have triv : a.1 ≠ .w_hand → a.1 ≠ .w_look → ∀ c', Inv p n (after p s k (w, a)) k c' := fun z1 z2 c' u => by
      rw [ek] at u
      rcases u with u | u
      · exact absurd u z1
      · exact absurd u z2
    have nots : w ≠ .w_enter → (k = k → w = .w_enter → c ≤ mp p n k) := fun z _ z2 => absurd z2 z
    -- the other hands do not move
    have eo : ∀ i, i ≠ k → (after p s k (w, a)).at_ i = s.at_ i := fun i hi => by rw [at_after ns.len hk, if_neg hi]
    have same : ∀ i, i < n → i ≠ k → hded p (after p s k (w, a)) k i = hded p s k i → toki (after p s k (w, a)) k i = toki s k i → pot p (after p s k (w, a)) k i = pot p s k i := by
      intro i hi hik z1 z2
      unfold pot
      rw [z1, z2]
      unfold bynd aftr
      rw [eo i hik]
    cases t with
    | @look j hs hj g l =>
      refine ⟨fun _ => ?_, nots (by decide)⟩
      rw [if_neg (by decide)]
      have := iv (.inr (by rw [hs]))
      refine Nat.le_trans (Nat.add_le_add_left (sm_le fun i hi hik => Nat.le_of_eq (same i hi hik ?_ ?_)) c) this
      · unfold hded; rw [ek, hs]; simp
      · unfold toki after; rw [if_neg (by simp)]
    | enter hs hj g l => exact ⟨triv (by simp) (by simp) _, fun _ _ => Nat.le_trans (Nat.le_add_right _ _) (iv (.inr (by rw [hs])))⟩
    | yield hs hj => exact ⟨triv (by simp) (by simp) _, nots (by decide)⟩
    | lower hs hj => exact ⟨triv (by simp) (by simp) _, nots (by decide)⟩
    | leave hs => exact ⟨triv (by simp) (by simp) _, nots (by decide)⟩
    | begin_ hs => exact ⟨triv (by simp) (by simp) _, nots (by decide)⟩
    | see hs => exact ⟨triv (by simp) (by simp) _, nots (by decide)⟩
    | raise0 hs ee =>
      refine ⟨fun _ => ?_, nots (by decide)⟩
      rw [if_pos rfl, Nat.zero_add]
      refine Nat.le_trans (sm_le fun i hi hik => ?_) (bnd_le ok hk)
      have hv : p.w i k ≠ .w_even := fun z => by
        have := ok.ev_in hk hi (Ne.symm hik) ((ok.ev_sy hi hk hik).mp z)
        rw [ee] at this
        cases this
      have nsa := ns_after ok ns hk (.raise0 hs ee)
      have := bynd_last ok nsa hk hi hik
      unfold pot bnd
      simp only [hv, decide_false, potB, Bool.toNat_false, Nat.add_zero]
      exact this
    | raise hs ee ne =>
      refine ⟨fun _ => ?_, nots (by decide)⟩
      rw [if_pos rfl, Nat.zero_add]
      refine Nat.le_trans (sm_le fun i hi hik => ?_) (bnd_le ok hk)
      have nsa := ns_after ok ns hk (.raise hs ee ne)
      have := bynd_last ok nsa hk hi hik
      have h0 : hded p (after p s k (.w_raise, .w_hand, 0)) k i = false := by unfold hded; rw [ek]; simp
      unfold pot bnd
      rw [h0]
      cases decide (p.w i k = .w_even)
      · simp only [potB, Bool.toNat_false, Nat.add_zero]
        exact this
      · simp only [potB, Bool.toNat_true]
        omega
    | @hand j hs ne l =>
      refine ⟨fun _ => ?_, nots (by decide)⟩
      rw [if_neg (by decide)]
      refine Nat.le_trans (Nat.add_le_add_left (sm_le fun i hi hik => ?_) c) (iv (.inl (by rw [hs])))
      have c1 : hded p s k i = decide (eix p k i < j) := by unfold hded; rw [hs]; simp
      have c2 : hded p (after p s k (.w_hand, .w_hand, j + 1)) k i = decide (eix p k i < j + 1) := by unfold hded; rw [ek]; simp
      by_cases hv : p.w i k = .w_even
      · have hin := ok.ev_in hk hi (Ne.symm hik) ((ok.ev_sy hi hk hik).mp hv)
        by_cases hj : evth p k j = i
        · obtain ⟨z1, _⟩ := (ok.evth_eix hk (by omega)).mp hj
          unfold pot
          rw [c1, c2, z1]
          simp only [hv, decide_true, Nat.lt_irrefl, decide_false, Nat.lt_succ_self, potB]
          split <;> (try cases aftr p (after p s k (.w_hand, .w_hand, j + 1)) k i <;> cases toki (after p s k (.w_hand, .w_hand, j + 1)) k i <;> simp <;> omega) <;> omega
        · have z : eix p k i ≠ j := fun z => hj ((ok.evth_eix hk (by omega)).mpr ⟨z, hin⟩)
          refine Nat.le_of_eq (same i hi hik ?_ ?_)
          · rw [c1, c2]; exact decide_eq_decide.mpr (by omega)
          · unfold toki after
            rw [if_pos rfl]
            refine give_other ok (j := evth p k j) (by rw [hs]) ?_
            rintro ⟨q1, q2⟩
            omega
      · unfold pot
        simp only [hv, decide_false, potB]
        unfold bynd
        rw [eo i hik]
        exact Nat.le_refl _
    | @hand0 j hs ne hj0 l =>
      refine ⟨fun _ => ?_, nots (by decide)⟩
      rw [if_neg (by decide)]
      refine Nat.le_trans (Nat.add_le_add_left (sm_le fun i hi hik => ?_) c) (iv (.inl (by rw [hs])))
      have c1 : hded p s k i = decide (eix p k i < j) := by unfold hded; rw [hs]; simp
      have c2 : hded p (after p s k (.w_hand, .w_look, 0)) k i = true := by unfold hded; rw [ek]; simp
      by_cases hv : p.w i k = .w_even
      · have hin := ok.ev_in hk hi (Ne.symm hik) ((ok.ev_sy hi hk hik).mp hv)
        have hlt := ok.eix_lt hin
        by_cases hj : evth p k j = i
        · obtain ⟨z1, _⟩ := (ok.evth_eix hk hj0).mp hj
          unfold pot
          rw [c1, c2, z1]
          simp only [hv, decide_true, Nat.lt_irrefl, decide_false, potB]
          split <;> (try cases aftr p (after p s k (.w_hand, .w_look, 0)) k i <;> cases toki (after p s k (.w_hand, .w_look, 0)) k i <;> simp <;> omega) <;> omega
        · have z : eix p k i ≠ j := fun z => hj ((ok.evth_eix hk hj0).mpr ⟨z, hin⟩)
          refine Nat.le_of_eq (same i hi hik ?_ ?_)
          · rw [c1, c2]; exact (decide_eq_true (by omega)).symm
          · unfold toki after
            rw [if_pos rfl]
            refine give_other ok (j := evth p k j) (by rw [hs]) ?_
            rintro ⟨q1, q2⟩
            omega
      · unfold pot
        simp only [hv, decide_false, potB]
        unfold bynd
        rw [eo i hik]
        exact Nat.le_refl _
  · have eh : (after p s k (w, a)).at_ h = s.at_ h := by rw [at_after ns.len hk, if_neg (Ne.symm e)]
    refine ⟨fun u => ?_, fun z => absurd z e⟩
    rw [eh] at u
    rw [cnt_other e]
    have q1 := pot_step ok ns hh u hk e t
    have := iv u
    refine Nat.le_trans ?_ this
    rw [Nat.add_assoc, Nat.add_comm (decide (w = Wd.w_enter)).toNat]
    refine Nat.add_le_add_left (sm_one (k := k) e q1 hk fun i hi hih hik => ?_) c
    -- the other ones
    have ei : (after p s k (w, a)).at_ i = s.at_ i := by rw [at_after ns.len hk, if_neg hik]
    have t1 : toki (after p s k (w, a)) h i = toki s h i := by
      unfold toki after
      by_cases hw : w = .w_hand
      · dsimp only
        rw [if_pos hw]
        refine give_other ok (j := evth p k (s.at_ k).2) rfl ?_
        rintro ⟨q1, q2⟩
        omega
      · dsimp only
        rw [if_neg hw]
    unfold pot hded bynd aftr
    rw [ei, eh, t1]
    exact Nat.le_refl _
end
end K80

namespace K80
open L2 TV
open PySem (PyData)
/-! ### the deck -/
def dkO (k : Nat) (st : Int) : OO := .dct [(.inr Wd.w_deep.s, .ref k), (.inr Wd.w_state.s, .int st)]
structure HI (h : OH) (d k : Nat) : Prop where
  dk : ∃ st, h[d]? = some (dkO k st)
  ls : ∃ l : List Int, h[k]? = some (.lst (l.map U.int)) ∧ l.length ≤ 1000
  ne : k ≠ d
  cl : ∀ i, i ≠ d → ∀ o, h[i]? = some o → ∃ us, o = .lst us ∧ U.cls us = true
/-- all but the deck stands -/
structure Fr (h h' : OH) (d k : Nat) : Prop where
  len : h'.length = h.length
  eq : ∀ i, i ≠ d → i ≠ k → h'[i]? = h[i]?
theorem Fr.refl {h : OH} {d k : Nat} : Fr h h d k := ⟨rfl, fun _ _ _ => rfl⟩
theorem Fr.trans {h h1 h2 : OH} {d k : Nat} (a : Fr h h1 d k) (b : Fr h1 h2 d k) : Fr h h2 d k := ⟨b.len.trans a.len, fun i x y => (b.eq i x y).trans (a.eq i x y)⟩
theorem HI.dlt {h : OH} {d k : Nat} (x : HI h d k) : d < h.length := let ⟨_, e⟩ := x.dk; (List.getElem?_eq_some_iff.mp e).1
theorem HI.klt {h : OH} {d k : Nat} (x : HI h d k) : k < h.length := let ⟨_, e, _⟩ := x.ls; (List.getElem?_eq_some_iff.mp e).1
theorem HI.setk {h : OH} {d k : Nat} (x : HI h d k) (l : List Int) (hl : l.length ≤ 1000) : HI (h.set k (.lst (l.map U.int))) d k ∧ Fr h (h.set k (.lst (l.map U.int))) d k := by
  refine ⟨⟨?_, ⟨l, by rw [List.getElem?_set_self x.klt], hl⟩, x.ne, fun i hi o e => ?_⟩, by simp, fun i _ hk => by rw [List.getElem?_set_ne (Ne.symm hk)]⟩
  · obtain ⟨st, e⟩ := x.dk
    exact ⟨st, by rw [List.getElem?_set_ne x.ne]; exact e⟩
  · by_cases hk : i = k
    · subst hk
      rw [List.getElem?_set_self x.klt] at e
      cases e
      exact ⟨_, rfl, cls_map (fun _ => rfl) l⟩
    · rw [List.getElem?_set_ne (Ne.symm hk)] at e
      exact x.cl i hi o e
theorem HI.setd {h : OH} {d k : Nat} (x : HI h d k) (st : Int) : HI (h.set d (dkO k st)) d k ∧ Fr h (h.set d (dkO k st)) d k := by
  refine ⟨⟨⟨st, by rw [List.getElem?_set_self x.dlt]⟩, ?_, x.ne, fun i hi o e => ?_⟩, by simp, fun i hd _ => by rw [List.getElem?_set_ne (Ne.symm hd)]⟩
  · obtain ⟨l, e, hl⟩ := x.ls
    exact ⟨l, by rw [List.getElem?_set_ne (Ne.symm x.ne)]; exact e, hl⟩
  · rw [List.getElem?_set_ne (Ne.symm hi)] at e
    exact x.cl i hi o e
theorem cl_ref {n : Nat} : U.cl (.ref n) = false := rfl
theorem ix_deep {h : OH} {d k : Nat} {st : Int} (e : h[d]? = some (dkO k st)) : ixO h (.ref d) (.str Wd.w_deep.s) = some (.ref k) := by
  simp [ixO, e, dkO, atKU, keyO, valU]
theorem ix_state {h : OH} {d k : Nat} {st : Int} (e : h[d]? = some (dkO k st)) : ixO h (.ref d) (.str Wd.w_state.s) = some (.int st) := by
  simp [ixO, e, dkO, atKU, keyO, valU, s_eq]
theorem st_state {h : OH} {d k : Nat} {st v : Int} (e : h[d]? = some (dkO k st)) : stE (.ref d) (.str Wd.w_state.s) (.int v) h = some (h.set d (dkO k v)) := by
  simp [stE, e, dkO, keyO, putU, s_eq, LIM]
theorem rsL_ints (r : Nat → Option U) : ∀ l : List Int, U.rsL r (l.map U.int) = some (l.map U.int)
  | [] => rfl
  | a :: l => by simp [U.rsL, U.rs, rsL_ints r l]
theorem frz_lst {h : OH} {k n : Nat} {us : List U} (e : h[k]? = some (.lst us)) (hk : n ≤ k) (c : U.cls us = true) : frz h n 2 (.ref k) = some (.fls us) := by
  show (if k < n then some (U.ref k) else match h[k]? with
    | some (.lst us) => (U.rsL (fun m => frz h n 1 (.ref m)) us).map .fls
    | _ => none) = _
  rw [if_neg (by omega), e]
  dsimp only
  rw [rsL_cl _ _ c]
  rfl
theorem ne_nil {h : OH} {k : Nat} {l : List Int} (e : h[k]? = some (.lst (l.map U.int))) : cpO h .ne (.ref k) (.fls []) = some (!l.isEmpty) := by
  show (eqO h (.ref k) (.fls [])).map (!·) = _
  have : eqO h (.ref k) (.fls []) = some l.isEmpty := by
    show (match frz h 0 2 (.ref k), frz h 0 2 (.fls []) with
      | some x, some y => if U.fl 60 x && U.fl 60 y then some (PyData.eqv x.pd y.pd) else none
      | _, _ => none) = _
    rw [frz_lst e (Nat.zero_le _) (cls_map (fun _ => rfl) l)]
    show (if U.fl 60 (.fls (l.map U.int)) && true then some (PyData.eqv (U.pd (.fls (l.map U.int))) (U.pd (.fls []))) else none) = _
    rw [fl_fls, fls_map (fun _ => fl_int _ _) l]
    cases l <;> rfl
  rw [this]
  rfl
theorem pop_k {h : OH} {k : Nat} {l : List Int} {x : Int} (e : h[k]? = some (.lst ((l ++ [x]).map U.int))) : mtE .pop (.ref k) [] h = .ok (.int x) (h.set k (.lst (l.map U.int))) := by
  simp [mtE, popE, lsU, e, List.dropLast_concat]
theorem app_k {h : OH} {k : Nat} {l : List Int} {x : Int} (e : h[k]? = some (.lst (l.map U.int))) (hl : l.length ≤ 1000) : mtE .append (.ref k) [.int x] h = .ok .non (h.set k (.lst ((l ++ [x]).map U.int))) := by
  have : l.length < 16777216 := by omega
  simp [mtE, un1, appendE, lsU, e, LIM, this]
theorem ls_k {h : OH} {k : Nat} {us : List U} (e : h[k]? = some (.lst us)) (m : Mt) (hm : m ≠ .index) : mtK m (.ref k) h = true := by
  cases m <;> first | (simp [mtK, isLs, e]; done) | exact absurd rfl hm
@[simp] theorem op_mod (m : Bool) (a b : Int) (h : OH) (hb : b ≠ 0) : opE m .mod (.int a) (.int b) h = .ok (.int (a.fmod b)) h := by
  simp [opE, intE, modO, hb]
theorem op_fdiv (m : Bool) (a b : Int) (h : OH) (hb : b ≠ 0) (hb2 : b.natAbs < 1073741824) : opE m .fdiv (.int a) (.int b) h = .ok (.int (a.fdiv b)) h := by
  simp [opE, intE, fdivO, hb, hb2]
theorem op_mul (m : Bool) (a b : Int) (h : OH) (hb : (TV.small64 a || TV.small64 b) = true) : opE m .mul (.int a) (.int b) h = .ok (.int (a * b)) h := by
  show (if (TV.small64 a || TV.small64 b) = true then R.ok (U.int (a * b)) h else .bad) = _
  rw [if_pos hb]
@[simp] theorem bi_int (m : Bool) (a : Int) (h : OH) : biE m .int [.int a] h = .ok (.int a) h := rfl
@[simp] theorem cp_ge_int (h : OH) (a b : Int) : cpO h .ge (.int a) (.int b) = some (decide (b ≤ a)) := rfl
theorem fmod_nn (a : Int) {b : Int} (hb : 0 < b) : 0 ≤ a.fmod b ∧ a.fmod b < b := by
  rw [Int.fmod_eq_emod_of_nonneg a (Int.le_of_lt hb)]
  exact ⟨Int.emod_nonneg _ (by omega), Int.emod_lt_of_pos _ hb⟩
theorem fmod_lt (a : Int) {m : Nat} (hm : 2 ≤ m) : ∃ v : Nat, a.fmod (m : Int) = (v : Int) ∧ v < m := by
  obtain ⟨h1, h2⟩ := fmod_nn a (b := (m : Int)) (by omega)
  exact ⟨(a.fmod m).toNat, by omega, by omega⟩
theorem small_mul (a : Int) (b : Int) (h : -18446744073709551616 < b ∧ b < 18446744073709551616) : (TV.small64 a || TV.small64 b) = true := by
  unfold TV.small64
  rw [Bool.or_eq_true, decide_eq_true_eq, decide_eq_true_eq]
  omega
theorem small_mul' (a : Int) (b : Int) (h : -18446744073709551616 < a ∧ a < 18446744073709551616) : (TV.small64 a || TV.small64 b) = true := by
  unfold TV.small64
  rw [Bool.or_eq_true, decide_eq_true_eq, decide_eq_true_eq]
  omega
theorem c_draw {h : OH} {dk k many : Nat} (x : HI h dk k) (hm : many ≤ 1000) (d fu : Nat) :
    wpR (evC (tabP tab) fu (d + 1) 8 [.ref dk, iU many] h) fun u h' => ∃ v : Nat, u = iU v ∧ ((2 ≤ many ∧ v < many) ∨ (many < 2 ∧ v = 0)) ∧ HI h' dk k ∧ Fr h h' dk k := by
  rw [evC_run (F := f_law_draw) rfl]
  refine run_wp rfl ?_
  have fin : ∀ (v : Nat) (h' : OH), ((2 ≤ many ∧ v < many) ∨ (many < 2 ∧ v = 0)) → HI h' dk k → Fr h h' dk k → wpR (finE f_law_draw.trim h.length (iU v) h') (fun u h' => ∃ v : Nat, u = iU v ∧ ((2 ≤ many ∧ v < many) ∨ (many < 2 ∧ v = 0)) ∧ HI h' dk k ∧ Fr h h' dk k) := fun v h' q1 q2 q3 => by
    refine fin_cl rfl ?_ ⟨v, rfl, q1, q2, q3⟩
    rw [← q3.len, List.take_length]
    exact ⟨v, rfl, q1, q2, q3⟩
  obtain ⟨st, e1⟩ := x.dk
  obtain ⟨l, e2, hl⟩ := x.ls
  by_cases h2 : many < 2
  · have h2' : (many : Int) < 2 := by omega
    simp [f_law_draw, evSs, evS, evE, evL, h2']
    exact fin 0 h (.inr ⟨h2, rfl⟩) x .refl
  · have h2' : ¬ (many : Int) < 2 := by omega
    have hz : (many : Int) ≠ 0 := by omega
    have hz2 : (many : Int).natAbs < 1073741824 := by omega
    have m5 : ∀ a h, opE false .mod (.int a) (iU many) h = .ok (.int (a.fmod many)) h := fun a h => op_mod _ _ _ h hz
    rcases List.eq_nil_or_concat l with rfl | ⟨l', y, rfl⟩
    · generalize hst : Int.fmod (st * 1181783497276652981 + 88172645463325) 2305843009213693951 = s1
      have hs : 0 ≤ s1 ∧ s1 < 2305843009213693951 := by rw [← hst]; exact fmod_nn _ (by decide)
      obtain ⟨v, ev, hv⟩ := fmod_lt (Int.fdiv (Int.fmod (s1 * s1 + 374761393 * s1 + 11) 2305843009213693921) 1048576) (m := many) (by omega)
      obtain ⟨x1, f1⟩ := x.setd s1
      have m1 : ∀ h, opE false .mul (.int st) (.int 1181783497276652981) h = .ok (.int (st * 1181783497276652981)) h := fun h => op_mul _ _ _ h (small_mul _ _ (by decide))
      have m2 : ∀ h, opE false .mul (.int s1) (.int s1) h = .ok (.int (s1 * s1)) h := fun h => op_mul _ _ _ h (small_mul _ _ (by omega))
      have m3 : ∀ h, opE false .mul (.int 374761393) (.int s1) h = .ok (.int (374761393 * s1)) h := fun h => op_mul _ _ _ h (small_mul _ _ (by omega))
      have m4 : ∀ a h, opE false .fdiv (.int a) (.int 1048576) h = .ok (.int (a.fdiv 1048576)) h := fun a h => op_fdiv _ _ _ h (by decide) (by decide)
      simp [f_law_draw, evSs, evS, evE, evL, h2', ix_deep e1, ne_nil e2, newL, LIM, ix_state e1, m1, m2, m3, m4, hst, ttE, st_state e1, m5, ev]
      exact fin v _ (.inl ⟨by omega, hv⟩) x1 f1
    · obtain ⟨v, ev, hv⟩ := fmod_lt y (m := many) (by omega)
      have hl' : l'.length ≤ 1000 := by rw [List.concat_eq_append, List.length_append] at hl; omega
      rw [List.concat_eq_append] at e2
      obtain ⟨x1, f1⟩ := x.setk l' hl'
      have e3 : (h.set k (.lst (l'.map U.int)))[k]? = some (.lst (l'.map U.int)) := List.getElem?_set_self x.klt
      have hne : (l' ++ [y]).isEmpty = false := by cases l' <;> rfl
      by_cases hy : (many : Int) ≤ y
      · obtain ⟨st', e4⟩ := x1.dk
        have hl2 : (l' ++ [y.fdiv many]).length ≤ 1000 := by
          rw [List.concat_eq_append, List.length_append] at hl
          rw [List.length_append]
          exact hl
        obtain ⟨x2, f2⟩ := x1.setk _ hl2
        simp only [List.set_set, List.map_append, List.map_cons, List.map_nil] at x2 f2
        have m4 : ∀ h, opE false .fdiv (.int y) (iU many) h = .ok (.int (y.fdiv many)) h := fun h => op_fdiv _ _ _ h hz hz2
        simp [f_law_draw, evSs, evS, evE, evL, h2', ix_deep e1, ne_nil e2, hne, newL, LIM, ls_k e2, pop_k e2, ttE, hy, ix_deep e4, ls_k e3, m4, app_k e3 hl', m5, ev]
        exact fin v _ (.inl ⟨by omega, hv⟩) x2 (f1.trans f2)
      · simp [f_law_draw, evSs, evS, evE, evL, h2', ix_deep e1, ne_nil e2, hne, newL, LIM, ls_k e2, pop_k e2, ttE, hy, m5, ev]
        exact fin v _ (.inl ⟨by omega, hv⟩) x1 f1
theorem c_pick {α : Type} {h : OH} {dk k : Nat} (x : HI h dk k) (enc : α → U) (l : List α) (h0 : l ≠ []) (hl : l.length ≤ 1000) (d fu : Nat) (cl : ∀ a, U.cl (enc a) = true) :
    wpR (evC (tabP tab) fu (d + 2) 9 [.ref dk, .fls (l.map enc)] h) fun u h' => ∃ a, a ∈ l ∧ u = enc a ∧ HI h' dk k ∧ Fr h h' dk k := by
  rw [evC_run (F := f_law_pick) rfl]
  refine run_wp rfl ?_
  simp [f_law_pick, evSs, evS, evE, evL]
  obtain ⟨u, h', e, v, rfl, hv, x1, f1⟩ := wpR_ex (c_draw x hl d fu)
  have hp : 0 < l.length := List.length_pos_iff.mpr h0
  have hv' : v < l.length := by omega
  have e' : evC (tabP tab) fu (d + 1) 8 [.ref dk, .int (l.length : Int)] h = .ok (iU v) h' := e
  simp [e', List.getElem?_eq_getElem hv']
  refine fin_cl (cl _) ?_ ⟨_, List.getElem_mem hv', rfl, x1, f1⟩
  rw [← f1.len, List.take_length]
  exact ⟨_, List.getElem_mem hv', rfl, x1, f1⟩
end K80

namespace K80
open L2 TV
open PySem (PyData)
mutual
theorem bel_cl {n : Nat} : ∀ u : U, U.cl u = true → U.bel n u = true
  | .non, _ => rfl
  | .bl _, _ => rfl
  | .int _, _ => rfl
  | .str _, _ => rfl
  | .rls _, _ => rfl
  | .tup us, h => by
    simp only [U.cl] at h
    simp only [U.bel]
    exact bels_cl us h
  | .fls us, h => by
    simp only [U.cl] at h
    simp only [U.bel]
    exact bels_cl us h
  | .ref _, h => by cases h
theorem bels_cl {n : Nat} : ∀ us : List U, U.cls us = true → U.bels n us = true
  | [], _ => rfl
  | u :: us, h => by
    simp only [U.cls, Bool.and_eq_true] at h
    simp only [U.bels, Bool.and_eq_true]
    exact ⟨bel_cl u h.1, bels_cl us h.2⟩
end
theorem HI.bel {h : OH} {d k : Nat} (x : HI h d k) {n : Nat} (hd : d < n) (hk : k < n) : OH.bel n (h.take n) = true := by
  refine List.all_eq_true.mpr fun o ho => ?_
  obtain ⟨i, hi, e⟩ := List.mem_iff_getElem.mp (List.mem_of_mem_take ho)
  have e' : h[i]? = some o := by rw [List.getElem?_eq_getElem hi, e]
  by_cases hid : i = d
  · subst hid
    obtain ⟨st, e1⟩ := x.dk
    rw [e1] at e'
    cases e'
    simp [OO.bel, dkO, U.bels, U.bel, hk]
  · obtain ⟨us, rfl, hc⟩ := x.cl i hid o e'
    exact bels_cl us hc
theorem HI.take {h : OH} {d k : Nat} (x : HI h d k) {n : Nat} (hd : d < n) (hk : k < n) : HI (h.take n) d k := by
  refine ⟨?_, ?_, x.ne, fun i hi o e => ?_⟩
  · obtain ⟨st, e⟩ := x.dk
    exact ⟨st, by rw [List.getElem?_take_of_lt hd]; exact e⟩
  · obtain ⟨l, e, hl⟩ := x.ls
    exact ⟨l, by rw [List.getElem?_take_of_lt hk]; exact e, hl⟩
  · have hin : i < n := by
      have := (List.getElem?_eq_some_iff.mp e).1
      rw [List.length_take] at this
      omega
    rw [List.getElem?_take_of_lt hin] at e
    exact x.cl i hi o e
/-- a closed list more -/
theorem HI.more {h : OH} {d k : Nat} (x : HI h d k) (us : List U) (c : U.cls us = true) : HI (h ++ [.lst us]) d k := by
  have hd := x.dlt
  have hk := x.klt
  refine ⟨?_, ?_, x.ne, fun i hi o e => ?_⟩
  · obtain ⟨st, e⟩ := x.dk
    exact ⟨st, by rw [List.getElem?_append_left hd]; exact e⟩
  · obtain ⟨l, e, hl⟩ := x.ls
    exact ⟨l, by rw [List.getElem?_append_left hk]; exact e, hl⟩
  · by_cases hi' : i < h.length
    · rw [List.getElem?_append_left hi'] at e
      exact x.cl i hi o e
    · rw [List.getElem?_append_right (by omega)] at e
      have : i - h.length = 0 := by
        have := (List.getElem?_eq_some_iff.mp e).1
        simp at this; omega
      rw [this] at e
      cases e
      exact ⟨us, rfl, c⟩
/-- another closed list changed -/
theorem HI.put {h : OH} {d k : Nat} (x : HI h d k) {a : Nat} (ha : a ≠ d) (hak : a ≠ k) (us : List U) (c : U.cls us = true) : HI (h.set a (.lst us)) d k := by
  refine ⟨?_, ?_, x.ne, fun i hi o e => ?_⟩
  · obtain ⟨st, e⟩ := x.dk
    exact ⟨st, by rw [List.getElem?_set_ne ha]; exact e⟩
  · obtain ⟨l, e, hl⟩ := x.ls
    exact ⟨l, by rw [List.getElem?_set_ne hak]; exact e, hl⟩
  · by_cases hia : i = a
    · subst hia
      have hlt : i < h.length := by
        have := (List.getElem?_eq_some_iff.mp e).1
        rwa [List.length_set] at this
      rw [List.getElem?_set_self hlt] at e
      cases e
      exact ⟨us, rfl, c⟩
    · rw [List.getElem?_set_ne (Ne.symm hia)] at e
      exact x.cl i hi o e
/-- grown: what was stays, but the deck -/
structure Gr (h h' : OH) (d k : Nat) : Prop where
  len : h.length ≤ h'.length
  eq : ∀ i, i < h.length → i ≠ d → i ≠ k → h'[i]? = h[i]?
theorem Gr.fr {h h' : OH} {d k : Nat} (g : Gr h h' d k) : Fr h (h'.take h.length) d k := by
  refine ⟨by rw [List.length_take]; have := g.len; omega, fun i x y => ?_⟩
  by_cases hi : i < h.length
  · rw [List.getElem?_take_of_lt hi]; exact g.eq i hi x y
  · rw [List.getElem?_eq_none_iff.mpr (by rw [List.length_take]; omega), List.getElem?_eq_none_iff.mpr (by omega)]
theorem fin_trim {h h' : OH} {u v : U} {d k : Nat} {Q : U → OH → Prop} (e : frz h' h.length 2 u = some v) (x : HI h d k) (x' : HI h' d k) (g : Gr h h' d k) (q : HI (h'.take h.length) d k → Fr h (h'.take h.length) d k → Q v (h'.take h.length)) : wpR (finE true h.length u h') Q := by
  unfold finE
  rw [if_pos rfl, e]
  dsimp only
  rw [if_pos (x'.bel x.dlt x.klt), wpR_ok]
  exact q (x'.take x.dlt x.klt) g.fr
theorem lst_lt {h : OH} {a : Nat} {us : List U} (e : h[a]? = some (.lst us)) : a < h.length := (List.getElem?_eq_some_iff.mp e).1
theorem len_ref {h : OH} {a : Nat} {us : List U} (e : h[a]? = some (.lst us)) (m : Bool) : biE m .len [.ref a] h = .ok (.int (us.length : Nat)) h := by
  simp [biE, un1, lenE, lenO, e]
theorem tup_ref {h : OH} {a : Nat} {us : List U} (e : h[a]? = some (.lst us)) (m : Bool) : biE m .tuple [.ref a] h = .ok (.tup us) h := by
  simp [biE, un1, tupleE, lsO, e]
theorem app_ref {h : OH} {a : Nat} {us : List U} {u : U} (e : h[a]? = some (.lst us)) (hl : us.length ≤ 100000) : mtE .append (.ref a) [u] h = .ok .non (h.set a (.lst (us ++ [u]))) := by
  have : us.length < 16777216 := by omega
  simp [mtE, un1, appendE, lsU, e, LIM, this]
theorem ext_ref {h : OH} {a : Nat} {us vs : List U} (e : h[a]? = some (.lst us)) (hl : us.length + vs.length ≤ 100000) : mtE .extend (.ref a) [.fls vs] h = .ok .non (h.set a (.lst (us ++ vs))) := by
  have : us.length + vs.length ≤ 16777216 := by omega
  simp [mtE, un1, extendE, lsU, e, LIM, lsO, this]
theorem seqIx {v n : Nat} (h : v < n) : PySem.seqIndex? (v : Int) n = some v := by
  unfold PySem.seqIndex?
  have e : (if (v : Int) < 0 then (v : Int) + (n : Int) else (v : Int)) = (v : Int) := if_neg (by omega)
  simp only [e]
  have e2 : (decide (0 ≤ (v : Int)) && decide ((v : Int) < (n : Int))) = true := by
    rw [decide_eq_true (by omega), decide_eq_true (by omega)]; rfl
  rw [if_pos e2]
  rfl
theorem popAt_ref {h : OH} {a v : Nat} {us : List U} (e : h[a]? = some (.lst us)) (hv : v < us.length) (hl : us.length ≤ 100000) : mtE .popAt (.ref a) [iU v] h = .ok us[v] (h.set a (.lst (us.eraseIdx v))) := by
  have h2 : (v : Int).natAbs < 9223372036854775808 := by omega
  have h2' : v < 9223372036854775808 := by omega
  simp [mtE, un1, popAtE, lsU, e, seqIx hv, h2, h2', List.getElem?_eq_getElem hv]
theorem ne_nil_ref {h : OH} {k : Nat} (l : List Nat) (e : h[k]? = some (.lst (l.map iU))) : cpO h .ne (.ref k) (.fls []) = some (!l.isEmpty) := by
  have e' : h[k]? = some (.lst ((l.map fun (x : Nat) => (x : Int)).map U.int)) := by rw [e, List.map_map]; rfl
  rw [ne_nil e']
  cases l <;> rfl
theorem list_fls (us : List U) (h : OH) (hl : us.length ≤ 100000) : biE true .list [.fls us] h = .ok (.ref h.length) (h ++ [.lst us]) := by
  have : us.length ≤ 16777216 := by omega
  simp [biE, un1, listE, sqO, newL, LIM, this]
theorem map_erase {α β : Type} (f : α → β) : ∀ (l : List α) (i : Nat), (l.map f).eraseIdx i = (l.eraseIdx i).map f
  | [], _ => rfl
  | _ :: _, 0 => rfl
  | a :: l, i + 1 => by
    show f a :: (l.map f).eraseIdx i = f a :: (l.eraseIdx i).map f
    rw [map_erase f l i]
theorem erase_perm {α : Type} : ∀ (l : List α) (i : Nat) (h : i < l.length), (l[i] :: l.eraseIdx i).Perm l
  | a :: l, 0, _ => List.Perm.refl _
  | a :: l, i + 1, h => by
    show (l[i]'(by simpa using h) :: a :: l.eraseIdx i).Perm (a :: l)
    exact (List.Perm.swap _ _ _).trans (List.Perm.cons a (erase_perm l i (by simpa using h)))
theorem c_mixed {h : OH} {dk k : Nat} (x : HI h dk k) (l : List Nat) (hl : l.length ≤ 100) (d fu : Nat) (hfu : 101 ≤ fu) :
    wpR (evC (tabP tab) fu (d + 2) 10 [.ref dk, .fls (l.map iU)] h) fun u h' => ∃ l' : List Nat, l'.Perm l ∧ u = .fls (l'.map iU) ∧ HI h' dk k ∧ Fr h h' dk k := by
  rw [evC_run (F := f_law_mixed) rfl]
  refine run_wp rfl ?_
  have x1 := x.more (l.map iU) (cls_ints l)
  have x2 := x1.more [] rfl
  have hd := x.dlt
  have hk := x.klt
  simp [f_law_mixed, evSs, evS, evE, evL, list_fls, hl, show l.length ≤ 100000 by omega, newL, LIM, setAll]
  rw [wpS_then]
  refine whlL_wp (fun m e h' => ∃ left found : List Nat, m = left.length ∧ e = [some (.ref dk), some (.fls (l.map iU)), some (.ref h.length), some (.ref (h.length + 1))] ∧ HI h' dk k ∧ Gr h h' dk k ∧ h'[h.length]? = some (.lst (left.map iU)) ∧ h'[h.length + 1]? = some (.lst (found.map iU)) ∧ (left ++ found).Perm l) ?_ fu l.length _ _ (by omega) ?_
  · rintro m e h' ⟨left, found, rfl, rfl, y, g, e1, e2, pm⟩
    refine wpR_of (a := .bl (!left.isEmpty)) (h := h') (by simp [evE, evL, newL, ne_nil_ref left e1]) ⟨_, rfl, ?_⟩
    have hlen := pm.length_eq
    rw [List.length_append] at hlen
    cases left with
    | nil =>
      simp only [List.isEmpty_nil, Bool.not_true]
      simp only [List.getElem?_cons_succ, List.getElem?_cons_zero, bindS_ok, then_rt, wpS_rt]
      refine fin_trim (d := dk) (k := k) (v := .fls (found.map iU)) (frz_lst e2 (by omega) (cls_ints _)) x y g fun z1 z2 => ?_
      exact ⟨found, by simpa using pm, rfl, z1, z2⟩
    | cons a left =>
      show wpS _ _
      generalize hL : a :: left = L at *
      have hne : 0 < L.length := by rw [← hL]; simp
      obtain ⟨u, h2, ed, v, rfl, hv, y2, f2⟩ := wpR_ex (c_draw (many := L.length) y (by omega) d fu)
      have hv' : v < L.length := by omega
      have ed' : evC (tabP tab) fu (d + 1) 8 [.ref dk, .int (L.length : Int)] h' = .ok (iU v) h2 := ed
      have f1 : h2[h.length]? = some (.lst (L.map iU)) := by rw [f2.eq _ (by omega) (by omega)]; exact e1
      have f3 : h2[h.length + 1]? = some (.lst (found.map iU)) := by rw [f2.eq _ (by omega) (by omega)]; exact e2
      have hp := popAt_ref (v := v) f1 (by rw [List.length_map]; exact hv') (by rw [List.length_map]; omega)
      rw [List.getElem_map] at hp
      have hlt := lst_lt f1
      have e3 : (L.map iU).eraseIdx v = (L.eraseIdx v).map iU := map_erase iU L v
      rw [e3] at hp
      have y3 := y2.put (a := h.length) (by omega) (by omega) _ (cls_ints (L.eraseIdx v))
      have g1 : (h2.set h.length (.lst ((L.eraseIdx v).map iU)))[h.length + 1]? = some (.lst (found.map iU)) := by rw [List.getElem?_set_ne (by omega)]; exact f3
      have ha := app_ref (u := iU L[v]) g1 (by rw [List.length_map]; omega)
      have e4 : found.map iU ++ [iU L[v]] = (found ++ [L[v]]).map iU := by simp
      rw [e4] at ha
      have y4 := y3.put (a := h.length + 1) (by omega) (by omega) _ (cls_ints (found ++ [L[v]]))
      simp only [evSs, evS, evE, evL]
      simp [len_ref e1, ed', ls_k e2, ls_k e1, hp, ha]
      refine ⟨(L.eraseIdx v).length, ?_, L.eraseIdx v, rfl, by simpa using y4, ?_, ?_, found ++ [L[v]], ?_, ?_⟩
      · rw [List.length_eraseIdx]; split <;> omega
      · refine ⟨by simp [f2.len]; exact g.len, fun i hi q1 q2 => ?_⟩
        rw [List.getElem?_set_ne (by omega), List.getElem?_set_ne (by omega), f2.eq i q1 q2]
        exact g.eq i hi q1 q2
      · rw [List.getElem?_set_self hlt]
      · have := lst_lt g1
        rw [List.getElem?_set_self this]
        simp
      · refine List.Perm.trans ?_ pm
        have q1 : (L[v] :: L.eraseIdx v).Perm L := erase_perm L v hv'
        rw [← List.append_assoc]
        refine List.Perm.trans (List.perm_append_comm (l₁ := L.eraseIdx v ++ found) (l₂ := [L[v]])) ?_
        rw [← List.append_assoc]
        exact List.Perm.append_right found q1
  · refine ⟨l, [], rfl, rfl, ?_, ⟨by simp, fun i hi _ _ => ?_⟩, ?_, ?_, by simp⟩
    · simpa using x2
    · rw [List.getElem?_append_left (by omega)]
    · simp
    · simp
end K80

namespace K80
open L2 TV
open PySem (PyData)
theorem rg2 (a n : Nat) : rgU (a : Int) (n : Int) = (List.range (n - a)).map fun i => iU (a + i) := by
  unfold rgU
  have : ((n : Int) - (a : Int)).toNat = n - a := by omega
  rw [this]
  simp
theorem drop_range {n i : Nat} (h : i < n) : (List.range n).drop i = i :: (List.range n).drop (i + 1) := by
  rw [List.drop_eq_getElem_cons (by simpa using h), List.getElem_range]
def oth (n i : Nat) : List Nat := (List.range n).filter fun j => decide (j ≠ i)
theorem oth_len (n i : Nat) : (oth n i).length ≤ n := by
  have := List.length_filter_le (fun j => decide (j ≠ i)) (List.range n)
  simpa [oth] using this
theorem c_orders {h : OH} {dk k n : Nat} (x : HI h dk k) (hn : n ≤ 100) (d fu : Nat) (hfu : 101 ≤ fu) :
    wpR (evC (tabP tab) fu (d + 3) 11 [.ref dk, iU n] h) fun u h' => ∃ os : List (List Nat), os.length = n ∧ (∀ (i : Nat) (o : List Nat), os[i]? = some o → o.Perm (oth n i)) ∧ u = .tup (os.map fun o => .tup (o.map iU)) ∧ HI h' dk k ∧ Fr h h' dk k := by
  rw [evC_run (F := f_law_orders) rfl]
  refine run_wp rfl ?_
  simp only [f_law_orders, evSs, evS, evE, evL]
  simp [evSr, evE, evCs, tgE, wipeU, smallR_nat (show n ≤ 100000 by omega), gdOk, rg0]
  rw [wpS_then, wpS_bind, wpR_bind, wpR_bind, wpR_bind]
  refine lcL_wp (fun us acc h' => ∃ (i : Nat) (os : List (List Nat)), us = ((List.range n).drop i).map iU ∧ acc = os.map (fun o => .tup (o.map iU)) ∧ os.length = i ∧ i ≤ n ∧ (∀ (j : Nat) (o : List Nat), os[j]? = some o → o.Perm (oth n j)) ∧ HI h' dk k ∧ Fr h h' dk k) ?_ ?_ _ _ _ ⟨0, [], by simp, rfl, rfl, Nat.zero_le _, by simp, x, .refl⟩
  · rintro u us acc h' ⟨i, os, e1, rfl, rfl, hi, ho, y, f⟩
    have hlt : os.length < n := by
      refine Nat.lt_of_le_of_ne hi fun z => ?_
      rw [z, List.drop_of_length_le (by simp)] at e1
      cases e1
    rw [drop_range hlt, List.map_cons] at e1
    cases e1
    obtain ⟨u2, h2, e3, l', pm, rfl, y2, f2⟩ := wpR_ex (c_mixed y (oth n os.length) (by have := oth_len n os.length; omega) d fu hfu)
    refine wpR_of (a := some (.tup (l'.map iU))) (h := h2) ?_ ⟨rfl, by rw [List.length_map]; show os.length < 16777216; omega, os.length + 1, os ++ [l'], rfl, by simp, by simp, hlt, fun j o ho' => ?_, y2, f.trans f2⟩
    · rw [lcL_map iU (fun j => if decide (j ≠ os.length) = true then some (iU j) else none) _ rfl (fun j hj => ?_) (by simp [LIM]; omega), fm_if]
      · simp
        rw [show (List.range n).filter (fun j => !decide (j = os.length)) = oth n os.length by simp [oth]]
        rw [e3]
        simp
      · by_cases hj : j = os.length
        · subst hj; simp
        · have : ¬ (j : Int) = (os.length : Int) := by omega
          simp [hj, this]
    · by_cases hj : j < os.length
      · rw [List.getElem?_append_left hj] at ho'
        exact ho j o ho'
      · rw [List.getElem?_append_right (by omega)] at ho'
        have hz : j - os.length = 0 := by
          have := (List.getElem?_eq_some_iff.mp ho').1
          simp at this; omega
        rw [hz] at ho'
        cases ho'
        have : j = os.length := by omega
        rw [this]
        exact pm
  · rintro acc h' ⟨i, os, e1, rfl, rfl, hi, ho, y, f⟩
    have hlen : os.length = n := by
      by_cases hlt : os.length < n
      · rw [drop_range hlt] at e1; cases e1
      · omega
    simp
    refine fin_trim (d := dk) (k := k) (v := .tup (os.map fun o => .tup (o.map iU))) ?_ x y ⟨by rw [f.len]; exact Nat.le_refl _, fun i _ a b => f.eq i a b⟩ fun z1 z2 => ⟨os, hlen, ho, rfl, z1, z2⟩
    exact frz_cl _ _ _ _ (by simp only [U.cl]; exact cls_map (fun o => by simp only [U.cl]; exact cls_ints o) os)
end K80

namespace K80
open L2 TV
open PySem (PyData)
theorem oth_len' {n i : Nat} (h : i < n) : (oth n i).length = n - 1 := by
  have e : oth n i = (List.range n).erase i := by
    rw [List.Nodup.erase_eq_filter List.nodup_range]
    unfold oth
    congr 1
    funext j
    rw [Bool.eq_iff_iff]
    simp
  rw [e, List.length_erase_of_mem (List.mem_range.mpr h), List.length_range]
def okPair (a b : Wd) : Prop := (a = .w_stand ∨ a = .w_bow ∨ a = .w_even) ∧ (b = .w_stand ∨ b = .w_bow ∨ b = .w_even) ∧ (a = .w_even ↔ b = .w_even)
def prU (a : Wd × Wd) : U := .tup [wU a.1, wU a.2]
/-- the rows of the table, on the heap -/
def rowU (n : Nat) (T : Nat → Nat → Wd) (i : Nat) : List U := (List.range n).map fun j => wU (T i j)
structure TB (h h' : OH) (dk k n : Nat) (T : Nat → Nat → Wd) : Prop where
  hi : HI h' dk k
  gr : Gr h h' dk k
  len : h'.length = h.length + n
  row : ∀ i, i < n → h'[h.length + i]? = some (.lst (rowU n T i))
theorem rowU_len (n : Nat) (T : Nat → Nat → Wd) (i : Nat) : (rowU n T i).length = n := by simp [rowU]
theorem rowU_cl (n : Nat) (T : Nat → Nat → Wd) (i : Nat) : U.cls (rowU n T i) = true := cls_map (fun _ => rfl) _
def upT (T : Nat → Nat → Wd) (i j : Nat) (a : Wd) : Nat → Nat → Wd := fun x y => if x = i ∧ y = j then a else T x y
theorem rowU_set (n : Nat) (T : Nat → Nat → Wd) {i j : Nat} (hj : j < n) (a : Wd) : (rowU n T i).set j (wU a) = rowU n (upT T i j a) i := by
  refine List.ext_getElem? fun x => ?_
  by_cases hx : x = j
  · subst hx
    rw [List.getElem?_set_self (by rw [rowU_len]; exact hj)]
    simp [rowU, upT, hj]
  · rw [List.getElem?_set_ne (Ne.symm hx)]
    simp only [rowU, upT, List.getElem?_map]
    by_cases hxn : x < n
    · rw [List.getElem?_range hxn]
      simp [hx]
    · rw [List.getElem?_eq_none_iff.mpr (by simpa using hxn)]
      rfl
theorem rowU_ne (n : Nat) (T : Nat → Nat → Wd) {i j x : Nat} (hx : x ≠ i) (a : Wd) : rowU n (upT T i j a) x = rowU n T x := by
  simp [rowU, upT, hx]
theorem TB.put {h h' : OH} {dk k n : Nat} {T : Nat → Nat → Wd} (x : HI h dk k) (t : TB h h' dk k n T) {i j : Nat} (hi : i < n) (hj : j < n) (a : Wd) :
    stE (.ref (h.length + i)) (iU j) (wU a) h' = some (h'.set (h.length + i) (.lst (rowU n (upT T i j a) i))) ∧ TB h (h'.set (h.length + i) (.lst (rowU n (upT T i j a) i))) dk k n (upT T i j a) := by
  have hd := x.dlt
  have hk := x.klt
  have hlt := lst_lt (t.row i hi)
  constructor
  · have e : ixN (rowU n T i).length (j : Int) = some j := by
      rw [rowU_len]
      unfold ixN
      rw [if_pos (by omega), if_pos (by omega)]
      rfl
    simp only [stE, t.row i hi]
    rw [e]
    simp only [rowU_set n T hj a]
  · refine ⟨t.hi.put (by omega) (by omega) _ (rowU_cl _ _ _), ⟨by rw [List.length_set]; exact t.gr.len, fun z hz q1 q2 => ?_⟩, by rw [List.length_set]; exact t.len, fun z hz => ?_⟩
    · rw [List.getElem?_set_ne (by omega)]; exact t.gr.eq z hz q1 q2
    · by_cases hzi : z = i
      · subst hzi
        rw [List.getElem?_set_self hlt]
      · rw [List.getElem?_set_ne (by omega), rowU_ne n T hzi]
        exact t.row z hz
/-- a drawing leaves the table -/
theorem TB.fr {h h' h2 : OH} {dk k n : Nat} {T : Nat → Nat → Wd} (x : HI h dk k) (t : TB h h' dk k n T) (y : HI h2 dk k) (f : Fr h' h2 dk k) : TB h h2 dk k n T := by
  have hd := x.dlt
  have hk := x.klt
  exact ⟨y, ⟨by rw [f.len]; exact t.gr.len, fun i hi q1 q2 => by rw [f.eq i q1 q2]; exact t.gr.eq i hi q1 q2⟩, by rw [f.len]; exact t.len, fun i hi => by rw [f.eq _ (by omega) (by omega)]; exact t.row i hi⟩
def tblU (m n : Nat) : U := .fls ((List.range n).map fun i => .ref (m + i))
theorem tbl_ix (m n i : Nat) (h : OH) (hi : i < n) : ixO h (tblU m n) (iU i) = some (.ref (m + i)) := by
  simp [tblU, hi]
/-- the empty table -/
theorem mk_tbl {h : OH} {dk k n : Nat} (x : HI h dk k) (hn : n ≤ 6) (cal : Nat → List U → OH → R U) (a b : U) :
    wpR (evE cal (.lc false (.bin true .mul (.lst false [(.k (.str (Wd.s .w_x2d)))]) (.v 1)) (.nm 4) (.r1 (.v 1)) [] [4]) [some a, some (iU n), some b, none, none, none, none, none] h) fun u h' => u = tblU h.length n ∧ TB h h' dk k n (fun _ _ => .w_x2d) := by
  have hd := x.dlt
  have hk := x.klt
  have r1 : smallR (n : Int) = true := smallR_nat (by omega)
  simp [evE, evSr, evCs, evL, r1, gdOk, rg0, newL, LIM, tgE, wipeU]
  rw [wpR_bind]
  refine lcL_wp (fun us acc h' => ∃ i, us = ((List.range n).drop i).map iU ∧ acc = (List.range i).map (fun j => U.ref (h.length + j)) ∧ i ≤ n ∧ h' = h ++ List.replicate i (.lst (rowU n (fun _ _ => .w_x2d) 0)) ∧ HI h' dk k) ?_ ?_ _ _ _ ⟨0, by simp, rfl, Nat.zero_le _, by simp, x⟩
  · rintro u us acc h' ⟨i, e1, rfl, hi, rfl, y⟩
    have hlt : i < n := by
      refine Nat.lt_of_le_of_ne hi fun z => ?_
      rw [z, List.drop_of_length_le (by simp)] at e1
      cases e1
    rw [drop_range hlt, List.map_cons] at e1
    cases e1
    have y' := y.more (rowU n (fun _ _ => .w_x2d) 0) (rowU_cl _ _ _)
    have e3 : (h ++ List.replicate i (OO.lst (rowU n (fun _ _ => .w_x2d) 0))) ++ [.lst (rowU n (fun _ _ => .w_x2d) 0)] = h ++ List.replicate (i + 1) (.lst (rowU n (fun _ _ => .w_x2d) 0)) := by
      rw [List.append_assoc, List.replicate_succ']
    rw [e3] at y'
    refine wpR_of (a := some (.ref (h.length + i))) (h := h ++ List.replicate (i + 1) (.lst (rowU n (fun _ _ => .w_x2d) 0))) ?_ ⟨rfl, by simp [LIM]; omega, i + 1, rfl, by simp [List.range_succ], hlt, rfl, y'⟩
    have e4 : rowU n (fun _ _ => .w_x2d) 0 = List.replicate n (wU .w_x2d) := by
      unfold rowU
      rw [List.map_const', List.length_range]
    have e5 : (List.replicate n [wU Wd.w_x2d]).flatten = List.replicate n (wU .w_x2d) := by
      simp [List.flatten_replicate_singleton]
    rw [← e3]
    have hnl : n ≤ 16777216 := by omega
    simp [opE, mulE, repE, newL, LIM, hnl, e4, show n < 9223372036854775808 by omega]
  · rintro acc h' ⟨i, e1, rfl, hi, rfl, y⟩
    have hlen : i = n := by
      by_cases hlt : i < n
      · rw [drop_range hlt] at e1; cases e1
      · omega
    subst hlen
    rw [wpR_ok]
    refine ⟨rfl, y, ⟨by simp, fun z hz _ _ => by rw [List.getElem?_append_left hz]⟩, by simp, fun z hz => ?_⟩
    rw [List.getElem?_append_right (by omega), List.getElem?_replicate, if_pos (by omega)]
    rfl
end K80

namespace K80
open L2 TV
open PySem (PyData)
def env8 (dk n : Nat) (prs : List (Wd × Wd)) (m : Nat) (x4 x5 x6 x7 : Option U) : Env' := [some (.ref dk), some (iU n), some (.fls (prs.map prU)), some (tblU m n), x4, x5, x6, x7]
theorem fill {h h1 : OH} {dk k n d fu : Nat} {prs : List (Wd × Wd)} (x : HI h dk k) (hn : n ≤ 6) (hp0 : prs ≠ []) (hpl : prs.length ≤ 1000) (hp : ∀ q ∈ prs, okPair q.1 q.2) (t : TB h h1 dk k n (fun _ _ => .w_x2d)) {D : WS} {y4 y6 : Option U}
    (done : ∀ T x4 x6 h2, TB h h2 dk k n T → (∀ a, a < n → T a a = .w_x2d) → (∀ a b, b < a → a < n → okPair (T a b) (T b a)) → D.nx (env8 dk n prs h.length x4 none x6 none) h2) :
    wpS (evS (evC (tabP tab) fu (d + 2)) fu (.for_ (.nm 4) (.r1 (.v 1)) [.for_ (.nm 6) (.r1 (.v 4)) [.asg (.tp [(.sub (.ix (.v 3) (.v 4)) (.v 6)), (.sub (.ix (.v 3) (.v 6)) (.v 4))]) (.call 9 [(.v 0), (.v 2)])]]) (env8 dk n prs h.length y4 none y6 none) h1) D := by
  rw [for_r1 (n := n) rfl (by omega)]
  refine forL_wp (fun us e h2 => ∃ i T x4 x6, us = ((List.range n).drop i).map iU ∧ i ≤ n ∧ e = env8 dk n prs h.length x4 none x6 none ∧ TB h h2 dk k n T ∧ (∀ a, a < n → T a a = .w_x2d) ∧ (∀ a b, b < a → a < i → okPair (T a b) (T b a))) ?_ ?_ _ _ _
    ⟨0, _, y4, y6, by simp, Nat.zero_le _, rfl, t, fun _ _ => rfl, fun a b _ ha => by omega⟩
  · rintro u us e h2 ⟨i, T, x4, x6, e1, hi, rfl, t2, dg, op⟩
    have hlt : i < n := by
      refine Nat.lt_of_le_of_ne hi fun z => ?_
      rw [z, List.drop_of_length_le (by simp)] at e1
      cases e1
    rw [drop_range hlt, List.map_cons] at e1
    cases e1
    refine ⟨env8 dk n prs h.length (some (iU i)) none x6 none, rfl, ?_⟩
    have e2 : ∀ x6 : Option U, (env8 dk n prs h.length (some (iU i)) none x6 none)[4]? = some (some (iU i)) := fun _ => rfl
    rw [evSs_one, for_r1 (n := i) rfl (by omega)]
    refine forL_wp (fun us e h2 => ∃ j T x6, us = ((List.range i).drop j).map iU ∧ j ≤ i ∧ e = env8 dk n prs h.length (some (iU i)) none x6 none ∧ TB h h2 dk k n T ∧ (∀ a, a < n → T a a = .w_x2d) ∧ (∀ a b, b < a → (a < i ∨ (a = i ∧ b < j)) → okPair (T a b) (T b a))) ?_ ?_ _ _ _
      ⟨0, T, x6, by simp, Nat.zero_le _, rfl, t2, dg, fun a b hb ha => op a b hb (by omega)⟩
    · rintro u us e h3 ⟨j, T, x6, e1, hj, rfl, t3, dg, op⟩
      have hjl : j < i := by
        refine Nat.lt_of_le_of_ne hj fun z => ?_
        rw [z, List.drop_of_length_le (by simp)] at e1
        cases e1
      rw [drop_range hjl, List.map_cons] at e1
      cases e1
      refine ⟨env8 dk n prs h.length (some (iU i)) none (some (iU j)) none, rfl, ?_⟩
      obtain ⟨u, h4, ed, ⟨a, b⟩, hab, rfl, y4, f4⟩ := wpR_ex (c_pick t3.hi prU prs hp0 hpl d fu (fun _ => rfl))
      have t4 := t3.fr x y4 f4
      obtain ⟨s1, t5⟩ := t4.put x hlt (show j < n by omega) a
      obtain ⟨s2, t6⟩ := t5.put x (show j < n by omega) hlt b
      have i1 : ∀ h, ixO h (tblU h.length n) (iU i) = some (.ref (h.length + i)) := fun h => tbl_ix _ _ _ _ hlt
      have g0 : ∀ x6 : Option U, (env8 dk n prs h.length (some (iU i)) none x6 none)[0]? = some (some (.ref dk)) := fun _ => rfl
      have g2 : ∀ x6 : Option U, (env8 dk n prs h.length (some (iU i)) none x6 none)[2]? = some (some (.fls (prs.map prU))) := fun _ => rfl
      have g3 : ∀ x6 : Option U, (env8 dk n prs h.length (some (iU i)) none x6 none)[3]? = some (some (tblU h.length n)) := fun _ => rfl
      have g6 : (env8 dk n prs h.length (some (iU i)) none (some (iU j)) none)[6]? = some (some (iU j)) := rfl
      have j1 : ∀ hh, ixO hh (tblU h.length n) (iU i) = some (.ref (h.length + i)) := fun hh => tbl_ix _ _ _ hh hlt
      have j2 : ∀ hh, ixO hh (tblU h.length n) (iU j) = some (.ref (h.length + j)) := fun hh => tbl_ix _ _ _ hh (by omega)
      have q0 : evSs (evC (tabP tab) fu (d + 2)) fu [.asg (.tp [(.sub (.ix (.v 3) (.v 4)) (.v 6)), (.sub (.ix (.v 3) (.v 6)) (.v 4))]) (.call 9 [(.v 0), (.v 2)])] (env8 dk n prs h.length (some (iU i)) none (some (iU j)) none) h3 = .nx (env8 dk n prs h.length (some (iU i)) none (some (iU j)) none) ((h4.set (h.length + i) (.lst (rowU n (upT T i j a) i))).set (h.length + j) (.lst (rowU n (upT (upT T i j a) j i b) j))) := by
        simp [evSs, evS, evE, evL, g0, g2, g3, e2, g6, ed, prU, ttE, ttEs, j1, j2, s1, s2]
      refine wpS_of q0 ?_
      refine ⟨rfl, j + 1, _, _, rfl, hjl, rfl, t6, fun z hz => ?_, fun z1 z2 h1 h2 => ?_⟩
      · simp only [upT]
        rw [if_neg (by omega), if_neg (by omega)]
        exact dg z hz
      · by_cases hz : z1 = i ∧ z2 = j
        · obtain ⟨rfl, rfl⟩ := hz
          have := hp (a, b) hab
          have n1 : ¬ z2 = z1 := by omega
          have n2 : ¬ z1 = z2 := by omega
          simpa [upT, n1, n2] using this
        · have w1 : upT (upT T i j a) j i b z1 z2 = T z1 z2 := by
            simp only [upT]
            rw [if_neg (by omega), if_neg hz]
          have w2 : upT (upT T i j a) j i b z2 z1 = T z2 z1 := by
            simp only [upT]
            rw [if_neg (by omega), if_neg (by omega)]
          rw [w1, w2]
          exact op z1 z2 h1 (by omega)
    · rintro e h3 ⟨j, T, x6, e1, hj, rfl, t3, dg, op⟩
      have hji : j = i := by
        by_cases hlt : j < i
        · rw [drop_range hlt] at e1; cases e1
        · omega
      subst hji
      exact ⟨rfl, j + 1, T, _, x6, rfl, hlt, rfl, t3, dg, fun a b h1 h2 => op a b h1 (by omega)⟩
  · rintro e h2 ⟨i, T, x4, x6, e1, hi, rfl, t2, dg, op⟩
    have hin : i = n := by
      by_cases hlt : i < n
      · rw [drop_range hlt] at e1; cases e1
      · omega
    subst hin
    exact done T x4 x6 h2 t2 dg op
end K80

namespace K80
open L2 TV
open PySem (PyData)
theorem evE_bi1 (cal : Nat → List U → OH → R U) (m : Bool) (b : Bi) (a : E) (e : Env') (h : OH) : evE cal (.bi m b [a]) e h = (evE cal a e h).bind fun u h1 => biE m b [u] h1 := by
  simp only [evE, evL]
  cases evE cal a e h <;> rfl
def evenIn (n : Nat) (T : Nat → Nat → Wd) (i : Nat) : Bool := (List.range n).any fun j => decide (T i j = .w_even)
theorem in_row {h : OH} {m n i : Nat} {T : Nat → Nat → Wd} (e : h[m]? = some (.lst (rowU n T i))) : inO h (.str Wd.w_even.s) (.ref m) = some (evenIn n T i) := by
  simp only [inO, e]
  rw [if_pos (by rw [fl_str, rowU, fls_map (fun _ => fl_str _ _)]; rfl)]
  congr 1
  unfold rowU evenIn
  rw [List.any_map]
  congr 1
  funext j
  simp
/-- early: who has nobody even, and draws nought of three -/
theorem early_wp {h h2 : OH} {dk k n d fu : Nat} {prs : List (Wd × Wd)} {T : Nat → Nat → Wd} {x4 x6 : Option U} (x : HI h dk k) (hn : n ≤ 6) (t : TB h h2 dk k n T) :
    wpR (evE (evC (tabP tab) fu (d + 1)) (.lc false (.v 4) (.nm 4) (.r1 (.v 1)) [(.an [(.cmp .notin (.k (.str (Wd.s .w_even))) (.ix (.v 3) (.v 4))), (.cmp .eq (.call 8 [(.v 0), (.k (.int 3))]) (.k (.int 0)))])] [4]) (env8 dk n prs h.length x4 none x6 none) h2)
      fun u h3 => ∃ es : List Nat, u = .fls (es.map iU) ∧ (∀ i ∈ es, i < n ∧ evenIn n T i = false) ∧ es.length ≤ n ∧ TB h h3 dk k n T := by
  rw [lc_r1 (n := n) rfl (by omega), wpR_bind]
  refine lcL_wp (fun us acc h3 => ∃ (i : Nat) (es : List Nat), us = ((List.range n).drop i).map iU ∧ acc = es.map iU ∧ i ≤ n ∧ (∀ i ∈ es, i < n ∧ evenIn n T i = false) ∧ es.length ≤ i ∧ TB h h3 dk k n T) ?_ ?_ _ _ _ ⟨0, [], by simp, rfl, Nat.zero_le _, by simp, Nat.le_refl _, t⟩
  · rintro u us acc h3 ⟨i, es, e1, rfl, hi, hes, hl, t3⟩
    have hlt : i < n := by
      refine Nat.lt_of_le_of_ne hi fun z => ?_
      rw [z, List.drop_of_length_le (by simp)] at e1
      cases e1
    rw [drop_range hlt, List.map_cons] at e1
    cases e1
    have w0 : tgE (.nm 4) (iU i) (wipeU (env8 dk n prs h.length x4 none x6 none) [4]) = some (env8 dk n prs h.length (some (iU i)) none x6 none) := rfl
    have g0 : (env8 dk n prs h.length (some (iU i)) none x6 none)[0]? = some (some (.ref dk)) := rfl
    have g3 : (env8 dk n prs h.length (some (iU i)) none x6 none)[3]? = some (some (tblU h.length n)) := rfl
    have g4 : (env8 dk n prs h.length (some (iU i)) none x6 none)[4]? = some (some (iU i)) := rfl
    have j1 : ∀ hh, ixO hh (tblU h.length n) (iU i) = some (.ref (h.length + i)) := fun hh => tbl_ix _ _ _ hh hlt
    have ir := in_row (t3.row i hlt)
    cases hE : evenIn n T i with
    | true =>
      rw [hE] at ir
      refine wpR_of (a := none) (h := h3) ?_ ⟨rfl, i + 1, es, rfl, rfl, hlt, hes, by omega, t3⟩
      simp [lcStp, w0, evCs, evE, evAn, g3, g4, j1, ir]
    | false =>
      rw [hE] at ir
      obtain ⟨u, h4, ed, v, rfl, hv, y4, f4⟩ := wpR_ex (c_draw (many := 3) t3.hi (by omega) d fu)
      have ed' : evC (tabP tab) fu (d + 1) 8 [.ref dk, .int 3] h3 = .ok (iU v) h4 := ed
      have t4 := t3.fr x y4 f4
      by_cases hv0 : v = 0
      · subst hv0
        refine wpR_of (a := some (iU i)) (h := h4) ?_ ⟨rfl, by rw [List.length_map]; show es.length < 16777216; omega, i + 1, es ++ [i], rfl, by simp, hlt, fun z hz => ?_, by simp; omega, t4⟩
        · simp [lcStp, w0, evCs, evE, evAn, evL, g0, g3, g4, j1, ir, ed']
        · rcases List.mem_append.mp hz with hz | hz
          · exact hes z hz
          · rw [List.mem_singleton] at hz
            subst hz
            exact ⟨hlt, hE⟩
      · refine wpR_of (a := none) (h := h4) ?_ ⟨rfl, i + 1, es, rfl, rfl, hlt, hes, by omega, t4⟩
        simp [lcStp, w0, evCs, evE, evAn, evL, g0, g3, g4, j1, ir, ed', hv0]
  · rintro acc h3 ⟨i, es, e1, rfl, hi, hes, hl, t3⟩
    rw [wpR_ok]
    exact ⟨es, rfl, hes, by omega, t3⟩
/-- the rows as tuples -/
theorem rows_ok {h h2 : OH} {dk k n : Nat} {prs : List (Wd × Wd)} {T : Nat → Nat → Wd} {x4 x5 x6 : Option U} (t : TB h h2 dk k n T) (hn : n ≤ 6) (cal : Nat → List U → OH → R U) :
    evE cal (.lc false (.bi false .tuple [(.v 7)]) (.nm 7) (.sq (.v 3)) [] [7]) (env8 dk n prs h.length x4 x5 x6 none) h2 = .ok (.fls ((List.range n).map fun i => .tup (rowU n T i))) h2 := by
  rw [lc_fls (us := (List.range n).map fun i => U.ref (h.length + i)) rfl]
  rw [lcL_map (fun i => U.ref (h.length + i)) (fun i => some (.tup (rowU n T i))) (List.range n) rfl (fun i hi => ?_) (by simp [LIM]; omega), fm_all]
  · rfl
  · have hlt := List.mem_range.mp hi
    have w0 : tgE (.nm 7) (.ref (h.length + i)) (wipeU (env8 dk n prs h.length x4 x5 x6 none) [7]) = some (env8 dk n prs h.length x4 x5 x6 (some (.ref (h.length + i)))) := rfl
    have g7 : (env8 dk n prs h.length x4 x5 x6 (some (.ref (h.length + i))))[7]? = some (some (.ref (h.length + i))) := rfl
    simp [lcStp, w0, evCs, evE, evL, g7, tup_ref (t.row i hlt)]
def mkP (n : Nat) (T : Nat → Nat → Wd) (os : List (List Nat)) (es : List Nat) : Plan := ⟨(List.range n).map fun i => (List.range n).map (T i), os, es⟩
theorem mkP_U (n : Nat) (T : Nat → Nat → Wd) (os : List (List Nat)) (es : List Nat) : pU (mkP n T os es) = .tup [.tup ((List.range n).map fun i => .tup (rowU n T i)), .tup (os.map fun o => .tup (o.map iU)), .tup (es.map iU)] := by
  simp [pU, mkP, rowU, Function.comp_def]
theorem mkP_row {n : Nat} {T : Nat → Nat → Wd} {os : List (List Nat)} {es : List Nat} {i : Nat} (hi : i < n) : (mkP n T os es).row i = (List.range n).map (T i) := by
  simp [mkP, Plan.row, hi]
theorem mkP_w {n : Nat} {T : Nat → Nat → Wd} {os : List (List Nat)} {es : List Nat} {i j : Nat} (hi : i < n) (hj : j < n) : (mkP n T os es).w i j = T i j := by
  unfold Plan.w
  rw [mkP_row hi]
  simp [hj]
theorem mkP_ok {n : Nat} {T : Nat → Nat → Wd} {os : List (List Nat)} {es : List Nat} (n2 : 2 ≤ n) (n6 : n ≤ 6) (dg : ∀ a, a < n → T a a = .w_x2d) (op : ∀ a b, b < a → a < n → okPair (T a b) (T b a)) (ol : os.length = n)
    (om : ∀ (i : Nat) (o : List Nat), os[i]? = some o → o.Perm (oth n i)) (he : ∀ i ∈ es, i < n ∧ evenIn n T i = false) (el : es.length ≤ n) : Ok (mkP n T os es) n := by
  have op' : ∀ a b, a < n → b < n → a ≠ b → okPair (T a b) (T b a) := fun a b ha hb e => by
    rcases Nat.lt_or_gt_of_ne e with h | h
    · obtain ⟨h1, h2, h3⟩ := op b a h hb
      exact ⟨h2, h1, h3.symm⟩
    · exact op a b h ha
  refine ⟨n2, n6, by simp [mkP], ol, fun i hi => by rw [mkP_row hi]; simp, fun i j hi hj e => ?_, fun i j hi hj e h => ?_, fun i hi => ?_, fun i hi => ?_, fun i hi j hj => ?_, el⟩
  · rw [mkP_w hi hj]; exact (op' i j hi hj e).1
  · rw [mkP_w hi hj] at h
    rw [mkP_w hj hi]
    exact (op' i j hi hj e).2.2.mp h
  · rw [mkP_w hi hi]; exact dg i hi
  · have e1 : os[i]? = some ((mkP n T os es).o i) := by
      unfold Plan.o mkP
      rw [List.getElem?_eq_getElem (by omega)]
      rfl
    have pm := om i _ e1
    refine ⟨pm.symm.nodup (nodup_filter _ List.nodup_range), by rw [pm.length_eq, oth_len' hi], fun j => ?_⟩
    rw [pm.mem_iff]
    simp [oth]
  · obtain ⟨h1, h2⟩ := he i hi
    rw [mkP_w h1 hj]
    intro z
    unfold evenIn at h2
    rw [List.any_eq_false] at h2
    exact h2 j (List.mem_range.mpr hj) (by rw [z]; rfl)
theorem c_safe {h : OH} {dk k n : Nat} (x : HI h dk k) (n2 : 2 ≤ n) (n6 : n ≤ 6) (prs : List (Wd × Wd)) (hp0 : prs ≠ []) (hpl : prs.length ≤ 1000) (hp : ∀ q ∈ prs, okPair q.1 q.2) (d fu : Nat) (hfu : 101 ≤ fu) :
    wpR (evC (tabP tab) fu (d + 4) 12 [.ref dk, iU n, .fls (prs.map prU)] h) fun u h' => ∃ p, Ok p n ∧ u = pU p ∧ HI h' dk k ∧ Fr h h' dk k := by
  rw [evC_run (F := f_law_safe) rfl]
  refine run_wp rfl ?_
  simp only [f_law_safe]
  rw [evSs_cons]
  obtain ⟨u, h1, e1, rfl, t1⟩ := wpR_ex (mk_tbl x n6 (evC (tabP tab) fu (d + 3)) (.ref dk) (.fls (prs.map prU)))
  refine wpS_of (e := env8 dk n prs h.length none none none none) (h := h1) ?_ ?_
  · show evS _ _ (.asg (.nm 3) _) [some (U.ref dk), some (iU n), some (.fls (prs.map prU)), none, none, none, none, none] h = _
    simp only [evS]
    rw [e1]
    rfl
  dsimp only
  rw [evSs_cons]
  refine fill (d := d + 1) x n6 hp0 hpl hp t1 fun T x4 x6 h2 t2 dg op => ?_
  dsimp only
  rw [evSs_cons]
  obtain ⟨u, h3, e3, es, rfl, hes, el, t3⟩ := wpR_ex (early_wp (d := d + 2) (fu := fu) (prs := prs) (x4 := x4) (x6 := x6) x n6 t2)
  refine wpS_of (e := env8 dk n prs h.length x4 (some (.tup (es.map iU))) x6 none) (h := h3) ?_ ?_
  · have e3' := e3
    generalize hlc : (E.lc false (.v 4) (.nm 4) (.r1 (.v 1)) _ [4]) = LC at e3' ⊢
    simp only [evS, evE_bi1]
    rw [e3']
    rfl
  dsimp only
  obtain ⟨u, h4, e4, os, ol, om, rfl, y4, f4⟩ := wpR_ex (c_orders (n := n) t3.hi (by omega) d fu hfu)
  have t4 := t3.fr x y4 f4
  rw [evSs_one]
  refine wpS_ret (u := pU (mkP n T os es)) (h := h4) ?_ ?_
  · have g0 : (env8 dk n prs h.length x4 (some (.tup (es.map iU))) x6 none)[0]? = some (some (.ref dk)) := rfl
    have g1 : (env8 dk n prs h.length x4 (some (.tup (es.map iU))) x6 none)[1]? = some (some (iU n)) := rfl
    have g5 : (env8 dk n prs h.length x4 (some (.tup (es.map iU))) x6 none)[5]? = some (some (.tup (es.map iU))) := rfl
    have r := rows_ok (prs := prs) (x4 := x4) (x5 := some (.tup (es.map iU))) (x6 := x6) t3 n6 (evC (tabP tab) fu (d + 3))
    rw [mkP_U]
    generalize hlc : (E.lc false (.bi false .tuple [(.v 7)]) (.nm 7) (.sq (.v 3)) [] [7]) = LC at *
    simp [evS, evE, evL, r, g0, g1, g5, e4, LIM]
  · have ok := mkP_ok n2 n6 dg op ol om hes el
    refine fin_trim (d := dk) (k := k) (v := pU (mkP n T os es)) (frz_cl _ _ _ _ ?_) x y4 t4.gr fun z1 z2 => ⟨_, ok, rfl, z1, z2⟩
    simp only [pU, U.cl, U.cls, Bool.and_true, Bool.and_eq_true]
    exact ⟨cls_map (fun r => by simp only [U.cl]; exact cls_map (fun _ => rfl) r) _, cls_map (fun r => by simp only [U.cl]; exact cls_ints r) _, cls_ints _⟩
end K80

namespace K80
open L2 TV
open PySem (PyData)
theorem lc_r2 {cal : Nat → List U → OH → R U} {elt a b : E} {tg : Tg} {cs : List E} {own : List Nat} {e : Env'} {h : OH} {m n : Nat} (ha : evE cal a e h = .ok (.int (m : Nat)) h) (hb : evE cal b e h = .ok (.int (n : Nat)) h) (hm : m ≤ 100000) (hn : n ≤ 100000) :
    evE cal (.lc false elt tg (.r2 a b) cs own) e h = (lcL (lcStp cal elt tg cs own e) [] ((List.range (n - m)).map fun i => iU (m + i)) [] h).bind fun us h2 => .ok (.fls us) h2 := by
  simp only [evE, evSr, ha, hb, bind_ok, smallR_nat hn, smallR_nat hm, Bool.and_self, if_true, rg2]
  rfl
theorem evE_mt1 (cal : Nat → List U → OH → R U) (m : Mt) (o a : E) (e : Env') (h : OH) : evE cal (.mth m o [a]) e h = (evE cal o e h).bind fun x h1 => if mtK m x h1 then (evE cal a e h1).bind fun u h2 => mtE m x [u] h2 else .bad := by
  simp only [evE, evL]
  congr 1
  funext x h1
  split
  · cases evE cal a e h1 <;> rfl
  · rfl
/-! ### the beginning -/
def toks (p : Plan) (n i : Nat) : List (Nat × Nat × Nat) := ((List.range (n - (i + 1))).filter fun x => decide (p.w i (i + 1 + x) = .w_even)).map fun x => (i, i + 1 + x, i)
def startN (p : Plan) (n : Nat) : Now := ⟨List.replicate n (.w_rest, 0), ((List.range n).map (toks p n)).flatten⟩
theorem toks_len (p : Plan) (n i : Nat) : (toks p n i).length ≤ n := by
  unfold toks
  rw [List.length_map]
  refine Nat.le_trans (List.length_filter_le _ _) ?_
  rw [List.length_range]; omega
theorem flat_len (p : Plan) (n : Nat) : ∀ m, (((List.range m).map (toks p n)).flatten).length ≤ m * n
  | 0 => by simp
  | m + 1 => by
    rw [List.range_succ, List.map_append, List.flatten_append, List.length_append]
    have h1 := flat_len p n m
    have h2 := toks_len p n m
    simp only [List.map_cons, List.map_nil, List.flatten_cons, List.flatten_nil, List.append_nil]
    rw [Nat.succ_mul]
    omega
theorem start_ns {p : Plan} {n : Nat} (ok : Ok p n) : Ns p n (startN p n) := by
  have at0 : ∀ i, i < n → (startN p n).at_ i = (.w_rest, 0) := fun i hi => by
    simp [startN, Now.at_, List.getElem?_replicate, hi]
  refine ⟨by simp [startN], fun i hi => (by rw [at0 i hi]; rfl), fun i hi u => (by rw [at0 i hi] at u; cases u), fun i hi u => (by rw [at0 i hi] at u; cases u), ?_⟩
  have h1 := flat_len p n n
  have h2 : n * n ≤ 6 * 6 := Nat.mul_le_mul ok.n6 ok.n6
  show (((List.range n).map (toks p n)).flatten).length ≤ 100
  omega
theorem HI.of_eq {h h' : OH} {d k : Nat} (x : HI h d k) (e : h' = h) : HI h' d k := by rw [e]; exact x
theorem c_begun {p : Plan} {n : Nat} (ok : Ok p n) {h : OH} {dk k : Nat} (x : HI h dk k) (d fu : Nat) : evC (tabP tab) fu (d + 1) 14 [pU p] h = .ok (nU (startN p n)) h := by
  have n6 := ok.n6
  have n2 := ok.n2
  have tl := start_ns ok |>.tl
  have key : wpR (evC (tabP tab) fu (d + 1) 14 [pU p] h) fun u h' => u = nU (startN p n) ∧ h' = h := by
    rw [evC_run (F := f_law_begun) rfl]
    refine run_wp rfl ?_
    simp only [f_law_begun]
    rw [evSs_cons]
    have y := x.more [] rfl
    refine wpS_of (e := [some (pU p), some (iU n), some (.ref h.length), none, none]) (h := h ++ [.lst []]) ?_ ?_
    · simp [evS, evL, evE, pU_0, ok.tl, newL, LIM, setAll]
    dsimp only
    rw [evSs_cons, for_r1 (n := n) rfl (by omega)]
    have grow : ∀ l : List (Nat × Nat × Nat), HI (h ++ [.lst (l.map tkU)]) dk k := fun l => x.more _ (cls_tk l)
    refine forL_wp (fun us e h' => ∃ i x3, us = ((List.range n).drop i).map iU ∧ i ≤ n ∧ e = [some (pU p), some (iU n), some (.ref h.length), x3, none] ∧ h' = h ++ [.lst ((((List.range i).map (toks p n)).flatten).map tkU)]) ?_ ?_ _ _ _ ⟨0, none, by simp, Nat.zero_le _, rfl, by simp⟩
    · rintro u us e h' ⟨i, x3, e1, hi, rfl, rfl⟩
      have hlt : i < n := by
        refine Nat.lt_of_le_of_ne hi fun z => ?_
        rw [z, List.drop_of_length_le (by simp)] at e1
        cases e1
      rw [drop_range hlt, List.map_cons] at e1
      cases e1
      refine ⟨[some (pU p), some (iU n), some (.ref h.length), some (iU i), none], rfl, ?_⟩
      have e2 : ((List.range (i + 1)).map (toks p n)).flatten = ((List.range i).map (toks p n)).flatten ++ toks p n i := by
        rw [List.range_succ, List.map_append, List.flatten_append]
        simp
      have hl1 := flat_len p n i
      have hl2 := toks_len p n i
      have hl3 : i * n ≤ 6 * 6 := Nat.mul_le_mul (by omega) n6
      have hat : (h ++ [OO.lst ((((List.range i).map (toks p n)).flatten).map tkU)])[h.length]? = some (.lst ((((List.range i).map (toks p n)).flatten).map tkU)) := by simp
      refine wpS_of (e := [some (pU p), some (iU n), some (.ref h.length), some (iU i), none]) (h := h ++ [.lst ((((List.range (i + 1)).map (toks p n)).flatten).map tkU)]) ?_ ⟨rfl, i + 1, _, rfl, hlt, rfl, rfl⟩
      rw [evSs_one]
      simp only [evS, evE_mt1]
      rw [show ∀ hh, evE (evC (tabP tab) fu d) (.v 2) [some (pU p), some (iU n), some (U.ref h.length), some (iU i), none] hh = .ok (.ref h.length) hh from fun _ => rfl, bind_ok, if_pos (ls_k hat _ (by decide))]
      rw [lc_r2 (m := i + 1) (n := n) rfl rfl (by omega) (by omega)]
      rw [lcL_map (fun x => iU (i + 1 + x)) (fun x => if decide (p.w i (i + 1 + x) = .w_even) = true then some (tkU (i, i + 1 + x, i)) else none) (List.range (n - (i + 1))) rfl (fun j hj => ?_) (by simp [LIM]; omega), fm_if]
      · have e3 : (((List.range (n - (i + 1))).filter fun x => decide (p.w i (i + 1 + x) = .w_even)).map fun x => tkU (i, i + 1 + x, i)) = (toks p n i).map tkU := by
          simp [toks, Function.comp_def]
        have h3 := ext_ref (vs := (toks p n i).map tkU) hat (by rw [List.length_map, List.length_map]; omega)
        rw [e2, List.map_append, e3, bind_ok, bind_ok, h3, bindS_ok]
        simp
      · have hj' : i + 1 + j < n := by have := List.mem_range.mp hj; omega
        have w0 : tgE (.nm 4) (iU (i + 1 + j)) (wipeU [some (pU p), some (iU n), some (.ref h.length), some (iU i), none] [4]) = some [some (pU p), some (iU n), some (.ref h.length), some (iU i), some (iU (i + 1 + j))] := rfl
        have q1 := ok.wU hlt hj'
        have ix : ∀ (hh : OH) (us : List U), ixO hh (.tup us) (iU (i + 1 + j)) = us[i + 1 + j]? := fun hh us => ix_tup hh us _
        generalize i + 1 + j = m at *
        by_cases hv : p.w i m = .w_even <;> simp [lcStp, w0, evCs, evE, evL, pU_0, ok.rowU hlt, q1, hv, LIM, tkU]
    · rintro e h' ⟨i, x3, e1, hi, rfl, rfl⟩
      have hin : i = n := by
        by_cases hlt : i < n
        · rw [drop_range hlt] at e1; cases e1
        · omega
      subst hin
      dsimp only
      rw [evSs_one]
      have hat : (h ++ [OO.lst ((((List.range i).map (toks p i)).flatten).map tkU)])[h.length]? = some (.lst ((((List.range i).map (toks p i)).flatten).map tkU)) := by simp
      refine wpS_ret (u := nU (startN p i)) (h := h ++ [.lst ((((List.range i).map (toks p i)).flatten).map tkU)]) ?_ ?_
      · have e4 : (List.replicate i [U.tup [wU .w_rest, .int 0]]).flatten = (List.replicate i (Wd.w_rest, 0)).map plU := by
          rw [List.map_replicate]
          simp [List.flatten_replicate_singleton, plU]
        have e5 : opE false .mul (.tup [.tup [wU .w_rest, .int 0]]) (iU i) (h ++ [.lst ((((List.range i).map (toks p i)).flatten).map tkU)]) = .ok (.tup ((List.replicate i (Wd.w_rest, 0)).map plU)) (h ++ [.lst ((((List.range i).map (toks p i)).flatten).map tkU)]) := by
          rw [← e4]
          show (if [U.tup [wU .w_rest, .int 0]] ≠ [] ∧ 2 ≤ (i : Int) ∧ (i : Int) ≤ 1000 ∧ [U.tup [wU .w_rest, .int 0]].length ≤ 1000 then R.ok (U.tup (List.replicate (i : Int).toNat [U.tup [wU .w_rest, .int 0]]).flatten) _ else .bad) = _
          rw [if_pos ⟨by simp, by omega, by omega, by simp⟩]
          rfl
        have e6 := tup_ref hat false
        generalize h ++ [OO.lst ((((List.range i).map (toks p i)).flatten).map tkU)] = h' at *
        simp [evS, evE, evL, e5, e6, LIM, nU, startN]
      · have e7 : (h ++ [OO.lst ((((List.range i).map (toks p i)).flatten).map tkU)]).take h.length = h := by simp
        refine fin_trim (d := dk) (k := k) (v := nU (startN p i)) (frz_cl _ _ _ _ (by simp [nU, U.cl, U.cls, cls_pl, cls_tk])) x (grow _) ⟨by simp, fun z hz _ _ => by rw [List.getElem?_append_left hz]⟩ fun z1 z2 => ⟨rfl, e7⟩
  obtain ⟨u, h', e, rfl, rfl⟩ := wpR_ex key
  exact e
end K80

namespace K80
open L2 TV
open PySem (PyData)
/-- a run, its words, and the standing behind it -/
def goS (p : Plan) (n : Nat) : Now → List Nat → Option (List Wd × Now)
  | s, [] => some ([], s)
  | s, k :: r => match moved p n s k with
    | none => none
    | some m => (goS p n m.2 r).map fun (q : List Wd × Now) => (m.1 :: q.1, q.2)
theorem goS_snoc {p : Plan} {n : Nat} {k : Nat} {w : Wd} {s2 : Now} : ∀ {r : List Nat} {s s1 : Now} {ws : List Wd}, goS p n s r = some (ws, s1) → moved p n s1 k = some (w, s2) → goS p n s (r ++ [k]) = some (ws ++ [w], s2)
  | [], s, s1, ws, e, m => by
    cases e
    show (match moved p n s k with | none => none | some m => (goS p n m.2 []).map fun (q : List Wd × Now) => (m.1 :: q.1, q.2)) = _
    rw [m]
    rfl
  | a :: r, s, s1, ws, e, m => by
    show (match moved p n s a with | none => none | some m => (goS p n m.2 (r ++ [k])).map fun (q : List Wd × Now) => (m.1 :: q.1, q.2)) = _
    have e' : (match moved p n s a with | none => none | some m => (goS p n m.2 r).map fun (q : List Wd × Now) => (m.1 :: q.1, q.2)) = some (ws, s1) := e
    cases hm : moved p n s a with
    | none => rw [hm] at e'; cases e'
    | some q =>
      rw [hm] at e'
      dsimp only at e' ⊢
      cases hg : goS p n q.2 r with
      | none => rw [hg] at e'; cases e'
      | some z =>
        obtain ⟨z1, z2⟩ := z
        rw [hg] at e'
        cases e'
        rw [goS_snoc hg m]
        rfl
theorem moved_ns {p : Plan} {n : Nat} (ok : Ok p n) {s s' : Now} (ns : Ns p n s) {k : Nat} (hk : k < n) {w : Wd} (e : moved p n s k = some (w, s')) : Ns p n s' ∧ ∃ a, Step p n s k w a ∧ s' = after p s k (w, a) := by
  unfold moved at e
  cases hn : nextP p n s k with
  | none => rw [hn] at e; cases e
  | some m =>
    obtain ⟨w', a⟩ := m
    rw [hn] at e
    cases e
    have t := step_of ok ns hk hn
    exact ⟨ns_after ok ns hk t, a, t, rfl⟩
theorem enU_ix (l : List Nat) (i : Nat) (hi : i < l.length) : (enU (l.map iU)).drop i = .tup [iU i, iU l[i]] :: (enU (l.map iU)).drop (i + 1) := by
  have hl : i < (enU (l.map iU)).length := by simp [enU]; exact hi
  rw [List.drop_eq_getElem_cons hl]
  congr 1
  simp [enU]
theorem last_append (us : List U) (u : U) : (us ++ [u])[(us ++ [u]).length - 1]? = some u := by simp
theorem ix_last {h : OH} {a : Nat} {us : List U} {u : U} (e : h[a]? = some (.lst (us ++ [u]))) : ixO h (.ref a) (.int (-1)) = some u := by
  have : ixO h (.ref a) (.int (-1)) = atU (us ++ [u]) (.int (-1)) := by simp only [ixO, e]
  rw [this]
  exact (TV.atI_last _).trans (last_append us u)
theorem cl_nU (s : Now) : U.cl (nU s) = true := by simp [nU, U.cl, U.cls, cls_pl, cls_tk]
theorem cls_append (a b : List U) : U.cls (a ++ b) = (U.cls a && U.cls b) := by
  induction a with
  | nil => simp [U.cls]
  | cons x a ih => simp [U.cls, ih, Bool.and_assoc]
theorem cls_w (l : List Wd) : U.cls (l.map wU) = true := cls_map (fun _ => rfl) l
theorem cls_seen {seen : List U} {c : Now} (cs : U.cls seen = true) : U.cls (seen ++ [nU c]) = true := by rw [cls_append, cs]; simp [U.cls, cl_nU]
theorem c_walk {p : Plan} {n : Nat} (ok : Ok p n) {s s' : Now} (ns : Ns p n s) {h : OH} {dk k : Nat} (x : HI h dk k) {run : List Nat} {said : List Wd} (g : goS p n s run = some (said, s')) (hr : ∀ i ∈ run, i < n) (hl : run.length ≤ 10000) (d fu : Nat) :
    wpR (evC (tabP tab) fu (d + 5) 19 [pU p, nU s, .tup (run.map iU)] h) fun u h' => ∃ seen, u = .tup [.fls seen, .fls (said.map wU), .non] ∧ h' = h := by
  rw [evC_run (F := f_law_walk) rfl]
  refine run_wp rfl ?_
  simp only [f_law_walk]
  rw [evSs_cons]
  have hd := x.dlt
  have hk := x.klt
  have E1 : ∀ (us vs : List U), (h ++ [OO.lst us] ++ [.lst vs])[h.length]? = some (.lst us) := fun us vs => by simp
  have E2 : ∀ (us vs : List U), (h ++ [OO.lst us] ++ [.lst vs])[h.length + 1]? = some (.lst vs) := fun us vs => by
    rw [List.getElem?_append_right (by simp)]; simp
  have S1 : ∀ (us us' vs : List U), (h ++ [OO.lst us] ++ [OO.lst vs]).set h.length (OO.lst us') = h ++ [OO.lst us'] ++ [.lst vs] := fun us us' vs => by simp
  have S2 : ∀ (us vs vs' : List U), (h ++ [OO.lst us] ++ [OO.lst vs]).set (h.length + 1) (OO.lst vs') = h ++ [OO.lst us] ++ [.lst vs'] := fun us vs vs' => by
    rw [List.set_append_right _ _ (by simp)]; simp
  refine wpS_of (e := [some (pU p), some (nU s), some (.tup (run.map iU)), some (.ref h.length), some (.ref (h.length + 1)), none, none, none]) (h := h ++ [.lst ([] ++ [nU s])] ++ [.lst (([] : List Wd).map wU)]) ?_ ?_
  · simp [evS, evL, evE, newL, LIM, setAll]
  dsimp only
  rw [evSs_cons, for_en (us := run.map iU) rfl]
  refine forL_wp (fun us e h' => ∃ (i : Nat) (seen : List U) (c : Now) (a b : List Wd) (x5 x6 x7 : Option U), us = (enU (run.map iU)).drop i ∧ i ≤ run.length ∧ e = [some (pU p), some (nU s), some (.tup (run.map iU)), some (.ref h.length), some (.ref (h.length + 1)), x5, x6, x7] ∧
      h' = h ++ [.lst (seen ++ [nU c])] ++ [.lst (a.map wU)] ∧ goS p n c (run.drop i) = some (b, s') ∧ said = a ++ b ∧ Ns p n c ∧ U.cls seen = true ∧ seen.length = i ∧ a.length = i) ?_ ?_ _ _ _ ⟨0, [], s, [], said, none, none, none, rfl, Nat.zero_le _, rfl, rfl, g, rfl, ns, rfl, rfl, rfl⟩
  · rintro u us e h' ⟨i, seen, c, a, b, x5, x6, x7, e1, hi, rfl, rfl, hg, rfl, nc, cs, ls, la⟩
    have hlt : i < run.length := by
      refine Nat.lt_of_le_of_ne hi fun z => ?_
      rw [z, List.drop_of_length_le (by simp [enU])] at e1
      cases e1
    rw [enU_ix run i hlt] at e1
    cases e1
    have hki : run[i] < n := hr _ (List.getElem_mem hlt)
    rw [List.drop_eq_getElem_cons hlt] at hg
    generalize run[i] = ki at *
    refine ⟨[some (pU p), some (nU s), some (.tup (run.map iU)), some (.ref h.length), some (.ref (h.length + 1)), some (iU i), some (iU ki), x7], rfl, ?_⟩
    have hg' : (match moved p n c ki with | none => none | some m => (goS p n m.2 (run.drop (i + 1))).map fun (q : List Wd × Now) => (m.1 :: q.1, q.2)) = some (b, s') := hg
    cases hm : moved p n c ki with
    | none => rw [hm] at hg'; cases hg'
    | some m =>
      obtain ⟨w, c'⟩ := m
      rw [hm] at hg'
      dsimp only at hg'
      cases hz : goS p n c' (run.drop (i + 1)) with
      | none => rw [hz] at hg'; cases hg'
      | some z =>
        obtain ⟨b', s''⟩ := z
        rw [hz] at hg'
        cases hg'
        have cm := fun hh => c_moved ok nc hki hh d fu
        rw [hm] at cm
        have a1 := app_ref (u := wU w) (E2 (seen ++ [nU c]) (a.map wU)) (by rw [List.length_map]; omega)
        rw [S2] at a1
        have ew : a.map wU ++ [wU w] = (a ++ [w]).map wU := by simp
        rw [ew] at a1
        have a2 := app_ref (u := nU c') (E1 (seen ++ [nU c]) ((a ++ [w]).map wU)) (by rw [List.length_append, List.length_singleton]; omega)
        rw [S1] at a2
        have k1 := ls_k (E2 (seen ++ [nU c]) (a.map wU)) .append (by decide)
        have k2 := ls_k (E1 (seen ++ [nU c]) ((a ++ [w]).map wU)) .append (by decide)
        have l1 := ix_last (E1 seen [] |> fun _ => E1 (seen ++ [nU c]) (a.map wU))
        refine wpS_of (e := [some (pU p), some (nU s), some (.tup (run.map iU)), some (.ref h.length), some (.ref (h.length + 1)), some (iU i), some (iU ki), some (.tup [wU w, nU c'])]) (h := h ++ [.lst ((seen ++ [nU c]) ++ [nU c'])] ++ [.lst ((a ++ [w]).map wU)]) ?_ ⟨rfl, i + 1, seen ++ [nU c], c', a ++ [w], b', _, _, _, rfl, hlt, rfl, rfl, hz, by simp, (moved_ns ok nc hki hm).1, cls_seen cs, by simp [ls], by simp [la]⟩
        generalize h ++ [OO.lst (seen ++ [nU c])] ++ [.lst (a.map wU)] = H0 at *
        generalize h ++ [OO.lst (seen ++ [nU c])] ++ [.lst ((a ++ [w]).map wU)] = H1 at *
        generalize h ++ [OO.lst (seen ++ [nU c] ++ [nU c'])] ++ [.lst ((a ++ [w]).map wU)] = H2 at *
        simp [evSs, evS, evE, evL, l1, cm, rsU, ttE, k1, k2, a1, a2]
  · rintro e h' ⟨i, seen, c, a, b, x5, x6, x7, e1, hi, rfl, rfl, hg, rfl, nc, cs, ls, la⟩
    have hin : i = run.length := by
      by_cases hlt : i < run.length
      · rw [enU_ix run i hlt] at e1; cases e1
      · omega
    rw [hin, List.drop_length] at hg
    cases hg
    dsimp only
    rw [evSs_one]
    have y := (x.more (seen ++ [nU s']) (cls_seen cs)).more (a.map wU) (cls_w a)
    refine wpS_ret (u := .tup [.ref h.length, .ref (h.length + 1), .non]) (h := h ++ [.lst (seen ++ [nU s'])] ++ [.lst (a.map wU)]) (by simp [evS, evE, evL, LIM]) ?_
    have f1 := frz_lst (n := h.length) (E1 (seen ++ [nU s']) (a.map wU)) (Nat.le_refl _) (cls_seen cs)
    have f2 := frz_lst (n := h.length) (E2 (seen ++ [nU s']) (a.map wU)) (by omega) (cls_w a)
    refine fin_trim (d := dk) (k := k) (v := .tup [.fls (seen ++ [nU s']), .fls (a.map wU), .non]) ?_ x y ⟨by simp, fun z hz _ _ => by rw [List.append_assoc, List.getElem?_append_left hz]⟩ fun z1 z2 => ⟨seen ++ [nU s'], by simp, by simp⟩
    have e3 : ∀ (H : OH) (m : Nat) (us : List U), frz H m 2 (.tup us) = (U.rsL (fun z => frz H m 2 (.ref z)) us).map .tup := fun _ _ _ => rfl
    rw [e3]
    simp only [U.rsL, U.rs, f1, f2]
    rfl
end K80

namespace K80
open L2 TV
open PySem (PyData)
/-- the law's count -/
def cnts (h : Nat) : List Nat → List Wd → Nat → List Nat
  | k :: r, w :: ws, c => (if k = h ∧ w = .w_enter then [if k = h ∧ w = .w_raise then 0 else c] else []) ++ cnts h r ws (cnt h c k w)
  | _, _, _ => []
theorem cnts_cons (h k : Nat) (r : List Nat) (w : Wd) (ws : List Wd) (c : Nat) : cnts h (k :: r) (w :: ws) c = (if k = h ∧ w = .w_enter then [if k = h ∧ w = .w_raise then 0 else c] else []) ++ cnts h r ws (cnt h c k w) := rfl
theorem goS_len {p : Plan} {n : Nat} : ∀ {r : List Nat} {s s' : Now} {ws : List Wd}, goS p n s r = some (ws, s') → ws.length = r.length
  | [], s, s', ws, e => by cases e; rfl
  | k :: r, s, s', ws, e => by
    have e' : (match moved p n s k with | none => none | some m => (goS p n m.2 r).map fun (q : List Wd × Now) => (m.1 :: q.1, q.2)) = some (ws, s') := e
    cases hm : moved p n s k with
    | none => rw [hm] at e'; cases e'
    | some m =>
      rw [hm] at e'
      dsimp only at e'
      cases hg : goS p n m.2 r with
      | none => rw [hg] at e'; cases e'
      | some z =>
        obtain ⟨z1, z2⟩ := z
        rw [hg] at e'
        cases e'
        rw [List.length_cons, List.length_cons, goS_len hg]
/-- PASSED -/
theorem passed {p : Plan} {n : Nat} (ok : Ok p n) {h : Nat} (hh : h < n) : ∀ {r : List Nat} {s s' : Now} {ws : List Wd} {c : Nat}, Ns p n s → Inv p n s h c → (∀ i ∈ r, i < n) → goS p n s r = some (ws, s') → ∀ x ∈ cnts h r ws c, x ≤ mp p n h
  | [], s, s', ws, c, ns, iv, hr, e, x, hx => by cases e; cases hx
  | k :: r, s, s', ws, c, ns, iv, hr, e, x, hx => by
    have e' : (match moved p n s k with | none => none | some m => (goS p n m.2 r).map fun (q : List Wd × Now) => (m.1 :: q.1, q.2)) = some (ws, s') := e
    cases hm : moved p n s k with
    | none => rw [hm] at e'; cases e'
    | some m =>
      obtain ⟨w, s1⟩ := m
      rw [hm] at e'
      dsimp only at e'
      cases hg : goS p n s1 r with
      | none => rw [hg] at e'; cases e'
      | some z =>
        obtain ⟨z1, z2⟩ := z
        rw [hg] at e'
        cases e'
        have hk := hr k List.mem_cons_self
        obtain ⟨ns1, a, t, rfl⟩ := moved_ns ok ns hk hm
        obtain ⟨iv1, fin⟩ := inv_step ok ns hh iv hk t
        unfold cnts at hx
        rcases List.mem_append.mp hx with hx | hx
        · split at hx
          · rename_i hc
            rw [List.mem_singleton] at hx
            rw [hx]
            split
            · exact Nat.zero_le _
            · exact fin hc.1 hc.2
          · cases hx
        · exact passed ok hh ns1 iv1 (fun i hi => hr i (List.mem_cons_of_mem _ hi)) hg x hx
theorem c_counts {p : Plan} {h : OH} {dk k : Nat} (x : HI h dk k) {run : List Nat} {said : List Wd} (hl : said.length = run.length) (hr : run.length ≤ 10000) (hd : Nat) (d fu : Nat) :
    evC (tabP tab) fu (d + 1) 20 [pU p, .tup (run.map iU), .fls (said.map wU), iU hd] h = .ok (.tup ((cnts hd run said 0).map iU)) h := by
  have key : wpR (evC (tabP tab) fu (d + 1) 20 [pU p, .tup (run.map iU), .fls (said.map wU), iU hd] h) fun u h' => u = .tup ((cnts hd run said 0).map iU) ∧ h' = h := by
    rw [evC_run (F := f_law_counts) rfl]
    refine run_wp rfl ?_
    simp only [f_law_counts]
    rw [evSs_cons]
    have E1 : ∀ (us : List U), (h ++ [OO.lst us])[h.length]? = some (.lst us) := fun us => by simp
    have S1 : ∀ (us us' : List U), (h ++ [OO.lst us]).set h.length (OO.lst us') = h ++ [OO.lst us'] := fun us us' => by simp
    refine wpS_of (e := [some (pU p), some (.tup (run.map iU)), some (.fls (said.map wU)), some (iU hd), some (.ref h.length), some (iU 0), none, none]) (h := h ++ [.lst (([] : List Nat).map iU)]) ?_ ?_
    · simp [evS, evL, evE, newL, LIM, setAll]
    dsimp only
    rw [evSs_cons, for_en (us := run.map iU) rfl]
    refine forL_wp (fun us e h' => ∃ (i c : Nat) (f : List Nat) (x6 x7 : Option U), us = (enU (run.map iU)).drop i ∧ i ≤ run.length ∧ e = [some (pU p), some (.tup (run.map iU)), some (.fls (said.map wU)), some (iU hd), some (.ref h.length), some (iU c), x6, x7] ∧
      h' = h ++ [.lst (f.map iU)] ∧ cnts hd run said 0 = f ++ cnts hd (run.drop i) (said.drop i) c ∧ f.length ≤ i) ?_ ?_ _ _ _ ⟨0, 0, [], none, none, rfl, Nat.zero_le _, rfl, rfl, rfl, Nat.le_refl _⟩
    · rintro u us e h' ⟨i, c, f, x6, x7, e1, hi, rfl, rfl, hc, hf⟩
      have hlt : i < run.length := by
        refine Nat.lt_of_le_of_ne hi fun z => ?_
        rw [z, List.drop_of_length_le (by simp [enU])] at e1
        cases e1
      rw [enU_ix run i hlt] at e1
      cases e1
      have hls : i < said.length := by omega
      rw [List.drop_eq_getElem_cons hlt, List.drop_eq_getElem_cons hls] at hc
      have sx : ∀ hh, ixO hh (.fls (said.map wU)) (iU i) = some (wU said[i]) := fun hh => by
        rw [ix_fls, List.getElem?_map, List.getElem?_eq_getElem hls]; rfl
      generalize said[i] = w at *
      generalize run[i] = ki at *
      refine ⟨[some (pU p), some (.tup (run.map iU)), some (.fls (said.map wU)), some (iU hd), some (.ref h.length), some (iU c), some (iU i), some (iU ki)], rfl, ?_⟩
      rw [cnts_cons] at hc
      have a1 := fun z => app_ref (u := iU z) (E1 (f.map iU)) (by rw [List.length_map]; omega)
      have a1' : ∀ z : Nat, mtE .append (.ref h.length) [iU z] (h ++ [OO.lst (f.map iU)]) = .ok .non (h ++ [.lst ((f ++ [z]).map iU)]) := fun z => by
        rw [a1, S1]; simp
      have k1 := ls_k (E1 (f.map iU)) .append (by decide)
      have hz : ∀ z : Nat, ((z : Int) + 1) = ((z + 1 : Nat) : Int) := fun z => rfl
      by_cases q1 : ki = hd
      · by_cases q2 : w = .w_raise
        · refine wpS_of (e := [some (pU p), some (.tup (run.map iU)), some (.fls (said.map wU)), some (iU hd), some (.ref h.length), some (iU 0), some (iU i), some (iU ki)]) (h := h ++ [.lst ((f).map iU)]) ?_ ⟨rfl, i + 1, 0, f, _, _, rfl, hlt, rfl, rfl, by rw [hc]; simp [cnt, q1, q2], by first | omega | (simp; omega)⟩
          simp [evSs, evS, evE, evL, evAn, sx, ttE, q1, q2]
        · by_cases q3 : w = .w_enter
          · refine wpS_of (e := [some (pU p), some (.tup (run.map iU)), some (.fls (said.map wU)), some (iU hd), some (.ref h.length), some (iU c), some (iU i), some (iU ki)]) (h := h ++ [.lst ((f ++ [c]).map iU)]) ?_ ⟨rfl, i + 1, c, f ++ [c], _, _, rfl, hlt, rfl, rfl, by rw [hc]; simp [cnt, q1, q3], by first | omega | (simp; omega)⟩
            have a2 := a1' c
            simp only [List.map_append, List.map_cons, List.map_nil] at a2
            generalize hH : h ++ [OO.lst (f.map iU)] = H0 at *
            simp [evSs, evS, evE, evL, evAn, sx, ttE, q1, q3, k1, a2]
          · refine wpS_of (e := [some (pU p), some (.tup (run.map iU)), some (.fls (said.map wU)), some (iU hd), some (.ref h.length), some (iU c), some (iU i), some (iU ki)]) (h := h ++ [.lst ((f).map iU)]) ?_ ⟨rfl, i + 1, c, f, _, _, rfl, hlt, rfl, rfl, by rw [hc]; simp [cnt, q1, q2, q3], by first | omega | (simp; omega)⟩
            simp [evSs, evS, evE, evL, evAn, sx, ttE, q1, q2, q3]
      · have q1' : ¬ (ki : Int) = (hd : Int) := by omega
        by_cases q3 : w = .w_enter
        · refine wpS_of (e := [some (pU p), some (.tup (run.map iU)), some (.fls (said.map wU)), some (iU hd), some (.ref h.length), some (iU (c + 1)), some (iU i), some (iU ki)]) (h := h ++ [.lst ((f).map iU)]) ?_ ⟨rfl, i + 1, (c + 1), f, _, _, rfl, hlt, rfl, rfl, by rw [hc]; simp [cnt, q1, q3], by first | omega | (simp; omega)⟩
          simp [evSs, evS, evE, evL, evAn, sx, ttE, q1', q3]
        · refine wpS_of (e := [some (pU p), some (.tup (run.map iU)), some (.fls (said.map wU)), some (iU hd), some (.ref h.length), some (iU c), some (iU i), some (iU ki)]) (h := h ++ [.lst ((f).map iU)]) ?_ ⟨rfl, i + 1, c, f, _, _, rfl, hlt, rfl, rfl, by rw [hc]; simp [cnt, q1, q3], by first | omega | (simp; omega)⟩
          simp [evSs, evS, evE, evL, evAn, sx, ttE, q1', q3]
    · rintro e h' ⟨i, c, f, x6, x7, e1, hi, rfl, rfl, hc, hf⟩
      have hin : i = run.length := by
        by_cases hlt : i < run.length
        · rw [enU_ix run i hlt] at e1; cases e1
        · omega
      rw [hin, List.drop_length] at hc
      have hc' : cnts hd run said 0 = f := by rw [hc]; simp [cnts]
      dsimp only
      rw [evSs_one]
      refine wpS_ret (u := .tup (f.map iU)) (h := h ++ [.lst (f.map iU)]) (by simp [evS, evE, evL, tup_ref (E1 (f.map iU))]) ?_
      rw [hc']
      refine fin_trim (d := dk) (k := k) (v := .tup (f.map iU)) (frz_cl _ _ _ _ (by simp only [U.cl]; exact cls_ints f)) x (x.more _ (cls_ints f)) ⟨by simp, fun z hz _ _ => by rw [List.getElem?_append_left hz]⟩ fun z1 z2 => ⟨rfl, by simp⟩
  obtain ⟨u, h', e, rfl, rfl⟩ := wpR_ex key
  exact e
end K80

namespace K80
open L2 TV
open PySem (PyData)
theorem for_r1' {cal : Nat → List U → OH → R U} {fu : Nat} {t : Tg} {a : E} {body : List S} {e : Env'} {h h' : OH} {n : Nat} (ha : evE cal a e h = .ok (.int (n : Nat)) h') (hn : n ≤ 100000) :
    evS cal fu (.for_ t (.r1 a) body) e h = forL t (fun e h => evSs cal fu body e h) [] ((List.range n).map fun i => U.int (i : Nat)) e h' := by
  simp only [evS, evSr, ha, bind_ok, smallR_nat hn, if_true, bindS_ok, rg0]
  rfl
structure LG (p : Plan) (n : Nat) (h h' : OH) (dk k : Nat) (run : List Nat) (c : Now) : Prop where
  hi : HI h' dk k
  gr : Gr h h' dk k
  at_ : h'[h.length]? = some (.lst (run.map iU))
  go : ∃ said, goS p n (startN p n) run = some (said, c)
  ns : Ns p n c
  lt : ∀ i ∈ run, i < n
theorem LG.fr {p : Plan} {n : Nat} {h h' h2 : OH} {dk k : Nat} {run : List Nat} {c : Now} (x : HI h dk k) (g : LG p n h h' dk k run c) (y : HI h2 dk k) (f : Fr h' h2 dk k) : LG p n h h2 dk k run c := by
  have hd := x.dlt
  have hk := x.klt
  exact ⟨y, ⟨by rw [f.len]; exact g.gr.len, fun i hi q1 q2 => by rw [f.eq i q1 q2]; exact g.gr.eq i hi q1 q2⟩, by rw [f.eq _ (by omega) (by omega)]; exact g.at_, g.go, g.ns, g.lt⟩
def wds : List Wd := [.w_raise, .w_enter, .w_leave, .w_see, .w_, .w_]
def env10 (p : Plan) (dk most a : Nat) (c : Now) (x5 x6 x7 x8 x9 : Option U) : Env' := [some (.ref dk), some (pU p), some (iU most), some (.ref a), some (nU c), x5, x6, x7, x8, x9]
theorem inner {p : Plan} {n : Nat} (ok : Ok p n) {h h1 : OH} {dk k most i m d fu : Nat} {hd : Nat} {wd : Wd} (x : HI h dk k) (hh : hd < n) {run : List Nat} {c : Now} (g : LG p n h h1 dk k run c) (hl : run.length ≤ 9 * i) (hi : i < 200) (hm : m ≤ 9) {x5 x8 x9 : Option U} {D : WS}
    (done : ∀ run c x8 x9 h2, LG p n h h2 dk k run c → run.length ≤ 9 * (i + 1) → D.nx (env10 p dk most h.length c x5 (some (iU hd)) (some (wU wd)) x8 x9) h2) :
    wpS (forL (.nm 8) (fun e h => evSs (evC (tabP tab) fu (d + 4)) fu [.asg (.nm 9) (.call 18 [(.v 1), (.v 4), (.v 6)]), .ife (.isn true (.v 9)) [.brk] [], .ex (.mth .append (.v 3) [(.v 6)]), .asg (.nm 4) (.ix (.v 9) (.k (.int 1))), .ife (.cmp .eq (.ix (.v 9) (.k (.int 0))) (.v 7)) [.brk] []] e h) [] ((List.range m).map fun i => U.int (i : Nat)) (env10 p dk most h.length c x5 (some (iU hd)) (some (wU wd)) x8 x9) h1) D := by
  refine forL_wp (fun us e h' => ∃ j run c x8 x9, us = ((List.range m).drop j).map iU ∧ j ≤ m ∧ e = env10 p dk most h.length c x5 (some (iU hd)) (some (wU wd)) x8 x9 ∧ LG p n h h' dk k run c ∧ run.length ≤ 9 * i + j) ?_ ?_ _ _ _ ⟨0, run, c, x8, x9, by simp, Nat.zero_le _, rfl, g, by omega⟩
  · rintro u us e h' ⟨j, run, c, x8, x9, e1, hj, rfl, g, hl⟩
    have hlt : j < m := by
      refine Nat.lt_of_le_of_ne hj fun z => ?_
      rw [z, List.drop_of_length_le (by simp)] at e1
      cases e1
    rw [drop_range hlt, List.map_cons] at e1
    cases e1
    refine ⟨env10 p dk most h.length c x5 (some (iU hd)) (some (wU wd)) (some (iU j)) x9, rfl, ?_⟩
    have hdk := x.dlt
    have hkk := x.klt
    have cm := fun hh' => c_moved ok g.ns hh hh' d fu
    unfold env10
    cases hmv : moved p n c hd with
    | none =>
      rw [hmv] at cm
      refine wpS_brk (e := env10 p dk most h.length c x5 (some (iU hd)) (some (wU wd)) (some (iU j)) (some .non)) (h := h') ?_ (done run c _ _ h' g (by omega))
      simp [evSs, evS, evE, evL, cm, rsU, ttE, env10]
    | some q =>
      obtain ⟨w, c'⟩ := q
      rw [hmv] at cm
      have a1 := app_ref (u := iU hd) g.at_ (by rw [List.length_map]; omega)
      have k1 := ls_k g.at_ .append (by decide)
      have e2 : run.map iU ++ [iU hd] = (run ++ [hd]).map iU := by simp
      rw [e2] at a1
      have hlt' := lst_lt g.at_
      have g2 : LG p n h (h'.set h.length (.lst ((run ++ [hd]).map iU))) dk k (run ++ [hd]) c' := by
        obtain ⟨said, hs⟩ := g.go
        refine ⟨g.hi.put (by omega) (by omega) _ (cls_ints _), ⟨by rw [List.length_set]; exact g.gr.len, fun z hz q1 q2 => by rw [List.getElem?_set_ne (by omega)]; exact g.gr.eq z hz q1 q2⟩, by rw [List.getElem?_set_self hlt'], ⟨_, goS_snoc hs hmv⟩, (moved_ns ok g.ns hh hmv).1, fun z hz => ?_⟩
        rcases List.mem_append.mp hz with hz | hz
        · exact g.lt z hz
        · rw [List.mem_singleton] at hz; omega
      generalize h'.set h.length (.lst ((run ++ [hd]).map iU)) = h2 at *
      by_cases hw : w = wd
      · refine wpS_brk (e := env10 p dk most h.length c' x5 (some (iU hd)) (some (wU wd)) (some (iU j)) (some (.tup [wU w, nU c']))) (h := h2) ?_ (done _ c' _ _ h2 g2 (by simp; omega))
        simp [evSs, evS, evE, evL, cm, rsU, ttE, env10, k1, a1, hw]
      · refine wpS_of (e := env10 p dk most h.length c' x5 (some (iU hd)) (some (wU wd)) (some (iU j)) (some (.tup [wU w, nU c']))) (h := h2) ?_ ⟨rfl, j + 1, _, c', _, _, rfl, hlt, rfl, g2, by simp; omega⟩
        simp [evSs, evS, evE, evL, cm, rsU, ttE, env10, k1, a1, hw]
  · rintro e h' ⟨j, run, c, x8, x9, e1, hj, rfl, g, hl⟩
    exact done run c x8 x9 h' g (by omega)
theorem c_long {p : Plan} {n : Nat} (ok : Ok p n) {h : OH} {dk k : Nat} (x : HI h dk k) (most : Nat) (d fu : Nat) :
    wpR (evC (tabP tab) fu (d + 5) 21 [.ref dk, pU p, iU most] h) fun u h' => ∃ (run : List Nat) (said : List Wd) (s' : Now), goS p n (startN p n) run = some (said, s') ∧ (∀ i ∈ run, i < n) ∧ run.length ≤ 10000 ∧ u = .tup (run.map iU) ∧ HI h' dk k ∧ Fr h h' dk k := by
  rw [evC_run (F := f_law_long) rfl]
  refine run_wp rfl ?_
  simp only [f_law_long]
  rw [evSs_cons]
  have n6 := ok.n6
  have n2 := ok.n2
  have y0 := x.more [] rfl
  have g0 : LG p n h (h ++ [.lst []]) dk k [] (startN p n) := ⟨y0, ⟨by simp, fun i hi _ _ => by rw [List.getElem?_append_left hi]⟩, by simp, ⟨[], rfl⟩, start_ns ok, by simp⟩
  refine wpS_of (e := env10 p dk most h.length (startN p n) none none none none none) (h := h ++ [.lst []]) ?_ ?_
  · have cb := c_begun ok y0 (d + 3) fu
    generalize hH : h ++ [OO.lst []] = H0 at *
    simp [evS, evL, evE, newL, LIM, setAll, hH, cb, env10]
  dsimp only
  have fin : ∀ run c x5 x6 x7 x8 x9 h', LG p n h h' dk k run c → run.length ≤ 10000 → wpS (evSs (evC (tabP tab) fu (d + 4)) fu [.ret (.bi false .tuple [(.v 3)])] (env10 p dk most h.length c x5 x6 x7 x8 x9) h')
      { nx := fun _ h1 => wpR (finE f_law_long.trim h.length .non h1) fun u h' => ∃ (run : List Nat) (said : List Wd) (s' : Now), goS p n (startN p n) run = some (said, s') ∧ (∀ i ∈ run, i < n) ∧ run.length ≤ 10000 ∧ u = .tup (run.map iU) ∧ HI h' dk k ∧ Fr h h' dk k,
        rt := fun u h1 => wpR (finE f_law_long.trim h.length u h1) fun u h' => ∃ (run : List Nat) (said : List Wd) (s' : Now), goS p n (startN p n) run = some (said, s') ∧ (∀ i ∈ run, i < n) ∧ run.length ≤ 10000 ∧ u = .tup (run.map iU) ∧ HI h' dk k ∧ Fr h h' dk k } := by
    intro run c x5 x6 x7 x8 x9 h' g hl
    rw [evSs_one]
    refine wpS_ret (u := .tup (run.map iU)) (h := h') (by simp [evS, evE, evL, env10, tup_ref g.at_]) ?_
    obtain ⟨said, hs⟩ := g.go
    exact fin_trim (d := dk) (k := k) (v := .tup (run.map iU)) (frz_cl _ _ _ _ (by simp only [U.cl]; exact cls_ints run)) x g.hi g.gr fun z1 z2 => ⟨run, said, c, hs, g.lt, hl, rfl, z1, z2⟩
  rw [evSs_cons, for_r1 (n := 200) rfl (by omega)]
  refine forL_wp (fun us e h' => ∃ i run c x5 x6 x7 x8 x9, us = ((List.range 200).drop i).map iU ∧ i ≤ 200 ∧ e = env10 p dk most h.length c x5 x6 x7 x8 x9 ∧ LG p n h h' dk k run c ∧ run.length ≤ 9 * i) ?_ ?_ _ _ _ ⟨0, [], startN p n, none, none, none, none, none, by rw [List.drop_zero], Nat.zero_le _, rfl, g0, Nat.zero_le _⟩
  · rintro u us e h' ⟨i, run, c, x5, x6, x7, x8, x9, e1, hi, rfl, g, hl⟩
    have hlt : i < 200 := by
      refine Nat.lt_of_le_of_ne hi fun z => ?_
      rw [z, List.drop_of_length_le (by simp)] at e1
      cases e1
    rw [drop_range hlt, List.map_cons] at e1
    cases e1
    refine ⟨env10 p dk most h.length c (some (iU i)) x6 x7 x8 x9, rfl, ?_⟩
    rw [evSs_cons]
    have hdk := x.dlt
    have hkk := x.klt
    have hlen := len_ref g.at_ false
    rw [List.length_map] at hlen
    by_cases hb : most ≤ run.length
    · have hb' : (most : Int) ≤ (run.length : Int) := by omega
      refine wpS_brk (e := env10 p dk most h.length c (some (iU i)) x6 x7 x8 x9) (h := h') ?_ (fin run c _ _ _ _ _ h' g (by omega))
      simp [evS, evSs, evE, evL, env10, hlen, hb']
    · have hb' : ¬ (most : Int) ≤ (run.length : Int) := by omega
      refine wpS_of (e := env10 p dk most h.length c (some (iU i)) x6 x7 x8 x9) (h := h') ?_ ?_
      · simp [evS, evSs, evE, evL, env10, hlen, hb']
      dsimp only
      rw [evSs_cons]
      obtain ⟨u, h2, ed, v, rfl, hv, y2, f2⟩ := wpR_ex (c_draw (many := n) g.hi (by omega) (d + 3) fu)
      have hvn : v < n := by omega
      obtain ⟨u, h3, ep, wd, _, rfl, y3, f3⟩ := wpR_ex (c_pick y2 wU wds (by decide) (by decide) (d + 2) fu (fun _ => rfl))
      have ep' : evC (tabP tab) fu (d + 4) 9 [.ref dk, .fls [wU .w_raise, wU .w_enter, wU .w_leave, wU .w_see, wU .w_, wU .w_]] h2 = .ok (wU wd) h3 := ep
      have g3 := (g.fr x y2 f2).fr x y3 f3
      refine wpS_of (e := env10 p dk most h.length c (some (iU i)) (some (iU v)) (some (wU wd)) x8 x9) (h := h3) ?_ ?_
      · simp [evS, evE, evL, env10, pU_0, ok.tl, ed, newL, LIM, ep', setAll]
      dsimp only
      obtain ⟨u, h4, e9, v9, rfl, hv9, y4, f4⟩ := wpR_ex (c_draw (many := 9) g3.hi (by omega) (d + 3) fu)
      have e9' : evC (tabP tab) fu (d + 4) 8 [.ref dk, .int 9] h3 = .ok (iU v9) h4 := e9
      have g4 := g3.fr x y4 f4
      have hsrc : evE (evC (tabP tab) fu (d + 4)) (.bin false .add (.k (.int 1)) (.call 8 [(.v 0), (.k (.int 9))])) (env10 p dk most h.length c (some (iU i)) (some (iU v)) (some (wU wd)) x8 x9) h3 = .ok (.int ((1 + v9 : Nat) : Int)) h4 := by
        simp [evE, evL, env10, e9']
      rw [evSs_one, for_r1' hsrc (by omega)]
      refine inner ok x hvn g4 hl hlt (by omega) fun run c x8 x9 h5 g5 hl5 => ?_
      exact ⟨rfl, i + 1, run, c, _, _, _, _, _, rfl, hlt, rfl, g5, hl5⟩
  · rintro e h' ⟨i, run, c, x5, x6, x7, x8, x9, e1, hi, rfl, g, hl⟩
    exact fin run c _ _ _ _ _ h' g (by omega)
end K80

namespace K80
open L2 TV
open PySem (PyData)
theorem ttE_nm (cal : Nat → List U → OH → R U) (i : Nat) (u : U) (e : Env') (h : OH) : ttE cal (.nm i) u e h = if i < e.length then .ok (e.set i (some u)) h else .bad := by simp only [ttE]
theorem mem_drop {α : Type} {l : List α} {a : α} {k : Nat} (h : a ∈ l.drop k) : a ∈ l := List.mem_of_mem_drop h
theorem c_fs {p : Plan} {n : Nat} (ok : Ok p n) {i a : Nat} (hi : i < n) (ha : a ≤ n - 1) (h : OH) (d fu : Nat) : evC (tabP tab) fu (d + 1) 0 [pU p, iU i, iU a] h = .ok .non h := by
  refine pure_of (F := f_first_slip) rfl rfl rfl rfl ?_
  simp only [f_first_slip]
  have ol := (ok.od i hi).2.1
  have e1 : cut ((p.o i).map iU) (some (a : Int)) none = ((p.o i).drop a).map iU := by
    rw [cut_drop _ _ (by rw [List.length_map, ol]; exact ha), List.map_drop]
  have e2 : evE (evC (tabP tab) fu d) (.sl false (.ix (.ix (.v 0) (.k (.int 1))) (.v 1)) [(.v 2)] []) [some (pU p), some (iU i), some (iU a), none, none] h = .ok (.tup (((p.o i).drop a).map iU)) h := by
    simp [evE, evP, pU_1, ok.oU hi, e1]
  have e3 : evE (evC (tabP tab) fu d) (.lc false (.v 4) (.nm 4) (.sq (.sl false (.ix (.ix (.v 0) (.k (.int 1))) (.v 1)) [(.v 2)] [])) [(.cmp .eq (.ix (.ix (.ix (.v 0) (.k (.int 0))) (.v 1)) (.v 4)) (.k (.str (Wd.s .w_slip))))] [4]) [some (pU p), some (iU i), some (iU a), none, none] h = .ok (.fls []) h := by
    rw [lc_tup e2, lcL_map iU (fun _ => none) ((p.o i).drop a) rfl (fun j hj => ?_) (by have := ok.olen hi; rw [List.length_drop]; omega)]
    · have : ((p.o i).drop a).filterMap (fun _ => (none : Option U)) = [] := by
        induction (p.o i).drop a with
        | nil => rfl
        | cons x l ih => simp [ih]
      rw [this]
      rfl
    · obtain ⟨j1, j2⟩ := ((ok.od i hi).2.2 j).mp (mem_drop hj)
      have w0 : tgE (.nm 4) (iU j) (wipeU [some (pU p), some (iU i), some (iU a), none, none] [4]) = some [some (pU p), some (iU i), some (iU a), none, some (iU j)] := rfl
      have ns : p.w i j ≠ .w_slip := by rcases ok.wd i j hi j1 (Ne.symm j2) with z | z | z <;> rw [z] <;> decide
      simp [lcStp, w0, evCs, evE, pU_0, ok.rowU hi, ok.wU hi j1, ns]
  generalize hlc : (E.lc false (.v 4) (.nm 4) _ _ [4]) = LC at e3 ⊢
  simp [evSs, evS, evE, evL, e3, ttE, newL0, cp_nil_eq]
theorem intsO_ints : ∀ l : List Nat, intsO (l.map iU) = some (l.map fun (x : Nat) => (x : Int))
  | [] => rfl
  | a :: l => by simp [intsO, intsO_ints l]
theorem idx_cast (j : Nat) : ∀ l : List Nat, (l.map fun (x : Nat) => (x : Int)).idxOf (j : Int) = l.idxOf j
  | [] => rfl
  | a :: l => by
    rw [List.map_cons, List.idxOf_cons, List.idxOf_cons, idx_cast j l]
    by_cases e : a = j
    · subst e; simp
    · have h1 : (a == j) = false := beq_eq_false_iff_ne.mpr e
      have h2 : ((a : Int) == (j : Int)) = false := beq_eq_false_iff_ne.mpr (by omega)
      rw [h1, h2]
theorem index_ok' {p : Plan} {i j : Nat} (hj : j ∈ p.o i) (h : OH) : mtE .index (.tup ((p.o i).map iU)) [iU j] h = .ok (iU (idx p i j)) h := by
  have e1 : intsO ((p.o i).map iU) = some ((p.o i).map fun (x : Nat) => (x : Int)) := intsO_ints _
  have e2 : (j : Int) ∈ (p.o i).map fun (x : Nat) => (x : Int) := List.mem_map.mpr ⟨j, hj, rfl⟩
  show (match intsO ((p.o i).map iU) with
    | some ns => if (j : Int) ∈ ns then R.ok (U.int (ns.idxOf (j : Int) : Nat)) h else .bad
    | none => .bad) = _
  rw [e1]
  dsimp only
  rw [if_pos e2, idx_cast]
  rfl
def isPS : Wd → Bool
  | .w_pass => true | .w_slip => true | _ => false
theorem ps (a : Wd) : ∀ {h : OH}, inO h (.str a.s) (.tup [wU .w_pass, wU .w_slip]) = some (isPS a) := by
  intro h
  rw [inO_tup (fl_str _ _) (by simp)]
  congr 1
  cases a <;> decide
def kinds : List Wd := [.w_pass, .w_slip, .w_behind, .w_early, .w_ahead]
theorem c_lack {p : Plan} {n : Nat} (ok : Ok p n) {i j : Nat} (hi : i < n) (hj : j < n) (e : i ≠ j) {kd : Wd} (hk : kd ∈ kinds) (h : OH) (d fu : Nat) : evC (tabP tab) fu (d + 2) 1 [wU kd, pU p, iU i, iU j] h = .ok .non h := by
  refine pure_of (F := f_lack) rfl rfl rfl rfl ?_
  simp only [f_lack]
  have w1 := ok.rowU hi
  have w2 := ok.wU hi hj
  have w3 := ok.oU hi
  have hji := ((ok.od i hi).2.2 j).mpr ⟨hj, Ne.symm e⟩
  have ix := fun h => index_ok' hji h
  have il := ok.idx_lt hi hj e
  have f0 := fun h => c_fs ok hi (a := 0) (Nat.zero_le _) h d fu
  have f1 := fun h => c_fs ok hi (a := idx p i j + 1) (by omega) h d fu
  have e1 := ok.ea i
  have np : p.w i j ≠ .w_pass ∧ p.w i j ≠ .w_slip := by
    rcases ok.wd i j hi hj e with z | z | z <;> rw [z] <;> exact ⟨by decide, by decide⟩
  have pe : pU p = .tup [.tup (p.tbl.map fun r => .tup (r.map wU)), .tup (p.ord.map fun o => .tup (o.map iU)), .tup (p.early.map iU)] := rfl
  have i1 : ∀ (hh : OH), inO hh (iU i) (.tup (p.early.map iU)) = some (decide (i ∈ p.early)) := fun hh => in_ints i _
  have kt : ∀ hh, mtK .index (.tup ((p.o i).map iU)) hh = true := fun _ => rfl
  have ea' : p.w i j = .w_even → i ∉ p.early := fun z q => e1 q j hj z
  simp only [kinds, List.mem_cons, List.not_mem_nil, or_false] at hk
  have f0' : ∀ hh, evC (tabP tab) fu (d + 1) 0 [pU p, iU i, .int 0] hh = .ok .non hh := f0
  have f1' : ∀ hh, evC (tabP tab) fu (d + 1) 0 [pU p, iU i, .int ((idx p i j : Int) + 1)] hh = .ok .non hh := f1
  have tt : ∀ (hh : OH) (e : Env'), e.length = 8 → ttE (evC (tabP tab) fu (d + 1)) (.tp [.nm 4, .nm 5, .nm 6]) (pU p) e hh = .ok (((e.set 4 (some (.tup (p.tbl.map fun r => .tup (r.map wU))))).set 5 (some (.tup (p.ord.map fun o => .tup (o.map iU))))).set 6 (some (.tup (p.early.map iU)))) hh := fun hh e he => by
    rw [pe]
    simp [ttE, ttEs, he]
  rcases hk with rfl | rfl | rfl | rfl | rfl
  · simp [evSs, evS, evE, evL, evAn, tt, ps, isPS, LIM, w1, w2, np.1]
  · simp [evSs, evS, evE, evL, evAn, tt, ps, isPS, LIM, w1, w2, np.2]
  · simp [evSs, evS, evE, evL, evAn, tt, ps, isPS, LIM, w1, w2, w3, kt, ix, f1', ttE_nm]
  · by_cases hv : p.w i j = .w_even
    · simp [evSs, evS, evE, evL, evAn, tt, ps, isPS, LIM, w1, w2, hv, i1, ea' hv]
    · simp [evSs, evS, evE, evL, evAn, tt, ps, isPS, LIM, w1, w2, hv]
  · by_cases hv : p.w i j = .w_even
    · simp [evSs, evS, evE, evL, evAn, tt, ps, isPS, LIM, w1, w2, hv, f0', ttE_nm]
    · simp [evSs, evS, evE, evL, evAn, tt, ps, isPS, LIM, w1, w2, hv]
theorem c_fault {p : Plan} {n : Nat} (ok : Ok p n) {i j : Nat} (hi : i < n) (hj : j < n) (e : i ≠ j) (h : OH) (d fu : Nat) : evC (tabP tab) fu (d + 3) 2 [pU p, iU i, iU j] h = .ok .non h := by
  have key : wpR (evC (tabP tab) fu (d + 3) 2 [pU p, iU i, iU j] h) fun u h' => u = .non ∧ h' = h := by
    rw [evC_run (F := f_fault) rfl]
    refine run_wp rfl ?_
    simp only [f_fault]
    have src : evE (evC (tabP tab) fu (d + 2)) (.tup [(.k (.str (Wd.s .w_pass))), (.k (.str (Wd.s .w_slip))), (.k (.str (Wd.s .w_behind))), (.k (.str (Wd.s .w_early))), (.k (.str (Wd.s .w_ahead)))]) [some (pU p), some (iU i), some (iU j), none, none, none, none] h = .ok (.tup (kinds.map wU)) h := by
      simp [evE, evL, LIM, kinds]
    rw [evSs_cons]
    show wpS (evS (evC (tabP tab) fu (d + 2)) fu _ [some (pU p), some (iU i), some (iU j), none, none, none, none] h) _
    rw [for_sq src]
    refine forL_wp (fun us e h' => ∃ (k : Nat) (x3 x4 x5 x6 : Option U), us = (kinds.drop k).map wU ∧ e = [some (pU p), some (iU i), some (iU j), x3, x4, x5, x6] ∧ h' = h) ?_ ?_ _ _ _ ⟨0, none, none, none, none, rfl, rfl, rfl⟩
    · rintro u us e2 h' ⟨k, x3, x4, x5, x6, e1, rfl, rfl⟩
      have hlt : k < kinds.length := by
        refine Nat.lt_of_not_le fun z => ?_
        rw [List.drop_of_length_le z] at e1
        cases e1
      rw [List.drop_eq_getElem_cons hlt, List.map_cons] at e1
      cases e1
      have hkd := List.getElem_mem hlt
      generalize kinds[k] = kd at *
      refine ⟨[some (pU p), some (iU i), some (iU j), some (wU kd), x4, x5, x6], rfl, ?_⟩
      rw [evSs_one, for_sq (us := [.tup [iU i, iU j], .tup [iU j, iU i]]) (by simp [evE, evL, LIM])]
      refine forL_wp (fun us e h2 => (us = [.tup [iU i, iU j], .tup [iU j, iU i]] ∨ us = [.tup [iU j, iU i]] ∨ us = []) ∧ ∃ (x4 x5 x6 : Option U), e = [some (pU p), some (iU i), some (iU j), some (wU kd), x4, x5, x6] ∧ h2 = h') ?_ ?_ _ _ _ ⟨.inl rfl, x4, x5, x6, rfl, rfl⟩
      · rintro u us e3 h' ⟨e1, x4, x5, x6, rfl, rfl⟩
        have l1 := fun hh => c_lack ok hi hj e hkd hh d fu
        have l2 := fun hh => c_lack ok hj hi (Ne.symm e) hkd hh d fu
        rcases e1 with e1 | e1 | e1
        · cases e1
          refine ⟨[some (pU p), some (iU i), some (iU j), some (wU kd), some (iU i), some (iU j), x6], rfl, ?_⟩
          refine wpS_of (e := [some (pU p), some (iU i), some (iU j), some (wU kd), some (iU i), some (iU j), some .non]) (h := h') ?_ ⟨rfl, .inr (.inl rfl), _, _, _, rfl, rfl⟩
          simp [evSs, evS, evE, evL, l1, ttE_nm]
        · cases e1
          refine ⟨[some (pU p), some (iU i), some (iU j), some (wU kd), some (iU j), some (iU i), x6], rfl, ?_⟩
          refine wpS_of (e := [some (pU p), some (iU i), some (iU j), some (wU kd), some (iU j), some (iU i), some .non]) (h := h') ?_ ⟨rfl, .inr (.inr rfl), _, _, _, rfl, rfl⟩
          simp [evSs, evS, evE, evL, l2, ttE_nm]
        · cases e1
      · rintro e3 h' ⟨_, x4, x5, x6, rfl, rfl⟩
        exact ⟨rfl, k + 1, _, _, _, _, rfl, rfl, rfl⟩
    · rintro e2 h' ⟨k, x3, x4, x5, x6, e1, rfl, rfl⟩
      dsimp only
      rw [evSs_one]
      refine wpS_ret (u := .non) (h := h') (by simp [evS, evE]) ?_
      exact fin_same rfl ⟨rfl, rfl⟩
  obtain ⟨u, h', e, rfl, rfl⟩ := wpR_ex key
  exact e
theorem c_issafe {p : Plan} {n : Nat} (ok : Ok p n) {h : OH} {dk k : Nat} (x : HI h dk k) (d fu : Nat) : evC (tabP tab) fu (d + 5) 4 [pU p] h = .ok (.bl true) h := by
  have n6 := ok.n6
  have key : wpR (evC (tabP tab) fu (d + 4) 3 [pU p] h) fun u h' => u = .tup [] ∧ h' = h := by
    rw [evC_run (F := f_faults) rfl]
    refine run_wp rfl ?_
    simp only [f_faults]
    rw [evSs_cons]
    have E1 : (h ++ [OO.lst []])[h.length]? = some (.lst []) := by simp
    refine wpS_of (e := [some (pU p), some (.ref h.length), none, none, none]) (h := h ++ [.lst []]) (by simp [evS, evE, evL, newL, LIM, ttE_nm]) ?_
    dsimp only
    rw [evSs_cons, for_r1 (n := n) (by simp [evE, evL, pU_0, ok.tl]) (by omega)]
    refine forL_wp (fun us e h' => ∃ (i : Nat) (x2 x3 x4 : Option U), us = ((List.range n).drop i).map iU ∧ i ≤ n ∧ e = [some (pU p), some (.ref h.length), x2, x3, x4] ∧ h' = h ++ [.lst []]) ?_ ?_ _ _ _ ⟨0, none, none, none, by simp, Nat.zero_le _, rfl, rfl⟩
    · rintro u us e h' ⟨i, x2, x3, x4, e1, hi, rfl, rfl⟩
      have hlt : i < n := by
        refine Nat.lt_of_le_of_ne hi fun z => ?_
        rw [z, List.drop_of_length_le (by simp)] at e1
        cases e1
      rw [drop_range hlt, List.map_cons] at e1
      cases e1
      refine ⟨[some (pU p), some (.ref h.length), some (iU i), x3, x4], rfl, ?_⟩
      have src : evS (evC (tabP tab) fu (d + 3)) fu (.for_ (.nm 3) (.r2 (.bin false .add (.v 2) (.k (.int 1))) (.bi false .len [(.ix (.v 0) (.k (.int 0)))])) [.asg (.nm 4) (.call 2 [(.v 0), (.v 2), (.v 3)]), .ife (.isn false (.v 4)) [.ex (.mth .append (.v 1) [(.tup [(.v 2), (.v 3), (.v 4)])])] []]) [some (pU p), some (.ref h.length), some (iU i), x3, x4] (h ++ [.lst []]) =
          forL (.nm 3) (fun e h => evSs (evC (tabP tab) fu (d + 3)) fu [.asg (.nm 4) (.call 2 [(.v 0), (.v 2), (.v 3)]), .ife (.isn false (.v 4)) [.ex (.mth .append (.v 1) [(.tup [(.v 2), (.v 3), (.v 4)])])] []] e h) [] ((List.range (n - (i + 1))).map fun z => iU (i + 1 + z)) [some (pU p), some (.ref h.length), some (iU i), x3, x4] (h ++ [.lst []]) := by
        have r : rgU ((i : Int) + 1) (n : Int) = (List.range (n - (i + 1))).map fun z => iU (i + 1 + z) := rg2 (i + 1) n
        have s1 : smallR ((i : Int) + 1) = true := smallR_nat (n := i + 1) (by omega)
        have s2 : smallR (n : Int) = true := smallR_nat (by omega)
        have a1 : evE (evC (tabP tab) fu (d + 3)) (.bin false .add (.v 2) (.k (.int 1))) [some (pU p), some (.ref h.length), some (iU i), x3, x4] (h ++ [.lst []]) = .ok (.int ((i : Int) + 1)) (h ++ [.lst []]) := by simp [evE]
        have a2 : evE (evC (tabP tab) fu (d + 3)) (.bi false .len [(.ix (.v 0) (.k (.int 0)))]) [some (pU p), some (.ref h.length), some (iU i), x3, x4] (h ++ [.lst []]) = .ok (.int (n : Nat)) (h ++ [.lst []]) := by simp [evE, evL, pU_0, ok.tl]
        simp only [evS, evSr, a1, a2, bind_ok, s1, s2, Bool.and_self, if_true, bindS_ok, r]
        rfl
      rw [evSs_one, src]
      refine forL_wp (fun us e h' => ∃ (j : Nat) (x3 x4 : Option U), us = ((List.range (n - (i + 1))).drop j).map (fun z => iU (i + 1 + z)) ∧ e = [some (pU p), some (.ref h.length), some (iU i), x3, x4] ∧ h' = h ++ [.lst []]) ?_ ?_ _ _ _ ⟨0, x3, x4, by simp, rfl, rfl⟩
      · rintro u us e h' ⟨j, x3, x4, e1, rfl, rfl⟩
        have hjl : j < n - (i + 1) := by
          refine Nat.lt_of_not_le fun z => ?_
          rw [List.drop_of_length_le (by simpa using z)] at e1
          cases e1
        rw [drop_range hjl, List.map_cons] at e1
        cases e1
        have lf := fun hh => c_fault ok hlt (show i + 1 + j < n by omega) (by omega) hh d fu
        generalize i + 1 + j = m at *
        refine ⟨[some (pU p), some (.ref h.length), some (iU i), some (iU m), x4], rfl, ?_⟩
        refine wpS_of (e := [some (pU p), some (.ref h.length), some (iU i), some (iU m), some .non]) (h := h ++ [.lst []]) ?_ ⟨rfl, j + 1, _, _, rfl, rfl, rfl⟩
        simp [evSs, evS, evE, evL, lf, ttE_nm]
      · rintro e h' ⟨j, x3, x4, e1, rfl, rfl⟩
        exact ⟨rfl, i + 1, _, _, _, rfl, hlt, rfl, rfl⟩
    · rintro e h' ⟨i, x2, x3, x4, e1, hi, rfl, rfl⟩
      dsimp only
      rw [evSs_one]
      refine wpS_ret (u := .tup []) (h := h ++ [.lst []]) (by simp [evS, evE, evL, tup_ref E1]) ?_
      exact fin_trim (d := dk) (k := k) (v := .tup []) rfl x (x.more [] rfl) ⟨by simp, fun z hz _ _ => by rw [List.getElem?_append_left hz]⟩ fun z1 z2 => ⟨rfl, by simp⟩
  obtain ⟨u, h', e3, rfl, rfl⟩ := wpR_ex key
  refine pure_of (F := f_is_safe) (d := d + 4) rfl rfl rfl rfl ?_
  have eq : ∀ hh, cpO hh .eq (.tup []) (.tup []) = some true := fun hh => by rw [cpO_eq, eqO_tt rfl rfl rfl rfl]; rfl
  simp [f_is_safe, evSs, evS, evE, evL, e3, LIM, eq]
end K80

namespace K80
open L2 TV
open PySem (PyData)
theorem enU_ords {p : Plan} {n : Nat} (ok : Ok p n) : enU (p.ord.map fun o => U.tup (o.map iU)) = (List.range n).map fun i => .tup [iU i, .tup ((p.o i).map iU)] := by
  refine List.ext_getElem? fun i => ?_
  unfold enU
  rw [List.getElem?_mapIdx]
  by_cases hi : i < n
  · rw [List.getElem?_map, List.getElem?_map, ok.oU hi, List.getElem?_range hi]
    rfl
  · rw [List.getElem?_eq_none_iff.mpr (by rw [List.length_map, ok.ol]; omega), List.getElem?_eq_none_iff.mpr (by simpa using hi)]
    rfl
theorem c_most {p : Plan} {n : Nat} (ok : Ok p n) {h : OH} {dk k : Nat} (x : HI h dk k) {hd : Nat} (hh : hd < n) (d fu : Nat) : evC (tabP tab) fu (d + 6) 6 [pU p, iU hd] h = .ok (iU (mp p n hd)) h := by
  refine pure_of (F := f_most_passed) rfl rfl rfl rfl ?_
  simp only [f_most_passed]
  have n6 := ok.n6
  have cs := c_issafe ok x d fu
  have ce := c_evens ok hh h (d + 4) fu
  have e3 : evE (evC (tabP tab) fu (d + 5)) (.lc false (.v 3) (.tp [(.nm 3), (.nm 4)]) (.en (.ix (.v 0) (.k (.int 1)))) [(.an [(.cmp .ne (.v 3) (.v 1)), (.cmp .ne (.ix (.v 4) (.neg (.k (.int 1)))) (.v 1))])] [3, 4]) [some (pU p), some (iU hd), none, none, none] h = .ok (.fls ((others p n hd).map iU)) h := by
    rw [lc_en (us := p.ord.map fun o => U.tup (o.map iU)) (by simp [evE, pU_1]), enU_ords ok]
    rw [lcL_map (fun i => U.tup [iU i, .tup ((p.o i).map iU)]) (fun i => if (decide (i ≠ hd) && notLast p hd i) = true then some (iU i) else none) (List.range n) rfl (fun i hi => ?_) (by simp [LIM]; omega), fm_if]
    · rfl
    · have hlt := List.mem_range.mp hi
      have w0 : tgE (.tp [.nm 3, .nm 4]) (.tup [iU i, .tup ((p.o i).map iU)]) (wipeU [some (pU p), some (iU hd), none, none, none] [3, 4]) = some [some (pU p), some (iU hd), none, some (iU i), some (.tup ((p.o i).map iU))] := rfl
      by_cases hih : i = hd
      · subst hih
        simp [lcStp, w0, evCs, evE, evAn]
      · have hih' : ¬ (i : Int) = (hd : Int) := by omega
        have hlen := (ok.od i hlt).2.1
        have hl2 : (p.o i).length - 1 < (p.o i).length := by have := ok.n2; omega
        have e4 : ((p.o i).map iU)[(p.o i).length - 1]? = some (iU (p.o i)[(p.o i).length - 1]) := by
          rw [List.getElem?_map, List.getElem?_eq_getElem hl2]; rfl
        have e5 : notLast p hd i = decide ((p.o i)[(p.o i).length - 1] ≠ hd) := by
          unfold notLast
          rw [List.getElem?_eq_getElem hl2]
          exact decide_eq_decide.mpr ⟨fun z q => z (by rw [q]), fun z q => z (Option.some.inj q)⟩
        have e6 : ∀ h, ixO h (.tup ((p.o i).map iU)) (.int (-1)) = some (iU (p.o i)[(p.o i).length - 1]) := fun h => by
          rw [ix_tupl, List.length_map]; exact e4
        rw [e5]
        generalize (p.o i)[(p.o i).length - 1] = z at *
        by_cases hz : z = hd
        · simp [lcStp, w0, evCs, evE, evAn, hih, hih', e6, hz]
        · have hz' : ¬ (z : Int) = (hd : Int) := by omega
          simp [lcStp, w0, evCs, evE, evAn, hih, hih', e6, hz, hz']
  generalize hlc : (E.lc false (.v 3) (.tp [(.nm 3), (.nm 4)]) _ _ [3, 4]) = LC at e3 ⊢
  simp [evSs, evS, evE, evL, cs, e3, ttE_nm, ce, mp]
/-! ### the deck -/
def DK (h : OH) (k : Nat) (l : List Int) : Prop := (∃ st, h[1]? = some (dkO k st)) ∧ h[k]? = some (.lst (l.map U.int)) ∧ k ≠ 1 ∧ ∀ i, i ≠ 1 → ∀ o, h[i]? = some o → ∃ us, o = .lst us ∧ U.cls us = true
theorem HI.of {h : OH} {k : Nat} {l : List Int} (x : DK h k l) (hl : l.length ≤ 1000) : HI h 1 k := ⟨x.1, ⟨l, x.2.1, hl⟩, x.2.2.1, x.2.2.2⟩
theorem DK.st {h : OH} {k : Nat} {l : List Int} (x : DK h k l) (st : Int) : DK (h.set 1 (dkO k st)) k l := by
  obtain ⟨⟨st0, e1⟩, e2, e3, e4⟩ := x
  have h1 : 1 < h.length := (List.getElem?_eq_some_iff.mp e1).1
  refine ⟨⟨st, List.getElem?_set_self h1⟩, by rw [List.getElem?_set_ne (Ne.symm e3)]; exact e2, e3, fun i hi o e => ?_⟩
  rw [List.getElem?_set_ne (Ne.symm hi)] at e
  exact e4 i hi o e
theorem DK.deep {h : OH} {k : Nat} {l : List Int} (x : DK h k l) (st : Int) (l' : List Int) : DK ((h ++ [OO.lst (l'.map U.int)]).set 1 (dkO h.length st)) h.length l' := by
  obtain ⟨⟨st0, e1⟩, e2, e3, e4⟩ := x
  have h1 : 1 < h.length := (List.getElem?_eq_some_iff.mp e1).1
  refine ⟨⟨st, List.getElem?_set_self (by rw [List.length_append]; omega)⟩, by rw [List.getElem?_set_ne (by omega)]; simp, by omega, fun i hi o e => ?_⟩
  rw [List.getElem?_set_ne (Ne.symm hi)] at e
  by_cases hl : i < h.length
  · rw [List.getElem?_append_left hl] at e
    exact e4 i hi o e
  · rw [List.getElem?_append_right (by omega)] at e
    have hz : i - h.length = 0 := by
      have := (List.getElem?_eq_some_iff.mp e).1
      simp at this; omega
    rw [hz] at e
    cases e
    exact ⟨_, rfl, cls_map (fun _ => rfl) l'⟩
theorem st_deep {h : OH} {k k' : Nat} {st : Int} (e : h[1]? = some (dkO k st)) : stE (.ref 1) (.str Wd.w_deep.s) (.ref k') h = some (h.set 1 (dkO k' st)) := by
  simp [stE, e, dkO, keyO, putU, s_eq, LIM]
theorem c_deck (ns : List Int) (hns : ns.length ≤ 63) (d fu : Nat) : wpR (evC (tabP tab) fu (d + 1) 7 [.rls ns] []) fun u h' => u = .ref 1 ∧ ∃ k, HI h' 1 k := by
  rw [evC_run (F := f_law_deck) rfl]
  refine run_wp rfl ?_
  simp only [f_law_deck]
  rw [evSs_cons]
  have c1 : cut (ns.map U.int) none (some 63) = ns.map U.int := by
    unfold cut
    rw [HT.sIx_none, List.drop_zero, Nat.sub_zero]
    exact List.take_of_length_le (by rw [List.length_map]; show ns.length ≤ min 63 _; omega)
  have e1 : ∀ (e : Env') (h : OH), e[0]? = some (some (.rls ns)) → evE (evC (tabP tab) fu d) (.sl false (.v 0) [] [(.k (.int 63))]) e h = .ok (.fls (ns.map U.int)) h := fun e h he => by
    have : ns.length ≤ 16777216 := by omega
    simp [evE, evP, he, slE, c1, newL, LIM, this]
  have d0 : DK [.lst [], dkO 0 (1578380 + (ns.length : Int))] 0 [] := ⟨⟨_, rfl⟩, rfl, by decide, fun i hi o e => by
    match i, hi, e with
    | 0, _, e => cases e; exact ⟨[], rfl, rfl⟩
    | 1, hi, _ => exact absurd rfl hi
    | i + 2, _, e => simp at e⟩
  have e1' := e1 [some (.rls ns), none, none, none, none] [.lst []] rfl
  refine wpS_of (e := [some (.rls ns), some (.ref 1), none, none, none]) (h := [.lst [], dkO 0 (1578380 + (ns.length : Int))]) ?_ ?_
  · generalize hs : (E.sl false (.v 0) [] [(.k (.int 63))]) = SL at e1' ⊢
    simp [evS, evE, evL, newL, LIM, e1', ttE_nm, dkO, putU, s_eq]
  dsimp only
  rw [evSs_cons, for_sqf (e1 _ _ rfl)]
  refine forL_wp (fun us e h' => ∃ (i k : Nat) (l : List Int) (x2 x3 x4 : Option U), us = (ns.drop i).map U.int ∧ e = [some (.rls ns), some (.ref 1), x2, x3, x4] ∧ DK h' k l ∧ l.length ≤ i ∧ i ≤ ns.length) ?_ ?_ _ _ _ ⟨0, 0, [], none, none, none, rfl, rfl, d0, Nat.le_refl _, Nat.zero_le _⟩
  · rintro u us e h' ⟨i, k, l, x2, x3, x4, e2, rfl, dk, hl, hi⟩
    have hlt : i < ns.length := by
      refine Nat.lt_of_le_of_ne hi fun z => ?_
      rw [z, List.drop_length] at e2
      cases e2
    rw [List.drop_eq_getElem_cons hlt, List.map_cons] at e2
    cases e2
    generalize ns[i] = cell at *
    refine ⟨[some (.rls ns), some (.ref 1), some (.int cell), x3, x4], rfl, ?_⟩
    obtain ⟨st, hst⟩ := dk.1
    have p18 : opE false .pow (.int 10) (.int 18) = fun h => .ok (.int 1000000000000000000) h := by
      funext h; rfl
    have ab : ∀ (h : OH), biE false .abs [.int cell] h = .ok (.int (if cell < 0 then -cell else cell)) h := fun _ => rfl
    generalize (if cell < 0 then -cell else cell) = wh at ab
    have ib : ∀ (h : OH) (b : Bool), biE false .int [.bl b] h = .ok (.int (if b then 1 else 0)) h := fun _ _ => rfl
    have m1 : ∀ (h : OH), opE false .mul (.int 2) (.int wh) h = .ok (.int (2 * wh)) h := fun h => op_mul _ _ _ h (small_mul' _ _ (by decide))
    have m2 : ∀ (z : Int) (h : OH), opE false .mul (.int z) (.int 1181783497276652981) h = .ok (.int (z * 1181783497276652981)) h := fun z h => op_mul _ _ _ h (small_mul _ _ (by decide))
    have p18' : ∀ h, opE false .pow (.int 10) (.int 18) h = .ok (.int 1000000000000000000) h := fun h => by rw [p18]
    have tail : ∀ (h2 : OH) (k : Nat) (l : List Int), DK h2 k l → ∃ (v4 : Option U) (h3 : OH), DK h3 k l ∧ evSs (evC (tabP tab) fu d) fu [.asg (.nm 4) (.bin false .add (.bin false .mul (.bin false .add (.bin false .add (.bin false .add (.ix (.v 1) (.k (.str (Wd.s .w_state)))) (.bin false .mul (.k (.int 2)) (.v 3))) (.bi false .int [(.cmp .lt (.v 2) (.k (.int 0)))])) (.k (.int 1))) (.k (.int 1181783497276652981))) (.k (.int 521288629))), .asg (.sub (.v 1) (.k (.str (Wd.s .w_state)))) (.bin true .mod (.bi false .int [(.v 4)]) (.k (.int 2305843009213693951)))] [some (.rls ns), some (.ref 1), some (.int cell), some (.int wh), x4] h2 = .nx [some (.rls ns), some (.ref 1), some (.int cell), some (.int wh), v4] h3 := fun h2 k l dk => by
      obtain ⟨st, hst⟩ := dk.1
      refine ⟨some (.int ((st + 2 * wh + (if decide (cell < 0) = true then 1 else 0) + 1) * 1181783497276652981 + 521288629)), h2.set 1 (dkO k (((st + 2 * wh + (if decide (cell < 0) = true then 1 else 0) + 1) * 1181783497276652981 + 521288629).fmod 2305843009213693951)), dk.st _, ?_⟩
      have q := fun v => st_state (v := v) hst
      simp [evSs, evS, evE, evL, ix_state hst, m1, m2, ib, ttE, q]
    by_cases hb : (1000000000000000000 : Int) ≤ wh
    · have g : lsO h' (.ref k) = some (l.map U.int) := by simp [lsO, dk.2.1]
      have hl2 : (wh :: l).length ≤ 64 := by rw [List.length_cons]; omega
      have cat : opE true .add (.fls [.int wh]) (.ref k) h' = .ok (.ref h'.length) (h' ++ [.lst ((wh :: l).map U.int)]) := by
        have q1 : 1 + l.length ≤ 16777216 := by omega
        have q2 : l.length + 1 ≤ 16777216 := by omega
        simp [opE, addE, g, catE, newL, LIM, q1, q2]
      have hst2 : (h' ++ [OO.lst ((wh :: l).map U.int)])[1]? = some (dkO k st) := by
        rw [List.getElem?_append_left (List.getElem?_eq_some_iff.mp hst).1]; exact hst
      obtain ⟨v4, h3, dk3, et⟩ := tail _ _ _ (dk.deep st (wh :: l))
      refine wpS_of (e := [some (.rls ns), some (.ref 1), some (.int cell), some (.int wh), v4]) (h := h3) ?_ ⟨rfl, i + 1, h'.length, wh :: l, _, _, _, rfl, rfl, dk3, by rw [List.length_cons]; omega, hlt⟩
      have sd := st_deep (k' := h'.length) hst2
      generalize hT : ([.asg (.nm 4) _, .asg (.sub (.v 1) _) _] : List S) = T at et
      generalize h' ++ [OO.lst ((wh :: l).map U.int)] = h2 at *
      simp [evSs, evS, evE, evL, ab, ttE, p18', hb, newL, LIM, ix_deep hst, cat, sd, et]
    · obtain ⟨v4, h3, dk3, et⟩ := tail _ _ _ dk
      refine wpS_of (e := [some (.rls ns), some (.ref 1), some (.int cell), some (.int wh), v4]) (h := h3) ?_ ⟨rfl, i + 1, k, l, _, _, _, rfl, rfl, dk3, by omega, hlt⟩
      generalize hT : ([.asg (.nm 4) _, .asg (.sub (.v 1) _) _] : List S) = T at et
      simp [evSs, evS, evE, evL, ab, ttE, p18', hb, et]
  · rintro e h' ⟨i, k, l, x2, x3, x4, e2, rfl, dk, hl, hi⟩
    dsimp only
    rw [evSs_one]
    refine wpS_ret (u := .ref 1) (h := h') (by simp [evS, evE]) ?_
    have f : frz h' 0 2 (.ref 1) = none := by
      obtain ⟨st, e⟩ := dk.1
      show (if 1 < 0 then some (U.ref 1) else match (h'[1]? : Option OO) with
        | some (OO.lst us) => (U.rsL (fun m => frz h' 0 1 (.ref m)) us).map .fls
        | _ => none) = none
      rw [if_neg (by decide), e]
      rfl
    show wpR (finE true 0 (.ref 1) h') _
    unfold finE
    rw [if_pos rfl, f, wpR_ok]
    exact ⟨rfl, k, HI.of dk (by omega)⟩
end K80

namespace K80
open L2 TV
open PySem (PyData)
def W1 : List (Wd × Wd) := [(.w_stand, .w_bow), (.w_bow, .w_stand), (.w_even, .w_even), (.w_even, .w_even)]
def W2 : List (Wd × Wd) := W1 ++ [(.w_stand, .w_stand), (.w_bow, .w_bow)]
def W3 : List (Wd × Wd) := [(.w_stand, .w_bow), (.w_bow, .w_stand)]
def W4 : List (Wd × Wd) := [(.w_even, .w_even)]
def menus : List (List (Wd × Wd)) := [W1, W1, W2, W3, W4]
def mnU (m : List (Wd × Wd)) : U := .fls (m.map prU)
theorem cl_mn (m : List (Wd × Wd)) : U.cl (mnU m) = true := by simp only [mnU, U.cl]; exact cls_map (fun _ => rfl) m
theorem menu_ok : ∀ m ∈ menus, m ≠ [] ∧ m.length ≤ 1000 ∧ ∀ q ∈ m, okPair q.1 q.2 := by
  have ok1 : ∀ q ∈ W2, okPair q.1 q.2 := by
    intro q hq
    simp only [W2, W1, List.cons_append, List.nil_append, List.mem_cons, List.not_mem_nil, or_false] at hq
    rcases hq with rfl | rfl | rfl | rfl | rfl | rfl <;> exact ⟨by decide, by decide, by decide⟩
  have sub : ∀ m ∈ menus, ∀ q ∈ m, q ∈ W2 := by decide
  intro m hm
  refine ⟨?_, ?_, fun q hq => ok1 q (sub m hm q hq)⟩
  · revert m; decide
  · revert m; decide
theorem inv_start0 {p : Plan} {n : Nat} (h : Nat) (hh : h < n) : Inv p n (startN p n) h 0 := by
  intro u
  have e : (startN p n).at_ h = (.w_rest, 0) := by simp [startN, Now.at_, List.getElem?_replicate, hh]
  rw [e] at u
  rcases u with u | u <;> cases u
theorem cnts_len (h : Nat) : ∀ (r : List Nat) (ws : List Wd) (c : Nat), (cnts h r ws c).length ≤ r.length
  | [], ws, c => by cases ws <;> simp [cnts]
  | k :: r, [], c => by simp [cnts]
  | k :: r, w :: ws, c => by
    rw [cnts_cons, List.length_append, List.length_cons]
    have := cnts_len h r ws (cnt h c k w)
    split
    · rw [List.length_singleton]; omega
    · rw [List.length_nil]; omega
theorem fm_none {α : Type} : ∀ l : List α, l.filterMap (fun _ => (none : Option U)) = []
  | [] => rfl
  | a :: l => by simp [fm_none l]
theorem evE_call1 (cal : Nat → List U → OH → R U) (f : Nat) (a : E) (e : Env') (h : OH) : evE cal (.call f [a]) e h = (evE cal a e h).bind fun u h1 => cal f [u] h1 := by
  simp only [evE, evL]
  cases evE cal a e h <;> rfl
def envL (ns : List Int) (x3 x4 x5 x6 x7 x8 x9 x10 x11 : Option U) : Env' := [some (.rls ns), some (.ref 1), some (mnU W1), x3, x4, x5, x6, x7, x8, x9, x10, x11, none]
theorem plain (ns : List Int) (hl : ns.length ≤ 63) : ∃ h, evC (tabP tab) 1000 10 22 [.rls ns] [] = .ok (.bl true) h := by
  have key : wpR (evC (tabP tab) 1000 10 22 [.rls ns] []) fun u h' => u = .bl true := by
    rw [evC_run (F := f_law) (d := 9) rfl]
    refine run_wp rfl ?_
    simp only [f_law]
    rw [evSs_cons]
    obtain ⟨u, h1, e1, rfl, k, x⟩ := wpR_ex (c_deck ns hl 8 1000)
    refine wpS_of (e := [some (.rls ns), some (.ref 1), none, none, none, none, none, none, none, none, none, none, none]) (h := h1) (by simp [evS, evE, evL, e1, ttE_nm]) ?_
    dsimp only
    rw [evSs_cons]
    refine wpS_of (e := envL ns none none none none none none none none none) (h := h1) (by simp [evS, evE, evL, newL, LIM, ttE_nm, envL, mnU, W1, prU]) ?_
    dsimp only
    rw [evSs_cons, for_r1 (n := 3) rfl (by omega)]
    refine forL_wp (fun us e h' => ∃ (i : Nat) (x3 x4 x5 x6 x7 x8 x9 x10 x11 : Option U), us = ((List.range 3).drop i).map iU ∧ i ≤ 3 ∧ e = envL ns x3 x4 x5 x6 x7 x8 x9 x10 x11 ∧ HI h' 1 k) ?_ ?_ _ _ _ ⟨0, none, none, none, none, none, none, none, none, none, by rw [List.drop_zero], Nat.zero_le _, rfl, x⟩
    · rintro u us e h' ⟨i, x3, x4, x5, x6, x7, x8, x9, x10, x11, e2, hi, rfl, x⟩
      have hlt : i < 3 := by
        refine Nat.lt_of_le_of_ne hi fun z => ?_
        rw [z, List.drop_of_length_le (by simp)] at e2
        cases e2
      rw [drop_range hlt, List.map_cons] at e2
      cases e2
      refine ⟨envL ns (some (iU i)) x4 x5 x6 x7 x8 x9 x10 x11, rfl, ?_⟩
      rw [evSs_cons]
      -- the menus
      refine wpS_of (e := envL ns (some (iU i)) (some (.fls (menus.map mnU))) x5 x6 x7 x8 x9 x10 x11) (h := h') ?_ ?_
      · have c1 : cut [prU (.w_stand, .w_bow), prU (.w_bow, .w_stand), prU (.w_even, .w_even), prU (.w_even, .w_even)] none (some 2) = [prU (.w_stand, .w_bow), prU (.w_bow, .w_stand)] := rfl
        have c2 : cut [prU (.w_stand, .w_bow), prU (.w_bow, .w_stand), prU (.w_even, .w_even), prU (.w_even, .w_even)] (some 2) (some 3) = [prU (.w_even, .w_even)] := rfl
        simp [evS, evE, evL, evP, envL, mnU, W1, slE, c1, c2, newL, LIM, opE, addE, catE, lsO, ttE_nm, menus, W2, W3, W4]
        simp [prU]
      dsimp only
      rw [evSs_cons]
      obtain ⟨u, h2, p1, n, hn, rfl, x2, _⟩ := wpR_ex (c_pick x iU [2, 3, 3, 4, 5, 6] (by decide) (by decide) 7 1000 (fun _ => rfl))
      have n26 : 2 ≤ n ∧ n ≤ 6 := by
        simp only [List.mem_cons, List.not_mem_nil, or_false] at hn
        omega
      have p1' : evC (tabP tab) 1000 9 9 [.ref 1, .fls [.int 2, .int 3, .int 3, .int 4, .int 5, .int 6]] h' = .ok (iU n) h2 := p1
      obtain ⟨u, h3, p2, m, hm, rfl, x3, _⟩ := wpR_ex (c_pick x2 mnU menus (by decide) (by decide) 7 1000 cl_mn)
      obtain ⟨m1, m2, m3⟩ := menu_ok m hm
      obtain ⟨u, h4, p3, p, ok, rfl, x4, _⟩ := wpR_ex (c_safe x3 n26.1 n26.2 m m1 m2 m3 5 1000 (by omega))
      have p3' : evC (tabP tab) 1000 9 12 [.ref 1, iU n, mnU m] h3 = .ok (pU p) h4 := p3
      refine wpS_of (e := envL ns (some (iU i)) (some (.fls (menus.map mnU))) (some (pU p)) x6 x7 x8 x9 x10 x11) (h := h4) ?_ ?_
      · generalize hM : menus.map mnU = M at *
        simp [evS, evE, evL, envL, newL, LIM, p1', p2, p3', ttE_nm]
      dsimp only
      rw [evSs_cons]
      obtain ⟨u, h5, p5, v, rfl, _, x5, _⟩ := wpR_ex (c_draw (many := 100) x4 (by omega) 8 1000)
      have p5' : evC (tabP tab) 1000 9 8 [.ref 1, .int 100] h4 = .ok (iU v) h5 := p5
      obtain ⟨u, h6, p6, run, said, s', go, hr, hlr, rfl, x6, _⟩ := wpR_ex (c_long ok x5 (40 + v) 4 1000)
      have p6' : evC (tabP tab) 1000 9 21 [.ref 1, pU p, .int (40 + (v : Int))] h5 = .ok (.tup (run.map iU)) h6 := p6
      refine wpS_of (e := envL ns (some (iU i)) (some (.fls (menus.map mnU))) (some (pU p)) (some (.tup (run.map iU))) x7 x8 x9 x10 x11) (h := h6) ?_ ?_
      · generalize hM : menus.map mnU = M at *
        simp [evS, evE, evL, envL, p5', p6', ttE_nm]
      dsimp only
      rw [evSs_cons]
      have pb := c_begun ok x6 8 1000
      obtain ⟨u, h7, pw, seen, rfl, rfl⟩ := wpR_ex (c_walk ok (start_ns ok) x6 go hr hlr 4 1000)
      refine wpS_of (e := envL ns (some (iU i)) (some (.fls (menus.map mnU))) (some (pU p)) (some (.tup (run.map iU))) (some (.fls seen)) (some (.fls (said.map wU))) (some .non) x10 x11) (h := h7) ?_ ?_
      · generalize hM : menus.map mnU = M at *
        generalize hS : said.map wU = SD at *
        generalize hR : run.map iU = RU at *
        simp [evS, evE, evL, envL, pb, pw, ttE, ttEs]
      dsimp only
      rw [evSs_one, for_r1 (n := n) (by simp [evE, evL, envL, pU_0, ok.tl]) (by omega)]
      refine forL_wp (fun us e h8 => ∃ (j : Nat) (x10 x11 : Option U), us = ((List.range n).drop j).map iU ∧ j ≤ n ∧ e = envL ns (some (iU i)) (some (.fls (menus.map mnU))) (some (pU p)) (some (.tup (run.map iU))) (some (.fls seen)) (some (.fls (said.map wU))) (some .non) x10 x11 ∧ h8 = h7) ?_ ?_ _ _ _ ⟨0, x10, x11, by rw [List.drop_zero], Nat.zero_le _, rfl, rfl⟩
      · rintro u us e h8 ⟨j, x10, x11, e3, hj, rfl, rfl⟩
        have hjl : j < n := by
          refine Nat.lt_of_le_of_ne hj fun z => ?_
          rw [z, List.drop_of_length_le (by simp)] at e3
          cases e3
        rw [drop_range hjl, List.map_cons] at e3
        cases e3
        refine ⟨envL ns (some (iU i)) (some (.fls (menus.map mnU))) (some (pU p)) (some (.tup (run.map iU))) (some (.fls seen)) (some (.fls (said.map wU))) (some .non) (some (iU j)) x11, rfl, ?_⟩
        have cm := c_most ok x6 hjl 3 1000
        have cc := c_counts (p := p) x6 (goS_len go) hlr j 8 1000
        have ps := passed ok hjl (start_ns ok) (inv_start0 j hjl) hr go
        have cl := cnts_len j run said 0
        generalize cnts j run said 0 = cs at *
        generalize mp p n j = mx at *
        refine wpS_of (e := envL ns (some (iU i)) (some (.fls (menus.map mnU))) (some (pU p)) (some (.tup (run.map iU))) (some (.fls seen)) (some (.fls (said.map wU))) (some .non) (some (iU j)) (some (iU mx))) (h := h8) ?_ ⟨rfl, j + 1, _, _, rfl, hjl, rfl, rfl⟩
        have lc : evE (evC (tabP tab) 1000 9) (.lc false (.v 12) (.nm 12) (.sq (.call 20 [(.v 5), (.v 6), (.v 8), (.v 10)])) [(.cmp .gt (.v 12) (.v 11))] [12]) (envL ns (some (iU i)) (some (.fls (menus.map mnU))) (some (pU p)) (some (.tup (run.map iU))) (some (.fls seen)) (some (.fls (said.map wU))) (some .non) (some (iU j)) (some (iU mx))) h8 = .ok (.fls []) h8 := by
          have src : evE (evC (tabP tab) 1000 9) (.call 20 [(.v 5), (.v 6), (.v 8), (.v 10)]) (envL ns (some (iU i)) (some (.fls (menus.map mnU))) (some (pU p)) (some (.tup (run.map iU))) (some (.fls seen)) (some (.fls (said.map wU))) (some .non) (some (iU j)) (some (iU mx))) h8 = .ok (.tup (cs.map iU)) h8 := by
            generalize hM : menus.map mnU = M at *
            generalize hS : said.map wU = SD at *
            generalize hR : run.map iU = RU at *
            simp [evE, evL, envL, cc]
          rw [lc_tup src, lcL_map iU (fun _ => none) cs rfl (fun z hz => ?_) (by show cs.length ≤ 16777216; omega)]
          · rw [fm_none]
            rfl
          · have hz' : ¬ (mx : Int) < (z : Int) := by have := ps z hz; omega
            generalize hM : menus.map mnU = M at *
            generalize hS : said.map wU = SD at *
            generalize hR : run.map iU = RU at *
            have gt : ∀ hh, cpO hh .gt (iU z) (iU mx) = some (decide ((mx : Int) < (z : Int))) := fun _ => rfl
            simp [lcStp, tgE, wipeU, envL, evCs, evE, gt, hz']
        generalize hLC : (E.lc false (.v 12) (.nm 12) _ _ [12]) = LC at lc ⊢
        generalize hM : menus.map mnU = M at *
        generalize hS : said.map wU = SD at *
        generalize hR : run.map iU = RU at *
        simp only [envL] at lc
        simp [evSs, evS, evE, evL, evOr, envL, cm, ttE_nm, biE, un1, isTy, lc, newL0, cp_nil_ne]
      · rintro e h8 ⟨j, x10, x11, e3, hj, rfl, rfl⟩
        exact ⟨rfl, i + 1, _, _, _, _, _, _, _, _, _, rfl, hlt, rfl, x6⟩
    · rintro e h' ⟨i, x3, x4, x5, x6, x7, x8, x9, x10, x11, e2, hi, rfl, x⟩
      dsimp only
      rw [evSs_one]
      refine wpS_ret (u := .bl true) (h := h') (by simp [evS, evE]) ?_
      exact fin_cl rfl rfl rfl
  obtain ⟨u, h, e, rfl⟩ := wpR_ex key
  exact ⟨h, e⟩
end K80

namespace K80
open PySem L2 TV
theorem all_mk {l : PySem.W.OpenLaw} {w : World} {K : PySem.W.Frag} {h : Heap} {mg : Str → Option Value} {fa f0 f1 f2 f3 f4 f5 f6 f7 f8 f9 f10 f11 f12 f13 f14 f15 f16 f17 f18 f19 f20 f21 f22 : Addr} (X : K.In h) (G : h.Ns mainGlobals mg) (hfa : mg "law" = some (.ref fa))
    {od0 an0 od1 an1 od2 an2 od3 an3 od4 an4 od5 an5 od6 an6 od7 an7 od8 an8 od9 an9 od10 an10 od11 an11 od12 an12 od13 an13 od14 an14 od15 an15 od16 an16 od17 an17 od18 an18 od19 an19 od20 an20 od21 an21 od22 an22 : Option Addr} {sl0 sl1 sl2 sl3 sl4 sl5 sl6 sl7 sl8 sl9 sl10 sl11 sl12 sl13 sl14 sl15 sl16 sl17 sl18 sl19 sl20 sl21 sl22 : Array (Option Value)}
    {oc0 kV0 dc0 pm0 cd0 ct0 oc1 kV1 dc1 pm1 cd1 ct1 oc2 kV2 dc2 pm2 cd2 ct2 oc3 kV3 dc3 pm3 cd3 ct3 oc4 kV4 dc4 pm4 cd4 ct4 oc5 kV5 dc5 pm5 cd5 ct5 oc6 kV6 dc6 pm6 cd6 ct6 oc7 kV7 dc7 pm7 cd7 ct7 oc8 kV8 dc8 pm8 cd8 ct8 oc9 kV9 dc9 pm9 cd9 ct9 oc10 kV10 dc10 pm10 cd10 ct10 oc11 kV11 dc11 pm11 cd11 ct11 oc12 kV12 dc12 pm12 cd12 ct12 oc13 kV13 dc13 pm13 cd13 ct13 oc14 kV14 dc14 pm14 cd14 ct14 oc15 kV15 dc15 pm15 cd15 ct15 oc16 kV16 dc16 pm16 cd16 ct16 oc17 kV17 dc17 pm17 cd17 ct17 oc18 kV18 dc18 pm18 cd18 ct18 oc19 kV19 dc19 pm19 cd19 ct19 oc20 kV20 dc20 pm20 cd20 ct20 oc21 kV21 dc21 pm21 cd21 ct21 oc22 kV22 dc22 pm22 cd22 ct22 : Value}
    (a0 : PySem.W.nsIn K mainGlobals "first_slip" = some (some (.ref f0))) (l0 : K.lookup f0 = some ⟨oc0, od0, .func (PySem.W.fnOf "first_slip" "first_slip" (defArgs d_first_slip.st) (defBody d_first_slip.st) (defScope d_first_slip.st) .none kV0 dc0 pm0 an0 cd0 ct0), sl0⟩) (c0 : PySem.W.codeIn K cd0 "first_slip" = true) (k0 : PySem.W.keepIn K (.ref f0) = true)
    (a1 : PySem.W.nsIn K mainGlobals "lack" = some (some (.ref f1))) (l1 : K.lookup f1 = some ⟨oc1, od1, .func (PySem.W.fnOf "lack" "lack" (defArgs d_lack.st) (defBody d_lack.st) (defScope d_lack.st) .none kV1 dc1 pm1 an1 cd1 ct1), sl1⟩) (c1 : PySem.W.codeIn K cd1 "lack" = true) (k1 : PySem.W.keepIn K (.ref f1) = true)
    (a2 : PySem.W.nsIn K mainGlobals "fault" = some (some (.ref f2))) (l2 : K.lookup f2 = some ⟨oc2, od2, .func (PySem.W.fnOf "fault" "fault" (defArgs d_fault.st) (defBody d_fault.st) (defScope d_fault.st) .none kV2 dc2 pm2 an2 cd2 ct2), sl2⟩) (c2 : PySem.W.codeIn K cd2 "fault" = true) (k2 : PySem.W.keepIn K (.ref f2) = true)
    (a3 : PySem.W.nsIn K mainGlobals "faults" = some (some (.ref f3))) (l3 : K.lookup f3 = some ⟨oc3, od3, .func (PySem.W.fnOf "faults" "faults" (defArgs d_faults.st) (defBody d_faults.st) (defScope d_faults.st) .none kV3 dc3 pm3 an3 cd3 ct3), sl3⟩) (c3 : PySem.W.codeIn K cd3 "faults" = true) (k3 : PySem.W.keepIn K (.ref f3) = true)
    (a4 : PySem.W.nsIn K mainGlobals "is_safe" = some (some (.ref f4))) (l4 : K.lookup f4 = some ⟨oc4, od4, .func (PySem.W.fnOf "is_safe" "is_safe" (defArgs d_is_safe.st) (defBody d_is_safe.st) (defScope d_is_safe.st) .none kV4 dc4 pm4 an4 cd4 ct4), sl4⟩) (c4 : PySem.W.codeIn K cd4 "is_safe" = true) (k4 : PySem.W.keepIn K (.ref f4) = true)
    (a5 : PySem.W.nsIn K mainGlobals "evens" = some (some (.ref f5))) (l5 : K.lookup f5 = some ⟨oc5, od5, .func (PySem.W.fnOf "evens" "evens" (defArgs d_evens.st) (defBody d_evens.st) (defScope d_evens.st) .none kV5 dc5 pm5 an5 cd5 ct5), sl5⟩) (c5 : PySem.W.codeIn K cd5 "evens" = true) (k5 : PySem.W.keepIn K (.ref f5) = true)
    (a6 : PySem.W.nsIn K mainGlobals "most_passed" = some (some (.ref f6))) (l6 : K.lookup f6 = some ⟨oc6, od6, .func (PySem.W.fnOf "most_passed" "most_passed" (defArgs d_most_passed.st) (defBody d_most_passed.st) (defScope d_most_passed.st) .none kV6 dc6 pm6 an6 cd6 ct6), sl6⟩) (c6 : PySem.W.codeIn K cd6 "most_passed" = true) (k6 : PySem.W.keepIn K (.ref f6) = true)
    (a7 : PySem.W.nsIn K mainGlobals "_law_deck" = some (some (.ref f7))) (l7 : K.lookup f7 = some ⟨oc7, od7, .func (PySem.W.fnOf "_law_deck" "_law_deck" (defArgs d_law_deck.st) (defBody d_law_deck.st) (defScope d_law_deck.st) .none kV7 dc7 pm7 an7 cd7 ct7), sl7⟩) (c7 : PySem.W.codeIn K cd7 "_law_deck" = true) (k7 : PySem.W.keepIn K (.ref f7) = true)
    (a8 : PySem.W.nsIn K mainGlobals "_law_draw" = some (some (.ref f8))) (l8 : K.lookup f8 = some ⟨oc8, od8, .func (PySem.W.fnOf "_law_draw" "_law_draw" (defArgs d_law_draw.st) (defBody d_law_draw.st) (defScope d_law_draw.st) .none kV8 dc8 pm8 an8 cd8 ct8), sl8⟩) (c8 : PySem.W.codeIn K cd8 "_law_draw" = true) (k8 : PySem.W.keepIn K (.ref f8) = true)
    (a9 : PySem.W.nsIn K mainGlobals "_law_pick" = some (some (.ref f9))) (l9 : K.lookup f9 = some ⟨oc9, od9, .func (PySem.W.fnOf "_law_pick" "_law_pick" (defArgs d_law_pick.st) (defBody d_law_pick.st) (defScope d_law_pick.st) .none kV9 dc9 pm9 an9 cd9 ct9), sl9⟩) (c9 : PySem.W.codeIn K cd9 "_law_pick" = true) (k9 : PySem.W.keepIn K (.ref f9) = true)
    (a10 : PySem.W.nsIn K mainGlobals "_law_mixed" = some (some (.ref f10))) (l10 : K.lookup f10 = some ⟨oc10, od10, .func (PySem.W.fnOf "_law_mixed" "_law_mixed" (defArgs d_law_mixed.st) (defBody d_law_mixed.st) (defScope d_law_mixed.st) .none kV10 dc10 pm10 an10 cd10 ct10), sl10⟩) (c10 : PySem.W.codeIn K cd10 "_law_mixed" = true) (k10 : PySem.W.keepIn K (.ref f10) = true)
    (a11 : PySem.W.nsIn K mainGlobals "_law_orders" = some (some (.ref f11))) (l11 : K.lookup f11 = some ⟨oc11, od11, .func (PySem.W.fnOf "_law_orders" "_law_orders" (defArgs d_law_orders.st) (defBody d_law_orders.st) (defScope d_law_orders.st) .none kV11 dc11 pm11 an11 cd11 ct11), sl11⟩) (c11 : PySem.W.codeIn K cd11 "_law_orders" = true) (k11 : PySem.W.keepIn K (.ref f11) = true)
    (a12 : PySem.W.nsIn K mainGlobals "_law_safe" = some (some (.ref f12))) (l12 : K.lookup f12 = some ⟨oc12, od12, .func (PySem.W.fnOf "_law_safe" "_law_safe" (defArgs d_law_safe.st) (defBody d_law_safe.st) (defScope d_law_safe.st) .none kV12 dc12 pm12 an12 cd12 ct12), sl12⟩) (c12 : PySem.W.codeIn K cd12 "_law_safe" = true) (k12 : PySem.W.keepIn K (.ref f12) = true)
    (a13 : PySem.W.nsIn K mainGlobals "_law_evens" = some (some (.ref f13))) (l13 : K.lookup f13 = some ⟨oc13, od13, .func (PySem.W.fnOf "_law_evens" "_law_evens" (defArgs d_law_evens.st) (defBody d_law_evens.st) (defScope d_law_evens.st) .none kV13 dc13 pm13 an13 cd13 ct13), sl13⟩) (c13 : PySem.W.codeIn K cd13 "_law_evens" = true) (k13 : PySem.W.keepIn K (.ref f13) = true)
    (a14 : PySem.W.nsIn K mainGlobals "_law_begun" = some (some (.ref f14))) (l14 : K.lookup f14 = some ⟨oc14, od14, .func (PySem.W.fnOf "_law_begun" "_law_begun" (defArgs d_law_begun.st) (defBody d_law_begun.st) (defScope d_law_begun.st) .none kV14 dc14 pm14 an14 cd14 ct14), sl14⟩) (c14 : PySem.W.codeIn K cd14 "_law_begun" = true) (k14 : PySem.W.keepIn K (.ref f14) = true)
    (a15 : PySem.W.nsIn K mainGlobals "_law_flag" = some (some (.ref f15))) (l15 : K.lookup f15 = some ⟨oc15, od15, .func (PySem.W.fnOf "_law_flag" "_law_flag" (defArgs d_law_flag.st) (defBody d_law_flag.st) (defScope d_law_flag.st) .none kV15 dc15 pm15 an15 cd15 ct15), sl15⟩) (c15 : PySem.W.codeIn K cd15 "_law_flag" = true) (k15 : PySem.W.keepIn K (.ref f15) = true)
    (a16 : PySem.W.nsIn K mainGlobals "_law_at_look" = some (some (.ref f16))) (l16 : K.lookup f16 = some ⟨oc16, od16, .func (PySem.W.fnOf "_law_at_look" "_law_at_look" (defArgs d_law_at_look.st) (defBody d_law_at_look.st) (defScope d_law_at_look.st) .none kV16 dc16 pm16 an16 cd16 ct16), sl16⟩) (c16 : PySem.W.codeIn K cd16 "_law_at_look" = true) (k16 : PySem.W.keepIn K (.ref f16) = true)
    (a17 : PySem.W.nsIn K mainGlobals "_law_next" = some (some (.ref f17))) (l17 : K.lookup f17 = some ⟨oc17, od17, .func (PySem.W.fnOf "_law_next" "_law_next" (defArgs d_law_next.st) (defBody d_law_next.st) (defScope d_law_next.st) .none kV17 dc17 pm17 an17 cd17 ct17), sl17⟩) (c17 : PySem.W.codeIn K cd17 "_law_next" = true) (k17 : PySem.W.keepIn K (.ref f17) = true)
    (a18 : PySem.W.nsIn K mainGlobals "_law_moved" = some (some (.ref f18))) (l18 : K.lookup f18 = some ⟨oc18, od18, .func (PySem.W.fnOf "_law_moved" "_law_moved" (defArgs d_law_moved.st) (defBody d_law_moved.st) (defScope d_law_moved.st) .none kV18 dc18 pm18 an18 cd18 ct18), sl18⟩) (c18 : PySem.W.codeIn K cd18 "_law_moved" = true) (k18 : PySem.W.keepIn K (.ref f18) = true)
    (a19 : PySem.W.nsIn K mainGlobals "_law_walk" = some (some (.ref f19))) (l19 : K.lookup f19 = some ⟨oc19, od19, .func (PySem.W.fnOf "_law_walk" "_law_walk" (defArgs d_law_walk.st) (defBody d_law_walk.st) (defScope d_law_walk.st) .none kV19 dc19 pm19 an19 cd19 ct19), sl19⟩) (c19 : PySem.W.codeIn K cd19 "_law_walk" = true) (k19 : PySem.W.keepIn K (.ref f19) = true)
    (a20 : PySem.W.nsIn K mainGlobals "_law_counts" = some (some (.ref f20))) (l20 : K.lookup f20 = some ⟨oc20, od20, .func (PySem.W.fnOf "_law_counts" "_law_counts" (defArgs d_law_counts.st) (defBody d_law_counts.st) (defScope d_law_counts.st) .none kV20 dc20 pm20 an20 cd20 ct20), sl20⟩) (c20 : PySem.W.codeIn K cd20 "_law_counts" = true) (k20 : PySem.W.keepIn K (.ref f20) = true)
    (a21 : PySem.W.nsIn K mainGlobals "_law_long" = some (some (.ref f21))) (l21 : K.lookup f21 = some ⟨oc21, od21, .func (PySem.W.fnOf "_law_long" "_law_long" (defArgs d_law_long.st) (defBody d_law_long.st) (defScope d_law_long.st) .none kV21 dc21 pm21 an21 cd21 ct21), sl21⟩) (c21 : PySem.W.codeIn K cd21 "_law_long" = true) (k21 : PySem.W.keepIn K (.ref f21) = true)
    (a22 : PySem.W.nsIn K mainGlobals "law" = some (some (.ref f22))) (l22 : K.lookup f22 = some ⟨oc22, od22, .func (PySem.W.fnOf "law" "law" (defArgs d_law.st) (defBody d_law.st) (defScope d_law.st) .none kV22 dc22 pm22 an22 cd22 ct22), sl22⟩) (c22 : PySem.W.codeIn K cd22 "law" = true) (k22 : PySem.W.keepIn K (.ref f22) = true)
    (z0 : PySem.W.nsIn K mainGlobals "abs" = some none)
    (z1 : PySem.W.nsIn K mainGlobals "bool" = some none)
    (z2 : PySem.W.nsIn K mainGlobals "enumerate" = some none)
    (z3 : PySem.W.nsIn K mainGlobals "int" = some none)
    (z4 : PySem.W.nsIn K mainGlobals "isinstance" = some none)
    (z5 : PySem.W.nsIn K mainGlobals "len" = some none)
    (z6 : PySem.W.nsIn K mainGlobals "list" = some none)
    (z7 : PySem.W.nsIn K mainGlobals "max" = some none)
    (z8 : PySem.W.nsIn K mainGlobals "min" = some none)
    (z9 : PySem.W.nsIn K mainGlobals "range" = some none)
    (z10 : PySem.W.nsIn K mainGlobals "tuple" = some none)
    (plain : ∀ ns : List Int, ns.length ≤ 63 → ∃ h, evC (tabP tab) 1000 10 22 [.rls ns] [] = .ok (.bl true) h) :
    ∃ fd : FuncData, (∀ (s : Shared) (v : Value), BindsTo s fd ⟨[v], []⟩ [("script", v)]) ∧ ∀ base : Heap, K.In base → base.Ns mainGlobals mg → FnOk l.prog w K mg base CX0 10 fa fd ["script"] (spLaw K) := by
  have e := hfa.symm.trans (PySem.W.mg_of X G a22)
  cases e
  have F0 := fun_mk (st := d_first_slip.st) l0 c0 k0
  have F1 := fun_mk (st := d_lack.st) l1 c1 k1
  have F2 := fun_mk (st := d_fault.st) l2 c2 k2
  have F3 := fun_mk (st := d_faults.st) l3 c3 k3
  have F4 := fun_mk (st := d_is_safe.st) l4 c4 k4
  have F5 := fun_mk (st := d_evens.st) l5 c5 k5
  have F6 := fun_mk (st := d_most_passed.st) l6 c6 k6
  have F7 := fun_mk (st := d_law_deck.st) l7 c7 k7
  have F8 := fun_mk (st := d_law_draw.st) l8 c8 k8
  have F9 := fun_mk (st := d_law_pick.st) l9 c9 k9
  have F10 := fun_mk (st := d_law_mixed.st) l10 c10 k10
  have F11 := fun_mk (st := d_law_orders.st) l11 c11 k11
  have F12 := fun_mk (st := d_law_safe.st) l12 c12 k12
  have F13 := fun_mk (st := d_law_evens.st) l13 c13 k13
  have F14 := fun_mk (st := d_law_begun.st) l14 c14 k14
  have F15 := fun_mk (st := d_law_flag.st) l15 c15 k15
  have F16 := fun_mk (st := d_law_at_look.st) l16 c16 k16
  have F17 := fun_mk (st := d_law_next.st) l17 c17 k17
  have F18 := fun_mk (st := d_law_moved.st) l18 c18 k18
  have F19 := fun_mk (st := d_law_walk.st) l19 c19 k19
  have F20 := fun_mk (st := d_law_counts.st) l20 c20 k20
  have F21 := fun_mk (st := d_law_long.st) l21 c21 k21
  have F22 := fun_mk (st := d_law.st) l22 c22 k22
  have topf : ∀ D ∈ tab, TopF K mg D := by
    intro D hD
    simp only [tab, List.mem_cons, List.not_mem_nil, or_false] at hD
    rcases hD with rfl | rfl | rfl | rfl | rfl | rfl | rfl | rfl | rfl | rfl | rfl | rfl | rfl | rfl | rfl | rfl | rfl | rfl | rfl | rfl | rfl | rfl | rfl
    · exact ⟨_, _, F0, PySem.W.mg_of X G a0, F0.binds (ps := d_first_slip.ps) fun _ _ _ _ _ _ us hl => match us, hl with | [_, _, _], _ => rfl⟩
    · exact ⟨_, _, F1, PySem.W.mg_of X G a1, F1.binds (ps := d_lack.ps) fun _ _ _ _ _ _ us hl => match us, hl with | [_, _, _, _], _ => rfl⟩
    · exact ⟨_, _, F2, PySem.W.mg_of X G a2, F2.binds (ps := d_fault.ps) fun _ _ _ _ _ _ us hl => match us, hl with | [_, _, _], _ => rfl⟩
    · exact ⟨_, _, F3, PySem.W.mg_of X G a3, F3.binds (ps := d_faults.ps) fun _ _ _ _ _ _ us hl => match us, hl with | [_], _ => rfl⟩
    · exact ⟨_, _, F4, PySem.W.mg_of X G a4, F4.binds (ps := d_is_safe.ps) fun _ _ _ _ _ _ us hl => match us, hl with | [_], _ => rfl⟩
    · exact ⟨_, _, F5, PySem.W.mg_of X G a5, F5.binds (ps := d_evens.ps) fun _ _ _ _ _ _ us hl => match us, hl with | [_, _], _ => rfl⟩
    · exact ⟨_, _, F6, PySem.W.mg_of X G a6, F6.binds (ps := d_most_passed.ps) fun _ _ _ _ _ _ us hl => match us, hl with | [_, _], _ => rfl⟩
    · exact ⟨_, _, F7, PySem.W.mg_of X G a7, F7.binds (ps := d_law_deck.ps) fun _ _ _ _ _ _ us hl => match us, hl with | [_], _ => rfl⟩
    · exact ⟨_, _, F8, PySem.W.mg_of X G a8, F8.binds (ps := d_law_draw.ps) fun _ _ _ _ _ _ us hl => match us, hl with | [_, _], _ => rfl⟩
    · exact ⟨_, _, F9, PySem.W.mg_of X G a9, F9.binds (ps := d_law_pick.ps) fun _ _ _ _ _ _ us hl => match us, hl with | [_, _], _ => rfl⟩
    · exact ⟨_, _, F10, PySem.W.mg_of X G a10, F10.binds (ps := d_law_mixed.ps) fun _ _ _ _ _ _ us hl => match us, hl with | [_, _], _ => rfl⟩
    · exact ⟨_, _, F11, PySem.W.mg_of X G a11, F11.binds (ps := d_law_orders.ps) fun _ _ _ _ _ _ us hl => match us, hl with | [_, _], _ => rfl⟩
    · exact ⟨_, _, F12, PySem.W.mg_of X G a12, F12.binds (ps := d_law_safe.ps) fun _ _ _ _ _ _ us hl => match us, hl with | [_, _, _], _ => rfl⟩
    · exact ⟨_, _, F13, PySem.W.mg_of X G a13, F13.binds (ps := d_law_evens.ps) fun _ _ _ _ _ _ us hl => match us, hl with | [_, _], _ => rfl⟩
    · exact ⟨_, _, F14, PySem.W.mg_of X G a14, F14.binds (ps := d_law_begun.ps) fun _ _ _ _ _ _ us hl => match us, hl with | [_], _ => rfl⟩
    · exact ⟨_, _, F15, PySem.W.mg_of X G a15, F15.binds (ps := d_law_flag.ps) fun _ _ _ _ _ _ us hl => match us, hl with | [_, _, _], _ => rfl⟩
    · exact ⟨_, _, F16, PySem.W.mg_of X G a16, F16.binds (ps := d_law_at_look.ps) fun _ _ _ _ _ _ us hl => match us, hl with | [_, _, _], _ => rfl⟩
    · exact ⟨_, _, F17, PySem.W.mg_of X G a17, F17.binds (ps := d_law_next.ps) fun _ _ _ _ _ _ us hl => match us, hl with | [_, _, _], _ => rfl⟩
    · exact ⟨_, _, F18, PySem.W.mg_of X G a18, F18.binds (ps := d_law_moved.ps) fun _ _ _ _ _ _ us hl => match us, hl with | [_, _, _], _ => rfl⟩
    · exact ⟨_, _, F19, PySem.W.mg_of X G a19, F19.binds (ps := d_law_walk.ps) fun _ _ _ _ _ _ us hl => match us, hl with | [_, _, _], _ => rfl⟩
    · exact ⟨_, _, F20, PySem.W.mg_of X G a20, F20.binds (ps := d_law_counts.ps) fun _ _ _ _ _ _ us hl => match us, hl with | [_, _, _, _], _ => rfl⟩
    · exact ⟨_, _, F21, PySem.W.mg_of X G a21, F21.binds (ps := d_law_long.ps) fun _ _ _ _ _ _ us hl => match us, hl with | [_, _, _], _ => rfl⟩
    · exact ⟨_, _, F22, PySem.W.mg_of X G a22, F22.binds (ps := d_law.ps) fun _ _ _ _ _ _ us hl => match us, hl with | [_], _ => rfl⟩
  have bl : ∀ x, blt.contains x = true → mg x = none := by
    intro x hx
    have hx := List.contains_iff_mem.mp hx
    simp only [blt, List.mem_cons, List.not_mem_nil, or_false] at hx
    rcases hx with rfl | rfl | rfl | rfl | rfl | rfl | rfl | rfl | rfl | rfl | rfl
    · exact PySem.W.mg_none_of X G z0
    · exact PySem.W.mg_none_of X G z1
    · exact PySem.W.mg_none_of X G z2
    · exact PySem.W.mg_none_of X G z3
    · exact PySem.W.mg_none_of X G z4
    · exact PySem.W.mg_none_of X G z5
    · exact PySem.W.mg_none_of X G z6
    · exact PySem.W.mg_none_of X G z7
    · exact PySem.W.mg_none_of X G z8
    · exact PySem.W.mg_none_of X G z9
    · exact PySem.W.mg_none_of X G z10
  refine ⟨PySem.W.fnOf "law" "law" (defArgs d_law.st) (defBody d_law.st) (defScope d_law.st) .none kV22 dc22 pm22 an22 cd22 ct22, fun s v => .of_eq rfl, fun base _ _ => ?_⟩
  exact law_ok (cls := fun _ => none) (tab_ok topf ck bl 10 22 d_law rfl _ _ F22) plain
theorem walk {l : PySem.W.OpenLaw} {q : Program} {loose : List Str} {XP : (Str → Option Value) → Heap → Prop} {YP : World → Heap → Prop} {d : DefRec} {K : Params → PySem.W.Frag} (hn : l.most = some 63) (hdf : d.params.defaults = [])
    (hY : ∀ (w : World) (h : Heap), YP w h → (K w.params).In h)
    (F : ∀ (w : World) (mg : Str → Option Value) (fa : Addr) (h : Heap), (K w.params).In h → h.Ns mainGlobals mg → mg d.name = some (.ref fa) →
      ∃ fd : FuncData, (∀ (s : Shared) (u : Value), BindsTo s fd ⟨[u], []⟩ [("script", u)]) ∧ ∀ base : Heap, (K w.params).In base → base.Ns mainGlobals mg → FnOk l.prog w (K w.params) mg base CX0 10 fa fd ["script"] (spLaw (K w.params))) :
    PySem.W.WalkO q loose XP YP l.row.toRowW d [] (fun f vs => PySem.call f vs) :=
  L2.walk_of (n := 63) (k := 10) (x := "script") (CX := fun _ => CX0) (sp := fun w => spLaw (K w.params)) hn (by decide) hdf ⟨rfl, by decide, by decide⟩ hY F (fun _ _ a ns hl hO hS => ⟨a, ns, rfl, hO, hS, hl, fun _ => rfl⟩) fun _ _ _ _ _ z => z
end K80

open PySem PySem.W PyProof.Rows in
set_option maxRecDepth 100000 in
set_option maxHeartbeats 0 in
theorem PySem.Challenge.cw_bowstands_k80_whole_main_nobody_is_passe_holds : PySem.Challenge.rw_bowstands_k80_whole_main_nobody_is_passe.Holds := by
  w_on; o_law; k_head; (case hw => w_witness2)
  k_fill
  refine K80.walk (l := PySem.Challenge.rw_bowstands_k80_whole_main_nobody_is_passe) rfl rfl (fun w h Y => PySem.W.kIn_of Y) ?F
  case F =>
    intro w mg fa h KX G hmg
    refine' K80.all_mk KX G hmg ?a0 ?l0 ?c0 ?k0 ?a1 ?l1 ?c1 ?k1 ?a2 ?l2 ?c2 ?k2 ?a3 ?l3 ?c3 ?k3 ?a4 ?l4 ?c4 ?k4 ?a5 ?l5 ?c5 ?k5 ?a6 ?l6 ?c6 ?k6 ?a7 ?l7 ?c7 ?k7 ?a8 ?l8 ?c8 ?k8 ?a9 ?l9 ?c9 ?k9 ?a10 ?l10 ?c10 ?k10 ?a11 ?l11 ?c11 ?k11 ?a12 ?l12 ?c12 ?k12 ?a13 ?l13 ?c13 ?k13 ?a14 ?l14 ?c14 ?k14 ?a15 ?l15 ?c15 ?k15 ?a16 ?l16 ?c16 ?k16 ?a17 ?l17 ?c17 ?k17 ?a18 ?l18 ?c18 ?k18 ?a19 ?l19 ?c19 ?k19 ?a20 ?l20 ?c20 ?k20 ?a21 ?l21 ?c21 ?k21 ?a22 ?l22 ?c22 ?k22 ?z0 ?z1 ?z2 ?z3 ?z4 ?z5 ?z6 ?z7 ?z8 ?z9 ?z10 K80.plain
    (case a0 => k_is)
    (case l0 => k_is)
    (case c0 => k_is)
    (case k0 => k_is)
    (case a1 => k_is)
    (case l1 => k_is)
    (case c1 => k_is)
    (case k1 => k_is)
    (case a2 => k_is)
    (case l2 => k_is)
    (case c2 => k_is)
    (case k2 => k_is)
    (case a3 => k_is)
    (case l3 => k_is)
    (case c3 => k_is)
    (case k3 => k_is)
    (case a4 => k_is)
    (case l4 => k_is)
    (case c4 => k_is)
    (case k4 => k_is)
    (case a5 => k_is)
    (case l5 => k_is)
    (case c5 => k_is)
    (case k5 => k_is)
    (case a6 => k_is)
    (case l6 => k_is)
    (case c6 => k_is)
    (case k6 => k_is)
    (case a7 => k_is)
    (case l7 => k_is)
    (case c7 => k_is)
    (case k7 => k_is)
    (case a8 => k_is)
    (case l8 => k_is)
    (case c8 => k_is)
    (case k8 => k_is)
    (case a9 => k_is)
    (case l9 => k_is)
    (case c9 => k_is)
    (case k9 => k_is)
    (case a10 => k_is)
    (case l10 => k_is)
    (case c10 => k_is)
    (case k10 => k_is)
    (case a11 => k_is)
    (case l11 => k_is)
    (case c11 => k_is)
    (case k11 => k_is)
    (case a12 => k_is)
    (case l12 => k_is)
    (case c12 => k_is)
    (case k12 => k_is)
    (case a13 => k_is)
    (case l13 => k_is)
    (case c13 => k_is)
    (case k13 => k_is)
    (case a14 => k_is)
    (case l14 => k_is)
    (case c14 => k_is)
    (case k14 => k_is)
    (case a15 => k_is)
    (case l15 => k_is)
    (case c15 => k_is)
    (case k15 => k_is)
    (case a16 => k_is)
    (case l16 => k_is)
    (case c16 => k_is)
    (case k16 => k_is)
    (case a17 => k_is)
    (case l17 => k_is)
    (case c17 => k_is)
    (case k17 => k_is)
    (case a18 => k_is)
    (case l18 => k_is)
    (case c18 => k_is)
    (case k18 => k_is)
    (case a19 => k_is)
    (case l19 => k_is)
    (case c19 => k_is)
    (case k19 => k_is)
    (case a20 => k_is)
    (case l20 => k_is)
    (case c20 => k_is)
    (case k20 => k_is)
    (case a21 => k_is)
    (case l21 => k_is)
    (case c21 => k_is)
    (case k21 => k_is)
    (case a22 => k_is)
    (case l22 => k_is)
    (case c22 => k_is)
    (case k22 => k_is)
    (case z0 => k_is)
    (case z1 => k_is)
    (case z2 => k_is)
    (case z3 => k_is)
    (case z4 => k_is)
    (case z5 => k_is)
    (case z6 => k_is)
    (case z7 => k_is)
    (case z8 => k_is)
    (case z9 => k_is)
    (case z10 => k_is)
